/- What the laws need, part 2: tributaryref08.Same. No condition. tributaryref09.Same. No condition. The plain twin of tributaryref08.Build. No condition. tributaryref08.Build. No condition but that there are not too many. Four growing rows of a call's own, held by an array of the call's own. No condition. context.apart. No condition but that there are not too many. cmp.Compare at texts; causal.greater. No condition. ormap.Keys. No condition but that there are not too many. tributaryref06.By, Of. No condition but that there are not too many, and that numbers are right. tributaryref06.Of. No condition but that there are not too many, and that numbers are right. tributaryref07.By, Union, Of. No condition but that there are not too many, and that numbers are right. tributaryref08.Leaves, Dots. No condition but that there are not too many, and that numbers are right. tributaryref08.Get. No condition but that there are not too many. Plain law of tributaryref08.Build: the leaves of a tree in order, built again, are the tree; what is built has the leaves that it was built of. No condition. Plain law: what tributaryref08.Get tells of a tree in order is what stands at the path. No condition. Boxes of three cells; what a call hands back that is known. No condition. tributaryref10.Put. No condition but that there are not too many, and that numbers are right. Sets of numbers as lists of runs, in plain Lean: what the reference's sweep makes is a set, of which numbers; two sets of the same numbers are the same. No condition. tributaryref10.Check. No condition but that there are not too many. slices.Grow at no run, slices.Concat at two lists of runs. No condition but that there are not too many. slices.Clone at entries and at spans. No condition but that there are not too many. tree.clone: the tree in blocks of its own. Condition: not too big. -/
import Derived.Deep.LoopGhost
import Derived.Deep.RegionLaw
import Derived.Lib.AppendZerosOnto
import Derived.Lib.SliceRun
import Derived.Sort.Walk0
import Derived.Test.YtlapdmgjfdelnaaGreatRt1
namespace Go.Proofs.YtlapdmgjfdelnaaGreat
open Go.RowKit
set_option maxRecDepth 100000
open Classical in
noncomputable def trEq (s t : Tr) : Bool := decide (s = t)
theorem trEq_iff {s t : Tr} : trEq s t = true ↔ s = t := by simp [trEq]
theorem trEq_no {s t : Tr} : trEq s t = false ↔ s ≠ t := by simp [trEq]

set_option maxHeartbeats 4000000 in
theorem r08same_any (s : Tr) : ∀ (t : Tr) (w : World) (ve vk ue uk : Value), s.rd w w.heap.size ve vk → t.rd w w.heap.size ue uk →
    Calls Tryz.prog 67 #[.agg #[ve, vk], .agg #[ue, uk]] w fun e w' => e = .returned (.bool (trEq s t)) ∧ Below w.heap.size w w' := by
  induction s using Tr.ind with
  | h es ks ih =>
  rintro ⟨es', ks'⟩ w ve vk ue uk h h'
  rw [rd_iff] at h h'
  obtain ⟨⟨A1, n1, rfl, b1, b2, b3⟩, ⟨A2, n2, rfl, c1, c2, c3⟩⟩ := h
  obtain ⟨⟨A3, n3, rfl, d1, d2, d3⟩, ⟨A4, n4, rfl, f1, f2, f3⟩⟩ := h'
  unfold Big at b2 c2 d2 f2
  by_cases hl : es.length = es'.length
  case neg =>
    have hl' : ((es.length : Int) != (es'.length : Int)) = true := by simp; omega
    have HL := hid hl
    clear hl
    go_enter Tryz.func67, Tryz.ntmps67
    go_wp2_with fail
    go_ret
    refine ⟨ret_bool ?_, by go_grown⟩
    rw [eq_comm, trEq_no]
    rintro e; cases e; exact HL.out rfl
  by_cases hm : ks.length = ks'.length
  case neg =>
    have hl' : ((es.length : Int) != (es'.length : Int)) = false := by simp [hl]
    have hm' : ((ks.length : Int) != (ks'.length : Int)) = true := by simp; omega
    have HL := hid hm
    clear hl hm
    go_enter Tryz.func67, Tryz.ntmps67
    go_wp2_with fail
    go_ret
    refine ⟨ret_bool ?_, by go_grown⟩
    rw [eq_comm, trEq_no]
    rintro e; cases e; exact HL.out rfl
  have hl' : ((es.length : Int) != (es'.length : Int)) = false := by simp [hl]
  have hm' : ((ks.length : Int) != (ks'.length : Int)) = false := by simp [hm]
  have HL := hid hl
  have HM := hid hm
  clear hl hm
  go_enter Tryz.func67, Tryz.ntmps67
  go_wp2_with fail
  go_loopw [26] (fun i wr => ∃ k : Nat, k ≤ es.length ∧ i = .int .i64 k ∧ Hid (es.take k = es'.take k) ∧
      Below (w.heap.size + 1 + 1) ((w.alloc (.cells #[.slice A1 es.length n1, .slice A2 ks.length n2] 25)).alloc (.cells #[.slice A3 es'.length n3, .slice A4 ks'.length n4] 25)) wr) (fun i _ => es.length - (intOf i).toNat)
  case atStart => exact ⟨0, Nat.zero_le _, rfl, rfl, Below.refl _ _⟩
  case round =>
    obtain ⟨k, hk, rfl, hrel, hb⟩ := hrel
    have hsz := hb.size
    simp only [World.size_alloc] at hsz
    have hB0 : Below w.heap.size w wr := (((Below.refl _ w).alloc (Nat.le_refl _) _).alloc (by simp) _).trans (hb.mono (by omega))
    have hs0 : wr.cell? ⟨w.heap.size, 0, none⟩ = some (.slice A1 es.length n1) := by rw [hb.cell (p := ⟨w.heap.size, 0, none⟩) (by simp; omega)]; rw [World.cell?_alloc_past _ _ _ (by simp), World.cell?_alloc_new]; rfl
    have hs1 : wr.cell? ⟨w.heap.size, 1, none⟩ = some (.slice A2 ks.length n2) := by rw [hb.cell (p := ⟨w.heap.size, 1, none⟩) (by simp; omega)]; rw [World.cell?_alloc_past _ _ _ (by simp), World.cell?_alloc_new]; rfl
    have ht0 : wr.cell? ⟨w.heap.size + 1, 0, none⟩ = some (.slice A3 es'.length n3) := by rw [hb.cell (p := ⟨w.heap.size + 1, 0, none⟩) (by simp), World.cell?_alloc_at _ _ _ _ (by simp)]; rfl
    have ht1 : wr.cell? ⟨w.heap.size + 1, 1, none⟩ = some (.slice A4 ks'.length n4) := by rw [hb.cell (p := ⟨w.heap.size + 1, 1, none⟩) (by simp), World.cell?_alloc_at _ _ _ _ (by simp)]; rfl
    by_cases hlt : k < es.length
    · have hlt2 : k < es'.length := by have := HL.out; omega
      obtain ⟨x, hx⟩ : ∃ x, es[k]? = some x := ⟨_, List.getElem?_eq_getElem hlt⟩
      obtain ⟨y, hy⟩ : ∃ y, es'[k]? = some y := ⟨_, List.getElem?_eq_getElem hlt2⟩
      obtain ⟨ba, oa, rfl, hbA, hc⟩ := b3 (by rintro rfl; simp at hlt)
      obtain ⟨bb, ob, rfl, hbB, hd⟩ := d3 (by rintro rfl; simp at hlt2)
      obtain ⟨cs, ⟨rfl, hok⟩, _, hu⟩ := hc k _ hx
      obtain ⟨ds, ⟨rfl, hok2⟩, _, hv⟩ := hd k _ hy
      have q0 := far_cell (B := wr.heap.size) ((hB0.cell hbA).trans (hu 0 _ rfl)) (by omega)
      have q1 := far_cell (B := wr.heap.size) ((hB0.cell hbA).trans (hu 1 _ rfl)) (by omega)
      have q2 := far_cell (B := wr.heap.size) ((hB0.cell hbA).trans (hu 2 _ rfl)) (by omega)
      have q3 := far_cell (B := wr.heap.size) ((hB0.cell hbA).trans (hu 3 _ rfl)) (by omega)
      have p0 := far_cell (B := wr.heap.size) ((hB0.cell hbB).trans (hv 0 _ rfl)) (by omega)
      have p1 := far_cell (B := wr.heap.size) ((hB0.cell hbB).trans (hv 1 _ rfl)) (by omega)
      have p2 := far_cell (B := wr.heap.size) ((hB0.cell hbB).trans (hv 2 _ rfl)) (by omega)
      have p3 := far_cell (B := wr.heap.size) ((hB0.cell hbB).trans (hv 3 _ rfl)) (by omega)
      simp only [Nat.add_zero] at q0 p0
      have r0 := far_cell (B := wr.heap.size) hs0 (by omega)
      have r1 := far_cell (B := wr.heap.size) ht0 (by omega)
      have HT := hid (take_eq_succ hx hy hrel.out)
      have HXY : Hid (es = es' → x = y) := fun e => by subst e; rw [hx] at hy; exact Option.some.inj hy
      have gg := guardEntry
      have nn := neqEntry x y
      have hi1 : ((k : Int)) < (es.length : Int) := by omega
      have hi2 : ((k : Int)) < (es'.length : Int) := by omega
      clear hu hv hc hd b3 d3 hx hy hok hok2
      rcases hxy : decide (x = y)
      · have hne : x ≠ y := by simpa using hxy
        go_upto_region 6 with (fail)
        refine wp_region_far wr.heap.size (by kernel_rfl) (by kernel_rfl) ?_
        repeat (go_big_quiet_step (fail))
        refine wpQuiet_nil ?_
        intro wq hbq
        go_wp2_with fail
        go_ret
        refine ⟨ret_bool ?_, hB0.trans (hbq.mono (by omega))⟩
        rw [eq_comm, trEq_no]
        rintro e; cases e; exact hne (HXY.out rfl)
      · have hE := hid (of_decide_eq_true hxy)
        go_upto_region 6 with (fail)
        refine wp_region_far wr.heap.size (by kernel_rfl) (by kernel_rfl) ?_
        repeat (go_big_quiet_step (fail))
        refine wpQuiet_nil ?_
        intro wq hbq
        go_wp2_with fail
        go_roundw
        case rel => exact ⟨k + 1, by omega, by go_num, HT.out.2 hE.out, hb.trans (hbq.mono (by omega))⟩
        case measure => simp [intOf]; omega
    · obtain rfl : k = es.length := by omega
      have HE : Hid (es = es') := by
        have h1 := hrel.out
        rw [List.take_of_length_le (Nat.le_refl _), List.take_of_length_le (by rw [HL.out]; exact Nat.le_refl _)] at h1
        exact h1
      clear hrel hs0 ht0 hB0 b3 d3 hlt
      go_wp2_with fail
      clear hs1 ht1 hsz
      obtain ⟨wo, rfl⟩ : ∃ wo : World, wo = wr := ⟨_, rfl⟩
      go_loopw [44] (fun i wr => ∃ k : Nat, k ≤ ks.length ∧ i = .int .i64 k ∧ Hid (ks.take k = ks'.take k) ∧
        Below (w.heap.size + 1 + 1) ((w.alloc (.cells #[.slice A1 es.length n1, .slice A2 ks.length n2] 25)).alloc (.cells #[.slice A3 es'.length n3, .slice A4 ks'.length n4] 25)) wr) (fun i _ => ks.length - (intOf i).toNat)
      case atStart => exact ⟨0, Nat.zero_le _, rfl, rfl, hb⟩
      case round =>
        clear hb
        obtain ⟨k, hk, rfl, hrel, hb⟩ := hrel
        have hsz := hb.size
        simp only [World.size_alloc] at hsz
        have hB0 : Below w.heap.size w wr := (((Below.refl _ w).alloc (Nat.le_refl _) _).alloc (by simp) _).trans (hb.mono (by omega))
        by_cases hlt : k < ks.length
        · have hlt2 : k < ks'.length := by have := HM.out; omega
          obtain ⟨⟨key, s1⟩, hx⟩ : ∃ x, ks[k]? = some x := ⟨_, List.getElem?_eq_getElem hlt⟩
          obtain ⟨⟨key', t1⟩, hy⟩ : ∃ y, ks'[k]? = some y := ⟨_, List.getElem?_eq_getElem hlt2⟩
          obtain ⟨ba, oa, rfl, hbA, hc⟩ := c3 (by rintro rfl; simp at hlt)
          obtain ⟨bb, ob, rfl, hbB, hd⟩ := f3 (by rintro rfl; simp at hlt2)
          obtain ⟨cs, ⟨v1, v2, rfl, _, hrs⟩, _, hu⟩ := hc k _ hx
          obtain ⟨ds, ⟨u1, u2, rfl, _, hrt⟩, _, hv⟩ := hd k _ hy
          have hs1 : wr.cell? ⟨w.heap.size, 1, none⟩ = some (.slice (some ⟨ba, oa, none⟩) ks.length n2) := by rw [hb.cell (p := ⟨w.heap.size, 1, none⟩) (by simp; omega)]; rw [World.cell?_alloc_past _ _ _ (by simp), World.cell?_alloc_new]; rfl
          have ht1 : wr.cell? ⟨w.heap.size + 1, 1, none⟩ = some (.slice (some ⟨bb, ob, none⟩) ks'.length n4) := by rw [hb.cell (p := ⟨w.heap.size + 1, 1, none⟩) (by simp), World.cell?_alloc_at _ _ _ _ (by simp)]; rfl
          have q0 := far_cell (B := wr.heap.size) ((hB0.cell hbA).trans (hu 0 _ rfl)) (by omega)
          have q1 := far_cell (B := wr.heap.size) ((hB0.cell hbA).trans (hu 1 _ rfl)) (by omega)
          have q2 := far_cell (B := wr.heap.size) ((hB0.cell hbA).trans (hu 2 _ rfl)) (by omega)
          have p0 := far_cell (B := wr.heap.size) ((hB0.cell hbB).trans (hv 0 _ rfl)) (by omega)
          have p1 := far_cell (B := wr.heap.size) ((hB0.cell hbB).trans (hv 1 _ rfl)) (by omega)
          have p2 := far_cell (B := wr.heap.size) ((hB0.cell hbB).trans (hv 2 _ rfl)) (by omega)
          simp only [Nat.add_zero] at q0 p0
          have r0 := far_cell (B := wr.heap.size) hs1 (by omega)
          have r1 := far_cell (B := wr.heap.size) ht1 (by omega)
          have HT := hid (take_eq_succ hx hy hrel.out)
          have HXY : Hid (ks = ks' → (key, s1) = (key', t1)) := fun e => by subst e; rw [hx] at hy; exact Option.some.inj hy
          have hmem : (key, s1) ∈ ks := List.mem_of_getElem? hx
          have HRS : Hid (∀ w', Below wr.heap.size wr w' → s1.rd w' w'.heap.size v1 v2) := fun w' hb' => rd_below (hB0.trans (hb'.mono (by omega))) (by have := hb'.size; omega) _ _ _ hrs
          have HRT : Hid (∀ w', Below wr.heap.size wr w' → t1.rd w' w'.heap.size u1 u2) := fun w' hb' => rd_below (hB0.trans (hb'.mono (by omega))) (by have := hb'.size; omega) _ _ _ hrt
          have hi1 : ((k : Int)) < (ks.length : Int) := by omega
          have hi2 : ((k : Int)) < (ks'.length : Int) := by omega
          clear hu hv hc hd c3 f3 hx hy hs1 ht1 hrs hrt
          rcases hxy : (key.toList == key'.toList)
          · have hne : key ≠ key' := fun e => by rw [e] at hxy; simp at hxy
            have hxy2 : (key.toList != key'.toList) = true := by simp [bne, hxy]
            go_upto_region 12 with (fail)
            refine wp_region_far wr.heap.size (by kernel_rfl) (by kernel_rfl) ?_
            repeat (go_big_quiet_step (fail))
            refine wpQuiet_nil ?_
            intro wq hbq
            go_wp2_with fail
            go_ret
            refine ⟨ret_bool ?_, hB0.trans (hbq.mono (by omega))⟩
            rw [eq_comm, trEq_no]
            rintro e; cases e; exact hne (Prod.mk.inj (HXY.out rfl)).1
          have hE := hid ((bytes_inj key key').1 (by simpa using hxy))
          have hxy2 : (key.toList != key'.toList) = false := by simp [bne, hxy]
          rcases hst : trEq s1 t1
          · have hne := trEq_no.1 hst
            go_upto_region 12 with (fail)
            refine wp_region_far wr.heap.size (by kernel_rfl) (by kernel_rfl) ?_
            repeat (go_big_quiet_step ((go_at_call 67; exact Calls.far_all (Nat.le_refl _) (fun w' hb' => ih key s1 hmem t1 w' _ _ _ _ (HRS.out w' hb') (HRT.out w' hb')))))
            refine wpQuiet_nil ?_
            intro wq hbq
            go_wp2_with fail
            go_ret
            refine ⟨ret_bool ?_, hB0.trans (hbq.mono (by omega))⟩
            rw [eq_comm, trEq_no]
            rintro e; cases e; exact hne (Prod.mk.inj (HXY.out rfl)).2
          · have hF := hid (trEq_iff.1 hst)
            go_upto_region 12 with (fail)
            refine wp_region_far wr.heap.size (by kernel_rfl) (by kernel_rfl) ?_
            repeat (go_big_quiet_step ((go_at_call 67; exact Calls.far_all (Nat.le_refl _) (fun w' hb' => ih key s1 hmem t1 w' _ _ _ _ (HRS.out w' hb') (HRT.out w' hb')))))
            refine wpQuiet_nil ?_
            intro wq hbq
            go_wp2_with fail
            go_roundw
            case rel => exact ⟨k + 1, by omega, by go_num, HT.out.2 (by rw [hE.out, hF.out]), hb.trans (hbq.mono (by omega))⟩
            case measure => simp [intOf]; omega
        · obtain rfl : k = ks.length := by omega
          have HK : Hid (ks = ks') := by
            have h1 := hrel.out
            rw [List.take_of_length_le (Nat.le_refl _), List.take_of_length_le (by rw [HM.out]; exact Nat.le_refl _)] at h1
            exact h1
          clear hrel
          go_wp2_with fail
          go_ret
          refine ⟨ret_bool ?_, hB0⟩
          rw [eq_comm, trEq_iff, HE.out, HK.out]
end Go.Proofs.YtlapdmgjfdelnaaGreat

namespace Go.Proofs.YtlapdmgjfdelnaaGreat
open Go.RowKit
set_option maxRecDepth 100000
set_option maxHeartbeats 2000000 in
theorem r09same_any (s t : Tr) (a b : List Sp) (ve vk ue uk va vb : Value) (w : World) (h : s.rd w w.heap.size ve vk) (h' : t.rd w w.heap.size ue uk) (ha : SlP w w.heap.size 3 SpE va a) (hb : SlP w w.heap.size 3 SpE vb b) :
    Calls Tryz.prog 19 #[.agg #[ve, vk, va], .agg #[ue, uk, vb]] w fun e w' => e = .returned (.bool (trEq s t && decide (a = b))) ∧ Below w.heap.size w w' := by
  obtain ⟨A1, n1, A2, n2, rfl, rfl⟩ := rd_shape h
  obtain ⟨A3, n3, A4, n4, rfl, rfl⟩ := rd_shape h'
  have ha0 := ha
  have hb0 := hb
  obtain ⟨A5, n5, rfl, _⟩ := ha
  obtain ⟨A6, n6, rfl, _⟩ := hb
  have hB : Below w.heap.size w ((w.alloc (.cells #[.slice A1 s.es.length n1, .slice A2 s.ks.length n2, .slice A5 a.length n5] 29)).alloc (.cells #[.slice A3 t.es.length n3, .slice A4 t.ks.length n4, .slice A6 b.length n6] 29)) := ((Below.refl _ w).alloc (Nat.le_refl _) _).alloc (by simp) _
  go_enter Tryz.func19, Tryz.ntmps19
  rcases hst : trEq s t
  · go_wp2_with (go_at_call 67; refine (r08same_any s t _ _ _ _ _ (rd_below hB hB.size _ _ _ h) (rd_below hB hB.size _ _ _ h')).mono ?_; rw [hst]; rintro e w1 ⟨rfl, hb1⟩)
    go_ret
    exact ⟨ret_bool (by simp), hB.trans (hb1.mono hB.size)⟩
  · go_wp2_with (first | (go_at_call 67; go_loud ((refine (r08same_any s t _ _ _ _ _ (rd_below hB hB.size _ _ _ h) (rd_below hB hB.size _ _ _ h')).mono ?_); rw [hst]; rintro e w1 ⟨rfl, hb1⟩; have hc0 : w1.cell? ⟨w.heap.size, 2, none⟩ = some (.slice A5 a.length n5) := (by rw [hb1.cell (p := ⟨w.heap.size, 2, none⟩) (by simp; omega), World.cell?_alloc_past _ _ _ (by simp), World.cell?_alloc_new]; rfl); have hc1 : w1.cell? ⟨w.heap.size + 1, 2, none⟩ = some (.slice A6 b.length n6) := (by rw [hb1.cell (p := ⟨w.heap.size + 1, 2, none⟩) (by simp), World.cell?_alloc_at _ _ _ _ (by simp)]; rfl); have hB1 := hid (hB.trans (hb1.mono hB.size)))) | (go_at_call 45; go_loud ((refine (r07same_any a b _ _ w1 _ (ha0.imp hB1.out hB1.out.size (fun _ _ _ h => h)) (hb0.imp hB1.out hB1.out.size (fun _ _ _ h => h))).mono ?_); rintro e w2 ⟨rfl, q, rfl⟩)))
    go_ret
    exact ⟨ret_bool (by simp), hB1.out.trans ⟨rfl, rfl, rfl, Nat.le_refl _, fun _ _ => rfl⟩⟩
end Go.Proofs.YtlapdmgjfdelnaaGreat

namespace Go.Proofs.YtlapdmgjfdelnaaGreat
open Go.RowKit
set_option maxRecDepth 100000

def ltS (a b : ByteArray) : Bool := Op.bytesLess a.toList b.toList
theorem ltS_irrefl (a : ByteArray) : ltS a a = false := by
  unfold ltS; rw [bytesLess_eq]; simp [List.lt_irrefl]
theorem ltS_trans {a b c : ByteArray} (h : ltS a b = true) (k : ltS b c = true) : ltS a c = true := by
  unfold ltS at *; rw [bytesLess_eq] at *
  simp only [decide_eq_true_eq] at *
  exact List.lt_trans h k
theorem ltS_total {a b : ByteArray} (h : ltS a b = false) (k : ltS b a = false) : a = b := by
  unfold ltS at *; rw [bytesLess_eq] at *
  simp only [decide_eq_false_iff_not, List.not_lt] at *
  exact (bytes_inj a b).1 (List.le_antisymm k h)
theorem ltS_gt (a b : ByteArray) : ltS a b = (!Op.bytesLess b.toList a.toList && !(b.toList == a.toList)) := by
  unfold ltS
  rw [bytesLess_eq, bytesLess_eq, Bool.eq_iff_iff]
  simp only [decide_eq_true_eq, Bool.and_eq_true, Bool.not_eq_true', decide_eq_false_iff_not, beq_eq_false_iff_ne, List.not_lt]
  constructor
  · intro h; exact ⟨List.le_of_lt h, fun e => by rw [e] at h; exact List.lt_irrefl _ h⟩
  · rintro ⟨h, k⟩
    rcases Decidable.em (a.toList < b.toList) with h' | h'
    · exact h'
    · exact absurd (List.le_antisymm (List.not_lt.1 h') h) k
theorem lt_irrefl' (a : Dt) : a.lt a = false := by simp [Dt.lt]
theorem lt_trans' {a b c : Dt} (h : a.lt b = true) (k : b.lt c = true) : a.lt c = true := by
  unfold Dt.lt at *
  split at h <;> split at k <;> split <;> simp at * <;> omega

/-- May an entry be the next one? -/
def selC (last : Option Dt) (b : Option En) (x : Lf) : Bool :=
  x.1.isEmpty && okP last x.2.dot && (match b with | none => true | some c => x.2.dot.lt c.dot)
def selS (last : Option Dt) (b : Option En) (x : Lf) : Option En := if selC last b x then some x.2 else b
def bestE (l : List Lf) (last : Option Dt) : Option En := l.foldl (selS last) none
def entsGo (l : List Lf) : Nat → List En → List En
  | 0, es => es
  | n + 1, es => match bestE l (es.getLast?.map En.dot) with | none => es | some e => entsGo l n (es ++ [e])
def selEnts (l : List Lf) : List En := entsGo l (l.length + 1) []

def keyC (last b : ByteArray) (x : Lf) : Bool := match x.1 with | [] => false | q :: _ => ltS last q && (decide (b = ByteArray.empty) || ltS q b)
def keyS (last b : ByteArray) (x : Lf) : ByteArray := if keyC last b x then x.1.headD ByteArray.empty else b
def bestK (l : List Lf) (last : ByteArray) : ByteArray := l.foldl (keyS last) ByteArray.empty
def kidsGo (f : List Lf → Tr) (l : List Lf) : Nat → ByteArray → List Kd
  | 0, _ => []
  | n + 1, last => if bestK l last = ByteArray.empty then [] else (bestK l last, f (underL l (bestK l last))) :: kidsGo f l n (bestK l last)
def buildT : Nat → List Lf → Tr
  | 0, l => .mk (selEnts l) (kidsGo (fun _ => .mk [] []) l (l.length + 1) ByteArray.empty)
  | d + 1, l => .mk (selEnts l) (kidsGo (buildT d) l (l.length + 1) ByteArray.empty)

/-- How many leaves are still ahead. -/
def ahE (l : List Lf) (last : Option Dt) : Nat := (l.filter fun x => okP last x.2.dot).length
def ahK (l : List Lf) (last : ByteArray) : Nat := (l.filter fun x => match x.1 with | [] => false | q :: _ => ltS last q).length

theorem filter_lt {α : Type} {p q : α → Bool} : ∀ {l : List α} {x : α}, x ∈ l → (∀ y, q y = true → p y = true) → p x = true → q x = false → (l.filter q).length < (l.filter p).length
  | z :: l, x, hx, hpq, hp, hq => by
    have hle : (l.filter q).length ≤ (l.filter p).length := by
      clear hx
      induction l with
      | nil => simp
      | cons u l ih =>
        simp only [List.filter_cons]
        cases h1 : q u
        · cases h2 : p u <;> simp <;> omega
        · simp [hpq u h1]; omega
    simp only [List.filter_cons]
    rcases List.mem_cons.1 hx with rfl | hx
    · simp [hp, hq]; omega
    · have := filter_lt hx hpq hp hq
      cases h1 : q z
      · cases h2 : p z <;> simp <;> omega
      · simp [hpq z h1]; omega
theorem okP_trans {last : Option Dt} {a b : Dt} (h : okP last a = true) (k : a.lt b = true) : okP last b = true := by
  cases last with
  | none => rfl
  | some q => exact lt_trans' h k
end Go.Proofs.YtlapdmgjfdelnaaGreat

namespace Go.Proofs.YtlapdmgjfdelnaaGreat
open Go.RowKit
set_option maxRecDepth 100000

theorem cell_cells {w : World} {n i : Nat} {cs : Array Value} {e : TypeId} {z : Nat × Nat} (h : w.heap[n]? = some (.cells cs e z)) : w.cell? ⟨n, i, none⟩ = cs[i]? := by
  unfold World.cell?; simp only [h]; rfl
theorem cells_frz {w : World} {n i : Nat} {cs : Array Value} {e : TypeId} (h : w.heap[n]? = some (.cells cs e (0, 0))) : w.frozen? ⟨n, i, none⟩ = false := by
  simp [World.frozen?, h]
theorem cells_set {w : World} {n i : Nat} {cs : Array Value} {e : TypeId} {z : Nat × Nat} (h : w.heap[n]? = some (.cells cs e z)) (v : Value) : (w.setCell ⟨n, i, none⟩ v).heap[n]? = some (.cells (cs.setIfInBounds i v) e z) := by
  have hlt := lt_of_block h
  have h' : w.heap[n] = .cells cs e z := by simpa [Array.getElem?_eq_getElem hlt] using h
  show (w.heap.modify n _)[n]? = _
  rw [Array.getElem?_eq_getElem (by simpa using hlt), Array.getElem_modify_self, h']
  rfl
theorem OwnP.setOther {α : Type} {w : World} {base : Nat} {e : TypeId} {sz : Nat} {E : α → List Value → Prop} {v : Value} {xs : List α} (h : OwnP w base e sz E v xs) {a : Addr} (ha : a.block < base) (u : Value) : OwnP (w.setCell a u) base e sz E v xs := by
  obtain ⟨css, h1, h2⟩ := h
  exact ⟨css, h1, ownsRow_setCell_below h2 ha u⟩
theorem OwnD.setOther {α : Type} {w : World} {base : Nat} {e : TypeId} {sz : Nat} {E : World → (Nat → Prop) → α → List Value → Prop} {okp : Nat → Prop} {v : Value} {xs : List α} (h : OwnD w base e sz E okp v xs) (hE : Emon E) {a : Addr} (ha : a.block < base) (ho : ¬ okp a.block) (u : Value) : OwnD (w.setCell a u) base e sz E okp v xs :=
  (OwnP.setOther h ha u).imp fun _ _ _ hx => hE.up (w := w) (fun b hb => Below.heap_setCell w a u b (fun e => ho (e ▸ hb.1))) (fun b hb => ⟨hb.1, by simpa [World.setCell] using hb.2.1, hb.2.2⟩) hx
theorem kid_one {w : World} {ok okq : Nat → Prop} {q : ByteArray} {t : Tr} {ve vk : Value} {B : Nat} (h : t.rda w ok ve vk) (hq : q.size ≤ Big) (hok : ∀ b, ok b → b < w.heap.size ∧ okq b) (e : TypeId) (hB : w.heap.size < B) :
    SlP (w.alloc (.cells #[.string q, ve, vk] e)) B 3 (KdA (w.alloc (.cells #[.string q, ve, vk] e)) okq) (.slice (some ⟨w.heap.size, 0, none⟩) 1 1) [(q, t)] :=
  SlP.oneB (x := (q, t)) (cs := [.string q, ve, vk]) ⟨ve, vk, rfl, hq, rda_up (fun b hb => heap_old (hok b hb).1) (fun b hb => (hok b hb).2) _ _ _ h⟩ rfl e rfl hB
def bestC : Option En → List Value
  | none => [.int .i64 0, .int .i64 0, .string ByteArray.empty, .int .i64 0]
  | some e => [.int .i64 e.dc, .int .i64 e.n, .string e.s, .int .i64 e.v]
def lastD (es : List En) : Option Dt := es.getLast?.map En.dot
/-- The first loop's words. -/
def BuildA (l : List Lf) (w : World) (n : Nat) (wr : World) : Prop :=
  ∃ (es : List En) (ve : Value), OwnP wr (w.heap.size + 2) 113 4 EnE ve es ∧ wr.heap[w.heap.size + 1]? = some (.cells #[ve, .slice none 0 0] 25 (0, 0)) ∧ wr.heap[w.heap.size]? = some (.cells #[.slice none 0 0, .slice none 0 0] 25 (0, 0)) ∧
    w.heap.size + 2 ≤ wr.heap.size ∧ Below w.heap.size w wr ∧ Hid (entsGo l n es = selEnts l) ∧ Hid (ahE l (lastD es) < n) ∧ Hid (es.length + ahE l (lastD es) ≤ l.length)

/-- The second loop's words. -/
def BuildK (f : List Lf → Tr) (l : List Lf) (w w1 : World) (ve : Value) (n : Nat) (vl : Value) (wr : World) : Prop :=
  ∃ (last : ByteArray) (ks : List Kd) (vk : Value), vl = .string last ∧ OwnD wr w1.heap.size 126 3 KdA (fun b => w1.heap.size ≤ b) vk ks ∧ wr.heap[w.heap.size + 1]? = some (.cells #[ve, vk] 25 (0, 0)) ∧ wr.heap[w.heap.size]? = some (.cells #[.slice none 0 0, .slice none 0 0] 25 (0, 0)) ∧
    Keeps (fun b => w.heap.size + 2 ≤ b ∧ b < w1.heap.size) w1 wr ∧ w1.heap.size ≤ wr.heap.size ∧ Below w.heap.size w wr ∧ Hid (ks ++ kidsGo f l n last = kidsGo f l (l.length + 1) ByteArray.empty) ∧ Hid (ahK l last < n) ∧ Hid (ks.length + ahK l last ≤ l.length)

end Go.Proofs.YtlapdmgjfdelnaaGreat

namespace Go.Proofs.YtlapdmgjfdelnaaGreat
open Go.RowKit

theorem step_few4 {α : Type} {P : Program} {ops : Array Oper} {o : Oper} {a : Act} {K : Act → World → Prop} {Q : Exit → Act → World → Prop} {F : Prop} {w : World} (hg : o.guard = none) (s x : Operand) (t : TypeId)
    (hop : o.op = .call { callee := .builtin .append, args := #[s, x], argTypes := #[t, t] }) {e : TypeId} {sz bytes base B : Nat} {E : α → List Value → Prop} {v sv : Value} {xs ys : List α} (hi : ElemInfo P t e sz bytes) (hsz : 0 < sz) (hby : bytes ≤ 1000)
    (hone : ∀ x cs, E x cs → ∀ u ∈ cs, u.oneCell' = true) (hs : a.eval s = v) (hown : OwnP w base e sz E v xs) (hx : a.eval x = sv) (hys : SlP w B sz E sv ys) (hl : xs.length + ys.length ≤ Few) (hbase : base ≤ w.heap.size)
    (h : ∀ v' w', OwnP w' base e sz E v' (xs ++ ys) → Below base w w' → w.grownBy w' v.ownBlock → (v'.ownBlock = v.ownBlock ∨ v'.ownBlock = some w.heap.size) → K (a.put o.dst v') w') :
    if Region.wanted o (yielded ops a.tmps) = true then Oper.wp P o a w K Q else F := by
  have hw : Region.wanted o (yielded ops a.tmps) = true := by simp [Region.wanted, hg]
  rw [if_pos hw]
  unfold Few at hl
  obtain ⟨v', w', r1, r2, r3, r4⟩ := run_app (P := P) (ty := o.type) hi hsz hone hown hys (Nat.le_trans (Nat.mul_le_mul hl hby) (by omega)) (by unfold Big; omega) hbase
  unfold Oper.wp execOp
  simp only [hop, resolve, invoke, builtin, Sem.run_bind, Sem.run_pure, Result.andThen_ok, List.map_toArray, List.map_cons, List.map_nil, hs, hx, r1]
  exact h v' w' r2 ((Below.refl base w).grown r3 hbase fun g hg => (hown.lt g hg).1) r3 r4

/-- The array in block Bp holds the four rows vs, which own the lists ls. -/
structure Rows4 {α : Type} (w : World) (base Bp : Nat) (T e : TypeId) (sz : Nat) (E : α → List Value → Prop) (vs : Nat → Value) (ls : Nat → List α) : Prop where
  arr : w.heap[Bp]? = some (.cells #[vs 0, vs 1, vs 2, vs 3] T (0, 0))
  lo : Bp < base
  own : ∀ i, i < 4 → OwnP w base e sz E (vs i) (ls i)
  apart : ∀ i j, i < 4 → j < 4 → i ≠ j → ∀ g, (vs i).ownBlock = some g → (vs j).ownBlock ≠ some g

section
variable {α : Type} {w w' : World} {base Bp : Nat} {T e : TypeId} {sz : Nat} {E : α → List Value → Prop} {vs : Nat → Value} {ls : Nat → List α}
theorem four_get {β : Type} (f : Nat → β) {d : Nat} (h : d < 4) : (#[f 0, f 1, f 2, f 3] : Array β)[d]? = some (f d) := by
  match d, h with
  | 0, _ => rfl
  | 1, _ => rfl
  | 2, _ => rfl
  | 3, _ => rfl
theorem four_set {β : Type} (f : Nat → β) {d : Nat} (h : d < 4) (x : β) : (#[f 0, f 1, f 2, f 3] : Array β).setIfInBounds d x =
    #[(fun i => if i = d then x else f i) 0, (fun i => if i = d then x else f i) 1, (fun i => if i = d then x else f i) 2, (fun i => if i = d then x else f i) 3] := by
  match d, h with
  | 0, _ => simp
  | 1, _ => simp
  | 2, _ => simp
  | 3, _ => simp
theorem Rows4.start (h : w.heap[Bp]? = some (.cells #[.slice none 0 0, .slice none 0 0, .slice none 0 0, .slice none 0 0] T (0, 0))) (hlo : Bp < base) : Rows4 w base Bp T e sz E (fun _ => .slice none 0 0) (fun _ => ([] : List α)) :=
  ⟨h, hlo, fun _ _ => OwnP.nil, fun _ _ _ _ _ g hg => by cases hg⟩
theorem Rows4.at (h : Rows4 w base Bp T e sz E vs ls) {d : Nat} (hd : d < 4) : w.cell? ⟨Bp, d, none⟩ = some (vs d) := (cell_cells h.arr).trans (four_get vs hd)
theorem Rows4.frz (h : Rows4 w base Bp T e sz E vs ls) (d : Nat) : w.frozen? ⟨Bp, d, none⟩ = false := cells_frz h.arr
theorem Rows4.grow (h : Rows4 w base Bp T e sz E vs ls) (hb : Below w.heap.size w w') : Rows4 w' base Bp T e sz E vs ls :=
  ⟨(hb.block _ (Array.getElem?_eq_some_iff.1 h.arr).1).trans h.arr, h.lo, fun i hi => (h.own i hi).grow hb, h.apart⟩
theorem Rows4.same (h : Rows4 w base Bp T e sz E vs ls) (hb : w'.heap = w.heap) : Rows4 w' base Bp T e sz E vs ls :=
  ⟨by rw [hb]; exact h.arr, h.lo, fun i hi => (h.own i hi).keep fun _ _ => by rw [hb], h.apart⟩
theorem Rows4.sl (h : Rows4 w base Bp T e sz E vs ls) {d : Nat} (hd : d < 4) (hl : (ls d).length ≤ Big) : SlP w w.heap.size sz E (vs d) (ls d) := (h.own d hd).sl hl
/-- Row d has grown, and stands in the array again. -/
theorem Rows4.put (h : Rows4 w base Bp T e sz E vs ls) {d : Nat} (hd : d < 4) {v' : Value} {xs : List α} (ho : OwnP w' base e sz E v' xs) (hg : w.grownBy w' (vs d).ownBlock) (hv : v'.ownBlock = (vs d).ownBlock ∨ v'.ownBlock = some w.heap.size) :
    Rows4 (w'.setCell ⟨Bp, d, none⟩ v') base Bp T e sz E (fun i => if i = d then v' else vs i) (fun i => if i = d then xs else ls i) := by
  have hBp : w'.heap[Bp]? = some (.cells #[vs 0, vs 1, vs 2, vs 3] T (0, 0)) :=
    (hg.block Bp (Array.getElem?_eq_some_iff.1 h.arr).1 (fun e => by have := (h.own d hd).lt Bp e.symm; have := h.lo; omega)).trans h.arr
  refine ⟨?_, h.lo, fun i hi => ?_, fun i j hi hj hij g hgi => ?_⟩
  · rw [cells_set hBp v', four_set vs hd v']
  · by_cases e : i = d
    · subst e; simp only [if_pos]; exact ho.setOther h.lo v'
    · simp only [if_neg e]
      refine ((h.own i hi).keep fun g hgi => ?_).setOther h.lo v'
      exact hg.block g ((h.own i hi).lt g hgi).2 (fun e' => h.apart i d hi hd e g hgi e'.symm)
  · by_cases e : i = d
    · subst e
      simp only [if_pos] at hgi
      rw [if_neg (fun e' => hij e'.symm)]
      intro hgj
      rcases hv with hv | hv
      · rw [hv] at hgi; exact h.apart i j hi hj hij g hgi hgj
      · rw [hv] at hgi; cases hgi; exact absurd ((h.own j hj).lt _ hgj).2 (Nat.lt_irrefl _)
    · simp only [if_neg e] at hgi
      by_cases e2 : j = d
      · subst e2
        rw [if_pos rfl]
        intro hgj
        rcases hv with hv | hv
        · rw [hv] at hgj; exact h.apart i j hi hj hij g hgi hgj
        · rw [hv] at hgj; cases hgj; exact absurd ((h.own i hi).lt _ hgi).2 (Nat.lt_irrefl _)
      · rw [if_neg e2]; exact h.apart i j hi hj hij g hgi
end

theorem SlA.shape {α : Type} {w : World} {ok : Nat → Prop} {sz : Nat} {E : α → List Value → Prop} {v : Value} {xs : List α} (h : SlA w ok sz E v xs) : ∃ A c, v = .slice A xs.length c := by
  obtain ⟨A, c, rfl, _⟩ := h; exact ⟨A, c, rfl⟩
theorem SlA.slp {α : Type} {w w' : World} {ok : Nat → Prop} {sz : Nat} {E : α → List Value → Prop} {v : Value} {xs : List α} (h : SlA w ok sz E v xs) (hk : ∀ b, ok b → b < w.heap.size) (hb : Below w.heap.size w w') : SlP w' w'.heap.size sz E v xs :=
  SlP_iff.2 (h.up (fun b hb' => hb.block b (hk b hb')) (fun b hb' => Nat.lt_of_lt_of_le (hk b hb') hb.size) (fun _ _ _ h => h))
theorem rda_rd {w w' : World} {ok : Nat → Prop} {t : Tr} {ve vk : Value} (h : t.rda w ok ve vk) (hk : ∀ b, ok b → b < w.heap.size) (hb : Below w.heap.size w w') : t.rd w' w'.heap.size ve vk :=
  (rd_rda t ve vk).2 (rda_up (fun b hb' => hb.block b (hk b hb')) (fun b hb' => Nat.lt_of_lt_of_le (hk b hb') hb.size) t ve vk h)

end Go.Proofs.YtlapdmgjfdelnaaGreat

namespace Go.Proofs.YtlapdmgjfdelnaaGreat
open Go.RowKit
set_option maxRecDepth 100000

def dcsOk : Int → List Sp → Bool
  | _, [] => true
  | last, s :: c => decide (last ≤ s.dc) && decide (s.dc < 4) && dcsOk s.dc c
/-- A context that may be taken apart. -/
def apartB (c : List Sp) : Bool := dcsOk 0 c && (List.range 4).all fun (dc : Nat) => runsR none (partL c dc)
def nilV : Value := .slice none 0 0
/-- What context.apart hands back. -/
def RetA (w : World) (c : List Sp) (e : Ending) (w' : World) : Prop :=
  ∃ vs : Nat → Value, e = .returned (.tuple #[.agg #[vs 0, vs 1, vs 2, vs 3], .bool (apartB c)]) ∧ (∀ i, i < 4 → SlA w' (fun b => w.heap.size ≤ b ∧ b < w'.heap.size) 2 RuE (vs i) (if apartB c then partL c i else [])) ∧ Below w.heap.size w w'
/-- The state of the first loop. -/
def ApA (c : List Sp) (w : World) (k : Nat) (wr : World) : Prop :=
  ∃ vs : Nat → Value, Rows4 wr (w.heap.size + 2) (w.heap.size + 1) 171 201 2 RuE vs (fun i => partL (c.take k) i) ∧
    wr.heap[w.heap.size]? = some (.cells #[.slice none 0 0, .slice none 0 0, .slice none 0 0, .slice none 0 0] 171 (0, 0)) ∧ Below w.heap.size w wr

set_option maxHeartbeats 4000000 in
theorem apart_any (c : List Sp) (vc : Value) (w : World) (h : SlP w w.heap.size 3 SpE vc c) (hN : c.length ≤ 900000) :
    Calls Tryz.prog 166 #[vc] w (RetA w c) := by
  obtain ⟨A, n, rfl, b1, b2, b3⟩ := h
  unfold Big at b2
  go_enter Tryz.func166, Tryz.ntmps166
  go_wp2_with fail
  go_loopw [5, 12] (fun l i wr => ∃ (k : Nat) (L : Int), k ≤ c.length ∧ i = .int .i64 k ∧ l = .int .i64 L ∧ 0 ≤ L ∧ L ≤ 4 ∧ Hid (dcsOk L (c.drop k) = dcsOk 0 c) ∧ ApA c w k wr) (fun _ i _ => c.length - (intOf i).toNat)
  case atStart =>
    refine ⟨0, 0, Nat.zero_le _, rfl, rfl, by omega, by omega, rfl, fun _ => .slice none 0 0, Rows4.start (heap_new (by simp)) (by omega), ?_, ((Below.refl _ w).alloc (Nat.le_refl _) _).alloc (by simp) _⟩
    rw [heap_old (by simp)]; exact heap_new rfl
  case round =>
    obtain ⟨k, L, hk, rfl, rfl, hL0, hL1, hrel, vs, hr4, hg2, hb⟩ := hrel
    have hsz := hb.size
    have hsz2 : w.heap.size + 1 < wr.heap.size := (Array.getElem?_eq_some_iff.1 hr4.arr).1
    have hsz3 : w.heap.size < wr.heap.size := by omega
    have hsz4 : w.heap.size ≠ wr.heap.size := by omega
    have hsz5 : w.heap.size + 1 ≠ wr.heap.size := by omega
    by_cases hlt : k < c.length
    · obtain ⟨⟨dc, fr, hi⟩, hx⟩ : ∃ x, c[k]? = some x := ⟨_, List.getElem?_eq_getElem hlt⟩
      obtain ⟨b, off, rfl, hbB, hc⟩ := b3 (by rintro rfl; simp at hlt)
      obtain ⟨cs, ⟨rfl, hok⟩, _, hu⟩ := hc k _ hx
      have e0 : wr.cell? ⟨b, off + k * 3, none⟩ = some (.int .i64 dc) := (hb.cell hbB).trans (hu 0 _ rfl)
      have e1 : wr.cell? ⟨b, off + k * 3 + 1, none⟩ = some (.int .i64 fr) := (hb.cell hbB).trans (hu 1 _ rfl)
      have e2 : wr.cell? ⟨b, off + k * 3 + 2, none⟩ = some (.int .i64 hi) := (hb.cell hbB).trans (hu 2 _ rfl)
      have HD : Hid (dcsOk 0 c = (decide (L ≤ dc) && decide (dc < 4) && dcsOk dc (c.drop (k + 1)))) := by
        have := hrel.out
        rw [drop_cons hx] at this
        exact this.symm
      have HG := hid hg2
      have HR4 := hid hr4
      have HP : ∀ (d : Nat), (dc = (d : Int)) → Hid ((fun i : Nat => partL (c.take (k + 1)) i) = fun i => if i = d then partL (c.take k) d ++ [(fr, hi)] else partL (c.take k) i) := fun d hd => by
        unfold Hid; funext i
        rw [partL_take hx]
        by_cases e : i = d
        · subst e; rw [if_pos rfl, if_pos (by exact hd)]
        · rw [if_neg e, if_neg (by show ¬ dc = (i : Int); omega), List.append_nil]
      have hpl := partL_len (c.take k)
      clear hu hx hc b3 hrel hg2 hr4
      by_cases h1 : dc < L ∨ 4 ≤ dc
      · have HF : Hid (apartB c = false) := by
          unfold Hid apartB
          rw [HD.out]
          rcases h1 with h1 | h1
          · rw [show decide (L ≤ dc) = false by simp; omega]; simp
          · rw [show decide (dc < 4) = false by simp; omega]; simp
        have z0 := cells_frz (i := 0) HG.out
        have z1 := cells_frz (i := 1) HG.out
        have z2 := cells_frz (i := 2) HG.out
        have z3 := cells_frz (i := 3) HG.out
        have c0 : wr.cell? ⟨w.heap.size, 0, none⟩ = some (.slice none 0 0) := cell_cells (i := 0) HG.out
        have c1 : wr.cell? ⟨w.heap.size, 1, none⟩ = some (.slice none 0 0) := cell_cells (i := 1) HG.out
        have c2 : wr.cell? ⟨w.heap.size, 2, none⟩ = some (.slice none 0 0) := cell_cells (i := 2) HG.out
        have c3 : wr.cell? ⟨w.heap.size, 3, none⟩ = some (.slice none 0 0) := cell_cells (i := 3) HG.out
        have hz := HG
        have hBz := hb
        by_cases h2 : dc < L
        · go_wp2_with fail
          have hW0 := cells_set (i := 3) (cells_set (i := 2) (cells_set (i := 1) (cells_set (i := 0) hz.out (.slice none 0 0)) (.slice none 0 0)) (.slice none 0 0)) (.slice none 0 0)
          have hBW : Below w.heap.size w ((((((wr).setCell ⟨w.heap.size, 0, none⟩ (.slice none 0 0)).setCell ⟨w.heap.size, 1, none⟩ (.slice none 0 0)).setCell ⟨w.heap.size, 2, none⟩ (.slice none 0 0)).setCell ⟨w.heap.size, 3, none⟩ (.slice none 0 0))) := (((hBz.setCell (Nat.le_refl _) _).setCell (Nat.le_refl _) _).setCell (Nat.le_refl _) _).setCell (Nat.le_refl _) _
          clear c0 c1 c2 c3 z0 z1 z2 z3
          generalize (((((wr).setCell ⟨w.heap.size, 0, none⟩ (.slice none 0 0)).setCell ⟨w.heap.size, 1, none⟩ (.slice none 0 0)).setCell ⟨w.heap.size, 2, none⟩ (.slice none 0 0)).setCell ⟨w.heap.size, 3, none⟩ (.slice none 0 0)) = W at *
          have hWs : w.heap.size < W.heap.size := (Array.getElem?_eq_some_iff.1 hW0).1
          have r0 : (W.alloc (.cells #[.int .i64 dc, .int .i64 fr, .int .i64 hi] 45)).cell? ⟨w.heap.size, 0, none⟩ = some (.slice none 0 0) := (cell_cells (i := 0) (((heap_old hWs).trans) hW0)).trans (by simp)
          have r1 : (W.alloc (.cells #[.int .i64 dc, .int .i64 fr, .int .i64 hi] 45)).cell? ⟨w.heap.size, 1, none⟩ = some (.slice none 0 0) := (cell_cells (i := 1) (((heap_old hWs).trans) hW0)).trans (by simp)
          have r2 : (W.alloc (.cells #[.int .i64 dc, .int .i64 fr, .int .i64 hi] 45)).cell? ⟨w.heap.size, 2, none⟩ = some (.slice none 0 0) := (cell_cells (i := 2) (((heap_old hWs).trans) hW0)).trans (by simp)
          have r3 : (W.alloc (.cells #[.int .i64 dc, .int .i64 fr, .int .i64 hi] 45)).cell? ⟨w.heap.size, 3, none⟩ = some (.slice none 0 0) := (cell_cells (i := 3) (((heap_old hWs).trans) hW0)).trans (by simp)
          have hBX : Below w.heap.size w (W.alloc (.cells #[.int .i64 dc, .int .i64 fr, .int .i64 hi] 45)) := (fun h => h.alloc (by omega) _) hBW
          refine bodyPost_ret (v := .tuple #[.agg #[.slice none 0 0, .slice none 0 0, .slice none 0 0, .slice none 0 0], .bool false]) (by simp [results, Tryz.results166, go_sem, r0, r1, r2, r3]) rfl ⟨fun _ => .slice none 0 0, by rw [HF.out], fun i _ => by rw [HF.out]; exact ⟨none, 0, rfl, Nat.le_refl _, by simp, fun h => absurd rfl h⟩, hBX⟩
        · have h4 : 4 ≤ dc := by omega
          go_wp2_with fail
          have hW0 := cells_set (i := 3) (cells_set (i := 2) (cells_set (i := 1) (cells_set (i := 0) hz.out (.slice none 0 0)) (.slice none 0 0)) (.slice none 0 0)) (.slice none 0 0)
          have hBW : Below w.heap.size w ((((((wr).setCell ⟨w.heap.size, 0, none⟩ (.slice none 0 0)).setCell ⟨w.heap.size, 1, none⟩ (.slice none 0 0)).setCell ⟨w.heap.size, 2, none⟩ (.slice none 0 0)).setCell ⟨w.heap.size, 3, none⟩ (.slice none 0 0))) := (((hBz.setCell (Nat.le_refl _) _).setCell (Nat.le_refl _) _).setCell (Nat.le_refl _) _).setCell (Nat.le_refl _) _
          clear c0 c1 c2 c3 z0 z1 z2 z3
          generalize (((((wr).setCell ⟨w.heap.size, 0, none⟩ (.slice none 0 0)).setCell ⟨w.heap.size, 1, none⟩ (.slice none 0 0)).setCell ⟨w.heap.size, 2, none⟩ (.slice none 0 0)).setCell ⟨w.heap.size, 3, none⟩ (.slice none 0 0)) = W at *
          have hWs : w.heap.size < W.heap.size := (Array.getElem?_eq_some_iff.1 hW0).1
          have r0 : (W.alloc (.cells #[.int .i64 dc, .int .i64 fr, .int .i64 hi] 45)).cell? ⟨w.heap.size, 0, none⟩ = some (.slice none 0 0) := (cell_cells (i := 0) (((heap_old hWs).trans) hW0)).trans (by simp)
          have r1 : (W.alloc (.cells #[.int .i64 dc, .int .i64 fr, .int .i64 hi] 45)).cell? ⟨w.heap.size, 1, none⟩ = some (.slice none 0 0) := (cell_cells (i := 1) (((heap_old hWs).trans) hW0)).trans (by simp)
          have r2 : (W.alloc (.cells #[.int .i64 dc, .int .i64 fr, .int .i64 hi] 45)).cell? ⟨w.heap.size, 2, none⟩ = some (.slice none 0 0) := (cell_cells (i := 2) (((heap_old hWs).trans) hW0)).trans (by simp)
          have r3 : (W.alloc (.cells #[.int .i64 dc, .int .i64 fr, .int .i64 hi] 45)).cell? ⟨w.heap.size, 3, none⟩ = some (.slice none 0 0) := (cell_cells (i := 3) (((heap_old hWs).trans) hW0)).trans (by simp)
          have hBX : Below w.heap.size w (W.alloc (.cells #[.int .i64 dc, .int .i64 fr, .int .i64 hi] 45)) := (fun h => h.alloc (by omega) _) hBW
          refine bodyPost_ret (v := .tuple #[.agg #[.slice none 0 0, .slice none 0 0, .slice none 0 0, .slice none 0 0], .bool false]) (by simp [results, Tryz.results166, go_sem, r0, r1, r2, r3]) rfl ⟨fun _ => .slice none 0 0, by rw [HF.out], fun i _ => by rw [HF.out]; exact ⟨none, 0, rfl, Nat.le_refl _, by simp, fun h => absurd rfl h⟩, hBX⟩
      · obtain ⟨d, rfl⟩ : ∃ d : Nat, dc = (d : Int) := ⟨dc.toNat, by omega⟩
        have hd4 : d < 4 := by omega
        have hdi : (d : Int) < 4 := by omega
        have hdL : L ≤ (d : Int) := by omega
        have HDR : Hid (dcsOk (d : Int) (c.drop (k + 1)) = dcsOk 0 c) := by
          unfold Hid; rw [HD.out, show decide (L ≤ (d : Int)) = true by simp; omega, show decide ((d : Int) < 4) = true by simp; omega]; rfl
        have HPD := HP d rfl
        have HL : Hid ((partL (c.take k) d).length + [(fr, hi)].length ≤ Few) := by have := hpl d; rw [List.length_take] at this; unfold Hid Few; simp; omega
        have HRE : Hid (RuE (fr, hi) [.int .i64 fr, .int .i64 hi]) := ⟨rfl, hok.fr, hok.hi⟩
        have hbp : wr.cell? ⟨w.heap.size + 1, d, none⟩ = some (vs d) := HR4.out.at hd4
        have HOWN : Hid (∀ W, Below wr.heap.size wr W → OwnP W (w.heap.size + 2) 201 2 RuE (vs d) (partL (c.take k) d)) := fun W hW => (HR4.out.own d hd4).grow hW
        have HLT := hid ((HR4.out.own d hd4).lt)
        have HGB : Hid (∀ W3 w4, Below wr.heap.size wr W3 → W3.grownBy w4 (vs d).ownBlock → ∀ b, b < w.heap.size + 2 → w4.heap[b]? = wr.heap[b]?) := fun W3 w4 h3 h4 b hb =>
          (h4.block b (by have := h3.size; omega) (fun e => by have := HLT.out b e.symm; omega)).trans (h3.block b (by omega))
        clear HP hpl h1 hok HD
        go_wp2_with fail
        refine wp_region_pop_n (S := fun w' => w'.cell? ⟨wr.heap.size, 0, none⟩ = some (.int .i64 (d : Int)) ∧ w'.cell? ⟨wr.heap.size, 1, none⟩ = some (.int .i64 fr) ∧ w'.cell? ⟨wr.heap.size, 2, none⟩ = some (.int .i64 hi) ∧ w'.cell? ⟨w.heap.size + 1, d, none⟩ = some (vs d)) 14 (by kernel_rfl) (by kernel_rfl) ?_
        simp only [List.take_succ_cons, List.take_zero, List.drop_succ_cons, List.drop_zero]
        have hHeld : (fun w' : World => w'.cell? ⟨wr.heap.size, 0, none⟩ = some (.int .i64 (d : Int)) ∧ w'.cell? ⟨wr.heap.size, 1, none⟩ = some (.int .i64 fr) ∧ w'.cell? ⟨wr.heap.size, 2, none⟩ = some (.int .i64 hi) ∧ w'.cell? ⟨w.heap.size + 1, d, none⟩ = some (vs d)) (wr.alloc (.cells #[.int .i64 (d : Int), .int .i64 fr, .int .i64 hi] 45)).drew := by go_keep
        refine wpAnyH_take (i := 0) (oi := _) (v := ?v0) rfl (by kernel_rfl) (by kernel_rfl) (by kernel_rfl) (fun _ _ _ h => h) (Or.inl ⟨by rfl, ?h0⟩) (by assumption) ?_
        case h0 => (intro w hSw; (try dsimp only at hSw); go_simp; (try with_reducible rfl))
        simp only [Act.put, List.setIfInBounds_toArray]
        refine wpAnyH_take (i := 1) (oi := _) (v := ?v1) rfl (by kernel_rfl) (by kernel_rfl) (by kernel_rfl) (fun _ _ _ h => h) (Or.inl ⟨by rfl, ?h1⟩) (by assumption) ?_
        case h1 => (intro w hSw; (try dsimp only at hSw); go_simp; (try with_reducible rfl))
        simp only [Act.put, List.setIfInBounds_toArray]
        refine wpAnyH_take (i := 2) (oi := _) (v := ?v2) rfl (by kernel_rfl) (by kernel_rfl) (by kernel_rfl) (fun _ _ _ h => h) (Or.inl ⟨by rfl, ?h2⟩) (by assumption) ?_
        case h2 => (intro w hSw; (try dsimp only at hSw); go_simp; (try with_reducible rfl))
        simp only [Act.put, List.setIfInBounds_toArray]
        refine wpAnyH_take (i := 3) (oi := _) (v := ?v3) rfl (by kernel_rfl) (by kernel_rfl) (by kernel_rfl) (fun _ _ _ h => h) (Or.inl ⟨by rfl, ?h3⟩) (by assumption) ?_
        case h3 => (intro w hSw; (try dsimp only at hSw); go_simp; (try with_reducible rfl))
        simp only [Act.put, List.setIfInBounds_toArray]
        refine wpAnyH_take (i := 4) (oi := _) (v := ?v4) rfl (by kernel_rfl) (by kernel_rfl) (by kernel_rfl) (fun _ _ _ h => h) (Or.inl ⟨by rfl, ?h4⟩) (by assumption) ?_
        case h4 => (intro w hSw; (try dsimp only at hSw); go_simp; (try with_reducible rfl))
        simp only [Act.put, List.setIfInBounds_toArray]
        refine wpAnyH_take (i := 5) (oi := _) (v := ?v5) rfl (by kernel_rfl) (by kernel_rfl) (by kernel_rfl) (fun _ _ _ h => h) (Or.inl ⟨by rfl, ?h5⟩) (by assumption) ?_
        case h5 => (intro w hSw; (try dsimp only at hSw); go_simp; (try with_reducible rfl))
        simp only [Act.put, List.setIfInBounds_toArray]
        refine wpAnyH_take (i := 6) (oi := _) (v := ?v6) rfl (by kernel_rfl) (by kernel_rfl) (by kernel_rfl) (fun _ _ _ h => h) (Or.inl ⟨by rfl, ?h6⟩) (by assumption) ?_
        case h6 => (intro w hSw; (try dsimp only at hSw); go_simp; (try with_reducible rfl))
        simp only [Act.put, List.setIfInBounds_toArray]
        refine wpAnyH_take (i := 7) (oi := _) (v := ?v7) rfl (by kernel_rfl) (by kernel_rfl) (by kernel_rfl) (fun _ _ _ h => h) (Or.inl ⟨by rfl, ?h7⟩) (by assumption) ?_
        case h7 => (intro w hSw; (try dsimp only at hSw); go_simp; (try with_reducible rfl))
        simp only [Act.put, List.setIfInBounds_toArray]
        refine wpAnyH_take (i := 8) (oi := _) (v := ?v8) rfl (by kernel_rfl) (by kernel_rfl) (by kernel_rfl) (fun _ _ _ h => h) (Or.inl ⟨by rfl, ?h8⟩) (by assumption) ?_
        case h8 => (intro w hSw; (try dsimp only at hSw); go_simp; (try with_reducible rfl))
        simp only [Act.put, List.setIfInBounds_toArray]
        refine wpAnyH_take (i := 9) (oi := _) (v := ?v9) rfl (by kernel_rfl) (by kernel_rfl) (by kernel_rfl) (fun _ _ _ h => h) (Or.inl ⟨by rfl, ?h9⟩) (by assumption) ?_
        case h9 => (intro w hSw; (try dsimp only at hSw); go_simp; (try with_reducible rfl))
        simp only [Act.put, List.setIfInBounds_toArray]
        refine wpAnyH_take (i := 10) (oi := _) (v := ?v10) rfl (by kernel_rfl) (by kernel_rfl) (by kernel_rfl) (fun _ _ _ h => h) (Or.inl ⟨by rfl, ?h10⟩) (by assumption) ?_
        case h10 => (intro w hSw; (try dsimp only at hSw); go_simp; (try with_reducible rfl))
        simp only [Act.put, List.setIfInBounds_toArray]
        refine wpAnyH_ready (rs := [11]) (by kernel_rfl) (by simp) ?_
        refine AllReadyH.cons (o := _) rfl (fun K hK => ?_) AllReadyH.nil
        go_simp
        refine hK.out _ _ ?_ (fun hHeld11 => ?_)
        · go_keep
        clear hK K
        simp only [List.setIfInBounds_toArray]
        refine wpAnyH_ready (rs := [12]) (by kernel_rfl) (by simp) ?_
        refine AllReadyH.cons (o := _) rfl (fun K hK => ?_) AllReadyH.nil
        (refine step_few4 (v := vs d) rfl (.tmp 33) (.tmp 39) _ rfl eiRun (by decide) (by decide) (fun _ _ h => h.one) rfl (HOWN.out _ ((((Below.refl wr.heap.size wr).alloc (Nat.le_refl _) _).drew).alloc (by simp) _)) rfl (SlP.one (x := (fr, hi)) HRE.out rfl _ (by simp)) HL.out (by simp; omega) ?_; intro v1 w4 hown4 hb4 hg4 hv4; have hsh4 := OwnP.shape hown4; simp only [List.length_append, List.length_singleton] at hsh4; obtain ⟨A1, c1, hv1⟩ := hsh4; subst hv1; have hg4h := hid (HGB.out _ _ ((((Below.refl wr.heap.size wr).alloc (Nat.le_refl _) _).drew).alloc (by simp) _) hg4); have hc4 : w4.cell? ⟨w.heap.size + 1, d, none⟩ = some (vs d) := (cell_cells ((hg4h.out _ (by omega)).trans HR4.out.arr)).trans (four_get vs hd4); have hf4 : w4.frozen? ⟨w.heap.size + 1, d, none⟩ = false := cells_frz ((hg4h.out _ (by omega)).trans HR4.out.arr); have hx3 := (hg4.block wr.heap.size (by simp; omega) (fun e => by have := HLT.out _ e.symm; omega)).trans ((heap_old (by simp)).trans (heap_new (o := .cells #[.int .i64 (d : Int), .int .i64 fr, .int .i64 hi] 45) rfl)); have hx4 : Hid (w4.cell? ⟨wr.heap.size, 0, none⟩ = some (.int .i64 (d : Int)) ∧ w4.cell? ⟨wr.heap.size, 1, none⟩ = some (.int .i64 fr) ∧ w4.cell? ⟨wr.heap.size, 2, none⟩ = some (.int .i64 hi) ∧ w4.cell? ⟨w.heap.size + 1, d, none⟩ = some (vs d)) := ⟨(cell_cells (i := 0) hx3).trans rfl, (cell_cells (i := 1) hx3).trans rfl, (cell_cells (i := 2) hx3).trans rfl, hc4⟩; clear hx3)
        refine hK.out _ _ ?_ (fun hHeld12 => ?_)
        · exact hx4.out
        clear hK K
        simp only [Act.put, List.setIfInBounds_toArray]
        refine wpAnyH_take (i := 13) (oi := _) (v := ?v13) rfl (by kernel_rfl) (by kernel_rfl) (by kernel_rfl) (fun _ _ _ h => h) (Or.inl ⟨by rfl, ?h13⟩) (by assumption) ?_
        case h13 => (intro w hSw; (try dsimp only at hSw); go_simp; (try with_reducible rfl))
        simp only [Act.put, List.setIfInBounds_toArray]
        refine wpAnyH_done (by kernel_rfl) ?_ _
        change wpList _ _ _ _ _ _
        go_wp2_with fail
        go_roundw
        case rel =>
          refine ⟨k + 1, (d : Int), by omega, by go_num, rfl, by omega, by omega, HDR.out, fun i => if i = d then .slice A1 ((partL (c.take k) d).length + 1) c1 else vs i, ?_, ?_, ?_⟩
          · rw [HPD.out]
            exact Rows4.put (w := ((wr.alloc (.cells #[.int .i64 (d : Int), .int .i64 fr, .int .i64 hi] 45)).alloc (.cells #[.int .i64 fr, .int .i64 hi] 201)).drew) (((HR4.out.grow ((Below.refl _ wr).alloc (Nat.le_refl _) _)).grow ((Below.refl _ _).alloc (Nat.le_refl _) _)).same rfl) hd4 hown4 hg4 hv4
          · exact (Below.heap_setCell _ _ _ _ (by simp)).trans ((hg4h.out _ (by omega)).trans HG.out)
          · exact (((((hb.alloc hsz _).drew).alloc (by simp; omega) _).trans (hb4.mono (by omega))).setCell (by simp) _)
        case measure => simp [intOf]; omega
    · obtain rfl : k = c.length := by omega
      rw [List.take_of_length_le (Nat.le_refl _)] at hr4
      have c0 : wr.cell? ⟨w.heap.size + 1, 0, none⟩ = some (vs 0) := hr4.at (by omega)
      have c1 : wr.cell? ⟨w.heap.size + 1, 1, none⟩ = some (vs 1) := hr4.at (by omega)
      have c2 : wr.cell? ⟨w.heap.size + 1, 2, none⟩ = some (vs 2) := hr4.at (by omega)
      have c3 : wr.cell? ⟨w.heap.size + 1, 3, none⟩ = some (vs 3) := hr4.at (by omega)
      have HR := hid hr4
      have HG := hid hg2
      have hD : dcsOk 0 c = true := by rw [← hrel.out]; simp [dcsOk]
      have HD := hid hD
      clear hr4 hg2 hrel hD b3
      go_wp2_with fail
      obtain ⟨wo, rfl⟩ : ∃ wo : World, wo = wr := ⟨_, rfl⟩
      go_loopw [44] (fun i wr => ∃ k : Nat, k ≤ 4 ∧ i = .int .i64 k ∧ Hid ((List.range k).all (fun (dc : Nat) => runsR none (partL c dc)) = true) ∧ Below wo.heap.size wo wr) (fun i _ => 4 - (intOf i).toNat)
      case atStart => exact ⟨0, by omega, rfl, rfl, Below.refl _ _⟩
      case round =>
        obtain ⟨k, hk, rfl, hrel, hbi⟩ := hrel
        have hsi := hbi.size
        by_cases hk4 : k < 4
        · have hidx : ∀ w, (Instr.index 171 (.agg #[vs 0, vs 1, vs 2, vs 3]) (.int .i64 (k : Int))).run Tryz.prog w = .ok (vs k) w := fun w => by
            match k, hk4 with
            | 0, _ => rfl
            | 1, _ => rfl
            | 2, _ => rfl
            | 3, _ => rfl
          have HSL : Hid (SlP wr wr.heap.size 2 RuE (vs k) (partL c k)) := (HR.out.sl hk4 (by have := partL_len c k; unfold Big; omega)).imp hbi hsi fun _ _ _ h => h
          have hz4 : w.heap.size < wo.heap.size := by omega
          cases hq : runsR none (partL c k)
          · have HF : Hid (apartB c = false) := by
              unfold Hid apartB
              have : (List.range 4).all (fun (dc : Nat) => runsR none (partL c dc)) = false := by
                rw [List.all_eq_false]; exact ⟨k, by simpa using hk4, by rw [hq]; simp⟩
              rw [this]; simp
            have HQ := hid hq
            clear hq c0 c1 c2 c3
            go_wp2_with (go_at_call 204; refine (sright_any (partL c k) (vs k) wr HSL.out).mono ?_; rw [HQ.out]; rintro e w1 ⟨rfl, hb1⟩; have hz := hid ((hb1.block w.heap.size (by omega)).trans ((hbi.block w.heap.size hz4).trans HG.out)); have hBz := (hb.trans (hbi.mono hsz)).trans (hb1.mono (by omega)); have z0 := cells_frz (i := 0) hz.out; have z1 := cells_frz (i := 1) hz.out; have z2 := cells_frz (i := 2) hz.out; have z3 := cells_frz (i := 3) hz.out; have c0 : w1.cell? ⟨w.heap.size, 0, none⟩ = some (.slice none 0 0) := cell_cells (i := 0) hz.out; have c1 : w1.cell? ⟨w.heap.size, 1, none⟩ = some (.slice none 0 0) := cell_cells (i := 1) hz.out; have c2 : w1.cell? ⟨w.heap.size, 2, none⟩ = some (.slice none 0 0) := cell_cells (i := 2) hz.out; have c3 : w1.cell? ⟨w.heap.size, 3, none⟩ = some (.slice none 0 0) := cell_cells (i := 3) hz.out)
            go_wp2_with fail
            have hW0 := cells_set (i := 3) (cells_set (i := 2) (cells_set (i := 1) (cells_set (i := 0) hz.out (.slice none 0 0)) (.slice none 0 0)) (.slice none 0 0)) (.slice none 0 0)
            have hBW : Below w.heap.size w ((((((w1).setCell ⟨w.heap.size, 0, none⟩ (.slice none 0 0)).setCell ⟨w.heap.size, 1, none⟩ (.slice none 0 0)).setCell ⟨w.heap.size, 2, none⟩ (.slice none 0 0)).setCell ⟨w.heap.size, 3, none⟩ (.slice none 0 0))) := (((hBz.setCell (Nat.le_refl _) _).setCell (Nat.le_refl _) _).setCell (Nat.le_refl _) _).setCell (Nat.le_refl _) _
            clear c0 c1 c2 c3 z0 z1 z2 z3
            generalize (((((w1).setCell ⟨w.heap.size, 0, none⟩ (.slice none 0 0)).setCell ⟨w.heap.size, 1, none⟩ (.slice none 0 0)).setCell ⟨w.heap.size, 2, none⟩ (.slice none 0 0)).setCell ⟨w.heap.size, 3, none⟩ (.slice none 0 0)) = W at *
            have hWs : w.heap.size < W.heap.size := (Array.getElem?_eq_some_iff.1 hW0).1
            have r0 : (W).cell? ⟨w.heap.size, 0, none⟩ = some (.slice none 0 0) := (cell_cells (i := 0) ((id) hW0)).trans (by simp)
            have r1 : (W).cell? ⟨w.heap.size, 1, none⟩ = some (.slice none 0 0) := (cell_cells (i := 1) ((id) hW0)).trans (by simp)
            have r2 : (W).cell? ⟨w.heap.size, 2, none⟩ = some (.slice none 0 0) := (cell_cells (i := 2) ((id) hW0)).trans (by simp)
            have r3 : (W).cell? ⟨w.heap.size, 3, none⟩ = some (.slice none 0 0) := (cell_cells (i := 3) ((id) hW0)).trans (by simp)
            have hBX : Below w.heap.size w (W) := (id) hBW
            refine bodyPost_ret (v := .tuple #[.agg #[.slice none 0 0, .slice none 0 0, .slice none 0 0, .slice none 0 0], .bool false]) (by simp [results, Tryz.results166, go_sem, r0, r1, r2, r3]) rfl ⟨fun _ => .slice none 0 0, by rw [HF.out], fun i _ => by rw [HF.out]; exact ⟨none, 0, rfl, Nat.le_refl _, by simp, fun h => absurd rfl h⟩, hBX⟩
          · have HN : Hid ((List.range (k + 1)).all (fun (dc : Nat) => runsR none (partL c dc)) = true) := by
              unfold Hid; rw [List.range_succ, List.all_append, hrel.out]; simp [hq]
            have HQ := hid hq
            clear hq
            go_wp2_with (go_at_call 204; refine (sright_any (partL c k) (vs k) wr HSL.out).mono ?_; rw [HQ.out]; rintro e w1 ⟨rfl, hb1⟩)
            go_roundw
            case rel => exact ⟨k + 1, by omega, by go_num, HN.out, hbi.trans (hb1.mono hsi)⟩
            case measure => simp [intOf]; omega
        · obtain rfl : k = 4 := by omega
          have HT : Hid (apartB c = true) := by unfold Hid apartB; rw [HD.out, hrel.out]; rfl
          have HR2 := hid (HR.out.grow hbi)
          have hz := hid ((hbi.block w.heap.size (by omega)).trans HG.out)
          have hBz := hb.trans (hbi.mono hsz)
          have hsz6 : w.heap.size < wr.heap.size := by omega
          have hsz7 : w.heap.size + 1 < wr.heap.size := by omega
          clear c0 c1 c2 c3
          have z0 := cells_frz (i := 0) hz.out
          have z1 := cells_frz (i := 1) hz.out
          have z2 := cells_frz (i := 2) hz.out
          have z3 := cells_frz (i := 3) hz.out
          have c0 : wr.cell? ⟨w.heap.size, 0, none⟩ = some (.slice none 0 0) := cell_cells (i := 0) hz.out
          have c1 : wr.cell? ⟨w.heap.size, 1, none⟩ = some (.slice none 0 0) := cell_cells (i := 1) hz.out
          have c2 : wr.cell? ⟨w.heap.size, 2, none⟩ = some (.slice none 0 0) := cell_cells (i := 2) hz.out
          have c3 : wr.cell? ⟨w.heap.size, 3, none⟩ = some (.slice none 0 0) := cell_cells (i := 3) hz.out
          have d0 : wr.cell? ⟨w.heap.size + 1, 0, none⟩ = some (vs 0) := HR2.out.at (by omega)
          have d1 : wr.cell? ⟨w.heap.size + 1, 1, none⟩ = some (vs 1) := HR2.out.at (by omega)
          have d2 : wr.cell? ⟨w.heap.size + 1, 2, none⟩ = some (vs 2) := HR2.out.at (by omega)
          have d3 : wr.cell? ⟨w.heap.size + 1, 3, none⟩ = some (vs 3) := HR2.out.at (by omega)
          obtain ⟨A0, m0, g0⟩ := (HR2.out.own 0 (by omega)).shape
          obtain ⟨A1, m1, g1⟩ := (HR2.out.own 1 (by omega)).shape
          obtain ⟨A2, m2, g2⟩ := (HR2.out.own 2 (by omega)).shape
          obtain ⟨A3, m3, g3⟩ := (HR2.out.own 3 (by omega)).shape
          have G0 := hid g0
          have G1 := hid g1
          have G2 := hid g2
          have G3 := hid g3
          simp only [g0, g1, g2, g3] at d0 d1 d2 d3 ⊢
          clear g0 g1 g2 g3
          go_wp2_with fail
          have hW0 := cells_set (i := 3) (cells_set (i := 2) (cells_set (i := 1) (cells_set (i := 0) hz.out (vs 0)) (vs 1)) (vs 2)) (vs 3)
          have hBW : Below w.heap.size w ((((wr.setCell ⟨w.heap.size, 0, none⟩ (vs 0)).setCell ⟨w.heap.size, 1, none⟩ (vs 1)).setCell ⟨w.heap.size, 2, none⟩ (vs 2)).setCell ⟨w.heap.size, 3, none⟩ (vs 3)) := (((hBz.setCell (Nat.le_refl _) _).setCell (Nat.le_refl _) _).setCell (Nat.le_refl _) _).setCell (Nat.le_refl _) _
          have hOW : ∀ i, i < 4 → OwnP ((((wr.setCell ⟨w.heap.size, 0, none⟩ (vs 0)).setCell ⟨w.heap.size, 1, none⟩ (vs 1)).setCell ⟨w.heap.size, 2, none⟩ (vs 2)).setCell ⟨w.heap.size, 3, none⟩ (vs 3)) (w.heap.size + 2) 201 2 RuE (vs i) (partL c i) := fun i hi =>
            ((((HR2.out.own i hi).setOther (a := ⟨w.heap.size, 0, none⟩) (by simp) _).setOther (a := ⟨w.heap.size, 1, none⟩) (by simp) _).setOther (a := ⟨w.heap.size, 2, none⟩) (by simp) _).setOther (a := ⟨w.heap.size, 3, none⟩) (by simp) _
          rw [G0.out, G1.out, G2.out, G3.out] at hW0 hBW
          simp only [G0.out, G1.out, G2.out, G3.out] at hOW
          clear c0 c1 c2 c3 z0 z1 z2 z3 d0 d1 d2 d3
          generalize ((((wr.setCell ⟨w.heap.size, 0, none⟩ (.slice A0 (partL c ((0 : Nat) : Int)).length m0)).setCell ⟨w.heap.size, 1, none⟩ (.slice A1 (partL c ((1 : Nat) : Int)).length m1)).setCell ⟨w.heap.size, 2, none⟩ (.slice A2 (partL c ((2 : Nat) : Int)).length m2)).setCell ⟨w.heap.size, 3, none⟩ (.slice A3 (partL c ((3 : Nat) : Int)).length m3)) = W at *
          have r0 : W.cell? ⟨w.heap.size, 0, none⟩ = some _ := (cell_cells (i := 0) hW0).trans rfl
          have r1 : W.cell? ⟨w.heap.size, 1, none⟩ = some _ := (cell_cells (i := 1) hW0).trans rfl
          have r2 : W.cell? ⟨w.heap.size, 2, none⟩ = some _ := (cell_cells (i := 2) hW0).trans rfl
          have r3 : W.cell? ⟨w.heap.size, 3, none⟩ = some _ := (cell_cells (i := 3) hW0).trans rfl
          refine bodyPost_ret (v := .tuple #[.agg #[vs 0, vs 1, vs 2, vs 3], .bool true]) (by simp [results, Tryz.results166, go_sem, r0, r1, r2, r3, G0.out, G1.out, G2.out, G3.out]) rfl ⟨vs, by rw [HT.out], fun i hi => by rw [HT.out]; exact ((hOW i hi).sla (by have := partL_len c i; unfold Big; simp; omega)).up (fun _ _ => rfl) (fun b hb => ⟨by have := hb.1; omega, hb.2.1⟩) (fun _ _ _ h => h), hBW⟩
end Go.Proofs.YtlapdmgjfdelnaaGreat

namespace Go.Proofs.YtlapdmgjfdelnaaGreat
open Go.RowKit
set_option maxRecDepth 100000

/-- How two texts compare. -/
def cmpS (a b : ByteArray) : Int := if ltS a b then -1 else if ltS b a then 1 else 0
theorem cmpsS_any (a b : ByteArray) (w : World) : Calls Tryz.prog 214 #[.string a, .string b] w fun e w' => e = .returned (.int .i64 (cmpS a b)) ∧ w = w' := by
  have hgt := ltS_gt b a
  have hE : Hid (cmpS a b = if Op.bytesLess a.toList b.toList then -1 else if ltS b a then 1 else 0) := rfl
  have hN1 : (!(a.toList == a.toList)) = false := by simp
  have hN2 : (!(b.toList == b.toList)) = false := by simp
  go_enter Tryz.func214, Tryz.ntmps214
  rcases g1 : Op.bytesLess a.toList b.toList
  · rcases g2 : (a.toList == b.toList)
    · have g3 : ¬ a.toList = b.toList := by simpa using g2
      have HR : Hid (cmpS a b = 1) := by unfold Hid; rw [hE.out, g1, hgt, g1, g2]; rfl
      clear hgt hE
      go_wp2
      go_ret
      exact ⟨ret_int HR.out.symm, rfl⟩
    · have g3 : a.toList = b.toList := by simpa using g2
      have HR : Hid (cmpS a b = 0) := by unfold Hid; rw [hE.out, g1, hgt, g1, g2]; rfl
      obtain rfl : a = b := (bytes_inj a b).1 g3
      clear hgt hE g3
      go_wp2
      go_ret
      exact ⟨ret_int HR.out.symm, rfl⟩
  · have HR : Hid (cmpS a b = -1) := by unfold Hid; rw [hE.out, g1]; rfl
    clear hgt hE
    go_wp2
    go_ret
    exact ⟨ret_int HR.out.symm, rfl⟩

/-- The greater one of two entries: of number, then of text. -/
def grtE (a b : En) : En := if orI (cmpI a.v b.v) (cmpS a.s b.s) < 0 then b else a

set_option maxHeartbeats 2000000 in
theorem greater_any (a b : En) (w : World) : Calls Tryz.prog 210 #[.agg #[.int .i64 a.dc, .int .i64 a.n, .string a.s, .int .i64 a.v], .agg #[.int .i64 b.dc, .int .i64 b.n, .string b.s, .int .i64 b.v]] w fun e w' => e = .returned (.agg #[.int .i64 (grtE a b).dc, .int .i64 (grtE a b).n, .string (grtE a b).s, .int .i64 (grtE a b).v]) ∧ Below w.heap.size w w' := by
  go_enter Tryz.func210, Tryz.ntmps210
  go_upto_region 1 with (fail)
  go_region_held3 (fun w' => w'.cell? ⟨w.heap.size, 1, none⟩ = some (.int .i64 a.n) ∧ w'.cell? ⟨w.heap.size, 2, none⟩ = some (.string a.s) ∧ w'.cell? ⟨w.heap.size, 3, none⟩ = some (.int .i64 a.v) ∧ w'.cell? ⟨w.heap.size + 1, 2, none⟩ = some (.string b.s) ∧ w'.cell? ⟨w.heap.size + 1, 3, none⟩ = some (.int .i64 b.v)) (go_keep)
    (first | (go_at_call 171; refine (cmp64_any _ _ _).mono ?_; rintro e w' ⟨rfl, rfl⟩) | (go_at_call 214; refine (cmpsS_any _ _ _).mono ?_; rintro e w' ⟨rfl, rfl⟩) | (go_at_call 244; refine (or2_any (cmpI a.v b.v) (cmpS a.s b.s) _ _ (by rw [World.cell?_drew, World.cell?_alloc_at _ _ _ _ (by simp)]; rfl) (by rw [World.cell?_drew, World.cell?_alloc_at _ _ _ _ (by simp)]; rfl)).mono ?_; rintro e w' ⟨rfl, rfl⟩))
  have hB : Below w.heap.size w (((((w.alloc (.cells #[.int .i64 a.dc, .int .i64 a.n, .string a.s, .int .i64 a.v] 113)).alloc (.cells #[.int .i64 b.dc, .int .i64 b.n, .string b.s, .int .i64 b.v] 113)).alloc (.cells #[.int .i64 0, .int .i64 0, .string ⟨#[]⟩, .int .i64 0] 113)).alloc (.cells #[.int .i64 (cmpI a.v b.v), .int .i64 (cmpS a.s b.s)] 3)).drew) := by go_grown
  have g0 : (((((w.alloc (.cells #[.int .i64 a.dc, .int .i64 a.n, .string a.s, .int .i64 a.v] 113)).alloc (.cells #[.int .i64 b.dc, .int .i64 b.n, .string b.s, .int .i64 b.v] 113)).alloc (.cells #[.int .i64 0, .int .i64 0, .string ⟨#[]⟩, .int .i64 0] 113)).alloc (.cells #[.int .i64 (cmpI a.v b.v), .int .i64 (cmpS a.s b.s)] 3)).drew).heap[w.heap.size]? = some (.cells #[.int .i64 a.dc, .int .i64 a.n, .string a.s, .int .i64 a.v] 113 (0, 0)) := (heap_old (by simp <;> omega)).trans ((heap_old (by simp <;> omega)).trans ((heap_old (by simp)).trans (heap_new rfl)))
  have g1 : (((((w.alloc (.cells #[.int .i64 a.dc, .int .i64 a.n, .string a.s, .int .i64 a.v] 113)).alloc (.cells #[.int .i64 b.dc, .int .i64 b.n, .string b.s, .int .i64 b.v] 113)).alloc (.cells #[.int .i64 0, .int .i64 0, .string ⟨#[]⟩, .int .i64 0] 113)).alloc (.cells #[.int .i64 (cmpI a.v b.v), .int .i64 (cmpS a.s b.s)] 3)).drew).heap[w.heap.size + 1]? = some (.cells #[.int .i64 b.dc, .int .i64 b.n, .string b.s, .int .i64 b.v] 113 (0, 0)) := (heap_old (by simp <;> omega)).trans ((heap_old (by simp)).trans (heap_new (by simp)))
  have g2 : (((((w.alloc (.cells #[.int .i64 a.dc, .int .i64 a.n, .string a.s, .int .i64 a.v] 113)).alloc (.cells #[.int .i64 b.dc, .int .i64 b.n, .string b.s, .int .i64 b.v] 113)).alloc (.cells #[.int .i64 0, .int .i64 0, .string ⟨#[]⟩, .int .i64 0] 113)).alloc (.cells #[.int .i64 (cmpI a.v b.v), .int .i64 (cmpS a.s b.s)] 3)).drew).heap[w.heap.size + 2]? = some (.cells #[.int .i64 0, .int .i64 0, .string ⟨#[]⟩, .int .i64 0] 113 (0, 0)) := (heap_old (by simp)).trans (heap_new (by simp))
  have a0 := cell_cells (i := 0) g0
  have a1 := cell_cells (i := 1) g0
  have a2 := cell_cells (i := 2) g0
  have a3 := cell_cells (i := 3) g0
  have b0 := cell_cells (i := 0) g1
  have b1 := cell_cells (i := 1) g1
  have b2 := cell_cells (i := 2) g1
  have b3 := cell_cells (i := 3) g1
  have k0 := cell_cells (i := 0) g2
  have k1 := cell_cells (i := 1) g2
  have k2 := cell_cells (i := 2) g2
  have k3 := cell_cells (i := 3) g2
  have z0 := cells_frz (i := 0) g2
  have z1 := cells_frz (i := 1) g2
  have z2 := cells_frz (i := 2) g2
  have z3 := cells_frz (i := 3) g2
  have HG := hid g2
  clear g0 g1 g2
  simp only [List.getElem?_toArray, List.getElem?_cons_zero, List.getElem?_cons_succ] at a0 a1 a2 a3 b0 b1 b2 b3 k0 k1 k2 k3
  generalize ((((w.alloc (.cells #[.int .i64 a.dc, .int .i64 a.n, .string a.s, .int .i64 a.v] 113)).alloc (.cells #[.int .i64 b.dc, .int .i64 b.n, .string b.s, .int .i64 b.v] 113)).alloc (.cells #[.int .i64 0, .int .i64 0, .string ⟨#[]⟩, .int .i64 0] 113)).alloc (.cells #[.int .i64 (cmpI a.v b.v), .int .i64 (cmpS a.s b.s)] 3)).drew = W at *
  have HGR : Hid (grtE a b = if orI (cmpI a.v b.v) (cmpS a.s b.s) < 0 then b else a) := rfl
  rcases hc : decide (orI (cmpI a.v b.v) (cmpS a.s b.s) < 0)
  · have HE : Hid (grtE a b = a) := by unfold Hid; rw [HGR.out, if_neg (of_decide_eq_false hc)]
    go_wp2_with fail
    have hW4 := cells_set (i := 3) (cells_set (i := 2) (cells_set (i := 1) (cells_set (i := 0) HG.out (.int .i64 a.dc)) (.int .i64 a.n)) (.string a.s)) (.int .i64 a.v)
    have r0 := (cell_cells (i := 0) hW4).trans (show _ = some (.int .i64 a.dc) by simp)
    have r1 := (cell_cells (i := 1) hW4).trans (show _ = some (.int .i64 a.n) by simp)
    have r2 := (cell_cells (i := 2) hW4).trans (show _ = some (.string a.s) by simp)
    have r3 := (cell_cells (i := 3) hW4).trans (show _ = some (.int .i64 a.v) by simp)
    refine bodyPost_ret (v := .agg #[.int .i64 a.dc, .int .i64 a.n, .string a.s, .int .i64 a.v]) (by simp [results, Tryz.results210, go_sem, r0, r1, r2, r3]) rfl ⟨by rw [HE.out], (((hB.setCell (by simp <;> omega) _).setCell (by simp <;> omega) _).setCell (by simp <;> omega) _).setCell (by simp <;> omega) _⟩
  · have HE : Hid (grtE a b = b) := by unfold Hid; rw [HGR.out, if_pos (of_decide_eq_true hc)]
    go_wp2_with fail
    have hW4 := cells_set (i := 3) (cells_set (i := 2) (cells_set (i := 1) (cells_set (i := 0) HG.out (.int .i64 b.dc)) (.int .i64 b.n)) (.string b.s)) (.int .i64 b.v)
    have r0 := (cell_cells (i := 0) hW4).trans (show _ = some (.int .i64 b.dc) by simp)
    have r1 := (cell_cells (i := 1) hW4).trans (show _ = some (.int .i64 b.n) by simp)
    have r2 := (cell_cells (i := 2) hW4).trans (show _ = some (.string b.s) by simp)
    have r3 := (cell_cells (i := 3) hW4).trans (show _ = some (.int .i64 b.v) by simp)
    refine bodyPost_ret (v := .agg #[.int .i64 b.dc, .int .i64 b.n, .string b.s, .int .i64 b.v]) (by simp [results, Tryz.results210, go_sem, r0, r1, r2, r3]) rfl ⟨by rw [HE.out], (((hB.setCell (by simp <;> omega) _).setCell (by simp <;> omega) _).setCell (by simp <;> omega) _).setCell (by simp <;> omega) _⟩
end Go.Proofs.YtlapdmgjfdelnaaGreat

namespace Go.Proofs.YtlapdmgjfdelnaaGreat
open Go.RowKit
set_option maxRecDepth 100000

theorem SlP.oneN {α : Type} {w : World} {o : Obj} {sz n : Nat} {E : α → List Value → Prop} {x : α} {cs : List Value} (hE : E x cs) (hl : cs.length = sz) (e : TypeId) (hn : n = w.heap.size + 1) :
    SlP ((w.alloc o).alloc (.cells cs.toArray e)) ((w.alloc o).alloc (.cells cs.toArray e)).heap.size sz E (.slice (some ⟨n, 0, none⟩) 1 1) [x] :=
  SlP.oneB hE hl e (hn.trans (World.size_alloc _ _).symm) (by rw [World.size_alloc, World.size_alloc]; omega)
/-- What ormap.Keys tells. -/
def keysOf (t : Tr) : List ByteArray := if t.right 5 then t.ks.map (·.1) else []
set_option maxHeartbeats 4000000 in
theorem okeys_any (t : Tr) (w : World) (ve vk : Value) (h : t.rd w w.heap.size ve vk) (hN : t.ks.length ≤ 900000) :
    Calls Tryz.prog 94 #[.agg #[ve, vk]] w (RetO w 9 1 (fun _ => StE) (keysOf t)) := by
  have HC : Hid (∀ w', Below w.heap.size w w' → t.rd w' w'.heap.size ve vk) := fun w' hb => rd_below hb hb.size _ _ _ h
  have HK0 : Hid (keysOf t = if t.right 5 then t.ks.map (·.1) else []) := rfl
  obtain ⟨es, ks⟩ := t
  rw [rd_iff] at h
  obtain ⟨⟨A0, n0, rfl, d1, d2, d3⟩, ⟨A, m, rfl, c1, c2, c3⟩⟩ := h
  unfold Big at c2 d2
  simp only [Tr.ks] at hN HK0 ⊢
  have hb0 : Below w.heap.size w (w.alloc (.cells #[.slice A0 es.length n0, .slice A ks.length m] 25)) := (Below.refl _ w).alloc (Nat.le_refl _) _
  go_enter Tryz.func94, Tryz.ntmps94
  go_wp2_with fail
  refine (tRight_any _ _ _ _ (HC.out _ hb0)).mono ?_
  rintro e w1 ⟨rfl, hb1⟩
  have hs1 := hb1.size
  simp only [World.size_alloc] at hs1
  have hB1 : Below w.heap.size w w1 := hb0.trans (hb1.mono (by simp))
  have b1 : w1.cell? ⟨w.heap.size, 1, none⟩ = some (.slice A ks.length m) := by rw [hb1.cell (p := ⟨w.heap.size, 1, none⟩) (by simp)]; simp
  cases hr : (Tr.mk es ks).right 5
  · have HK : Hid (keysOf (.mk es ks) = []) := by unfold Hid; rw [HK0.out, hr]; rfl
    clear hr
    go_wp2_with fail
    go_ret
    exact ⟨_, rfl, by rw [HK.out]; exact OwnP.nil, hB1⟩
  have HK : Hid (keysOf (.mk es ks) = ks.map (·.1)) := by unfold Hid; rw [HK0.out, hr]; rfl
  clear hr d3 d2 d1
  go_wp2_with fail
  go_loopw [3, 11] (fun v i wr => ∃ k : Nat, k ≤ ks.length ∧ i = .int .i64 k ∧ OwnP wr (w.heap.size + 1) 9 1 StE v ((ks.take k).map (·.1)) ∧ Below (w.heap.size + 1) w1 wr) (fun _ i _ => ks.length - (intOf i).toNat)
  case atStart => exact ⟨0, Nat.zero_le _, rfl, OwnP.nil, Below.refl _ _⟩
  case round =>
    obtain ⟨k, hk, rfl, hown, hb⟩ := hrel
    have hsz := hb.size
    have hB0 : Below w.heap.size w wr := hB1.trans (hb.mono (by omega))
    by_cases hlt : k < ks.length
    · obtain ⟨⟨key, t⟩, hx⟩ : ∃ x, ks[k]? = some x := ⟨_, List.getElem?_eq_getElem hlt⟩
      obtain ⟨b, off, rfl, hbB, hc⟩ := c3 (by rintro rfl; simp at hlt)
      obtain ⟨cs, ⟨ve', vk', rfl, hkb, hrd⟩, _, hu⟩ := hc k _ hx
      obtain ⟨A5, n5, A6, n6, rfl, rfl⟩ := rd_shape hrd
      have e0 : wr.cell? ⟨b, off + k * 3, none⟩ = some (.string key) := (hB0.cell hbB).trans (hu 0 _ rfl)
      have e1 : wr.cell? ⟨b, off + k * 3 + 1, none⟩ = some (.slice A5 t.es.length n5) := (hB0.cell hbB).trans (hu 1 _ rfl)
      have e2 : wr.cell? ⟨b, off + k * 3 + 2, none⟩ = some (.slice A6 t.ks.length n6) := (hB0.cell hbB).trans (hu 2 _ rfl)
      have HX : Hid ((ks.take (k + 1)).map (·.1) = (ks.take k).map (·.1) ++ [key]) := by unfold Hid; rw [List.take_add_one, hx]; simp
      have HL : Hid (((ks.take k).map (·.1)).length + [key].length ≤ Few) := by unfold Hid Few; simp; omega
      have HKY : Hid (StE key [.string key]) := ⟨rfl, hkb⟩
      clear hu hc c3 hx hrd hb0 hb1 b1
      go_wp2_with (at_builtin; go_loud ((with_reducible refine wpList_few rfl (.tmp 15) (.tmp 18) _ rfl eiStr (by decide) (by decide) (fun _ _ h => StE.one h) rfl ((hown.alloc _).alloc _) rfl (SlP.oneN (x := key) HKY.out rfl _ rfl) HL.out (by simp only [World.size_alloc]; omega) ?_); intro v1 w2 hown1 hb2 _; have hb3 := (((Below.refl (w.heap.size + 1) wr).alloc (by omega) _).alloc (by simp only [World.size_alloc]; omega) _).trans hb2))
      go_roundw
      case rel => exact ⟨k + 1, by omega, by go_num, by rw [HX.out]; exact hown1, hb.trans hb3⟩
      case measure => simp [intOf]; omega
    · obtain rfl : k = ks.length := by omega
      rw [List.take_of_length_le (Nat.le_refl _)] at hown
      go_wp2_with fail
      go_ret
      exact ⟨_, rfl, by rw [HK.out]; exact hown.mono (by omega), hB0⟩
end Go.Proofs.YtlapdmgjfdelnaaGreat

namespace Go.Proofs.YtlapdmgjfdelnaaGreat
open Go.RowKit
set_option maxRecDepth 100000

def inn (how : Int) (p q : Bool) : Bool := if how = 2 then p && !q else if how = 1 then p && q else p || q
def byOut (out : List (Int × Int)) (at' to' : Int) : List (Int × Int) :=
  match out.getLast? with
  | some r => if r.2 = at' - 1 then out.set (out.length - 1) (r.1, to' - 1) else out ++ [(at', to' - 1)]
  | none => [(at', to' - 1)]
def byGo (a b : List (Int × Int)) (how : Int) (ps : List Int) : Nat → Int × Bool → List (Int × Int) → List (Int × Int)
  | 0, _, out => out
  | n + 1, s, out => if s.2 then byGo a b how ps n (nextL ps s.1) (if inn how (hasL a s.1) (hasL b s.1) then byOut out s.1 (nextL ps s.1).1 else out) else out
def byL (a b : List (Int × Int)) (how : Int) : List (Int × Int) := byGo a b how (endsL a ++ endsL b) ((endsL a ++ endsL b).length + 1) (nextL (endsL a ++ endsL b) 0) []
def cnt (ps : List Int) (x : Int) : Nat := (ps.filter fun y => decide (x ≤ y)).length

theorem byGo_false (a b : List (Int × Int)) (how : Int) (ps : List Int) (n : Nat) (x : Int) (out : List (Int × Int)) : byGo a b how ps n (x, false) out = out := by
  cases n <;> simp [byGo]

theorem nextL_mem : ∀ (l : List Int) (above : Int) (s : Int × Bool), (s.2 = true → above < s.1) → (l.foldl (nextS above) s = s ∨ (l.foldl (nextS above) s).1 ∈ l) ∧ ((l.foldl (nextS above) s).2 = true → above < (l.foldl (nextS above) s).1)
  | [], _, s, hs => ⟨.inl rfl, hs⟩
  | x :: l, above, s, hs => by
    simp only [List.foldl_cons]
    by_cases hc : above < x ∧ (s.2 = false ∨ x < s.1)
    · have e : nextS above s x = (x, true) := by simp [nextS, hc]
      rw [e]
      obtain ⟨h1, h2⟩ := nextL_mem l above (x, true) (fun _ => hc.1)
      refine ⟨.inr ?_, h2⟩
      rcases h1 with h1 | h1
      · rw [h1]; simp
      · exact List.mem_cons_of_mem _ h1
    · have e : nextS above s x = s := by simp only [nextS, if_neg hc]
      rw [e]
      obtain ⟨h1, h2⟩ := nextL_mem l above s hs
      refine ⟨?_, h2⟩
      rcases h1 with h1 | h1
      · exact .inl h1
      · exact .inr (List.mem_cons_of_mem _ h1)
theorem nextL_spec {l : List Int} {above : Int} (h : (nextL l above).2 = true) : (nextL l above).1 ∈ l ∧ above < (nextL l above).1 := by
  obtain ⟨h1, h2⟩ := nextL_mem l above (0, false) (fun h => by cases h)
  refine ⟨?_, h2 h⟩
  rcases h1 with h1 | h1
  · unfold nextL at h; rw [h1] at h; cases h
  · exact h1
theorem cnt_lt {l : List Int} {x y : Int} (hx : x ∈ l) (h : x < y) : cnt l y < cnt l x := by
  unfold cnt
  induction l with
  | nil => cases hx
  | cons z l ih =>
    have hle : (l.filter fun u => decide (y ≤ u)).length ≤ (l.filter fun u => decide (x ≤ u)).length := by
      clear ih hx
      induction l with
      | nil => simp
      | cons u l ih =>
        simp only [List.filter_cons]
        by_cases h1 : y ≤ u
        · have : x ≤ u := by omega
          simp [h1, this]; exact ih
        · by_cases h2 : x ≤ u
          · simp [h1, h2]; omega
          · simp [h1, h2]; exact ih
    simp only [List.filter_cons]
    rcases List.mem_cons.1 hx with rfl | hx
    · have : ¬ y ≤ x := by omega
      simp [this]; omega
    · have := ih hx
      by_cases h1 : y ≤ z
      · have : x ≤ z := by omega
        simp [h1, this]; omega
      · by_cases h2 : x ≤ z
        · simp [h1, h2]; omega
        · simp [h1, h2]; omega
theorem cnt_le (l : List Int) (x : Int) : cnt l x ≤ l.length := List.length_filter_le _ _
theorem endsL_len (l : List (Int × Int)) : (endsL l).length = 2 * l.length := by
  unfold endsL; rw [List.length_flatMap]; simp [List.map_const']; omega

end Go.Proofs.YtlapdmgjfdelnaaGreat

namespace Go.Proofs.YtlapdmgjfdelnaaGreat
open Go.RowKit
set_option maxRecDepth 100000

def ofOut (out : List (Int × Int)) (x : Int) : List (Int × Int) :=
  match out.getLast? with
  | some r => if r.2 = x - 1 then out.set (out.length - 1) (r.1, x) else out ++ [(x, x)]
  | none => [(x, x)]
def ofGo (ps : List Int) : Nat → Int × Bool → List (Int × Int) → List (Int × Int)
  | 0, _, out => out
  | n + 1, s, out => if s.2 then ofGo ps n (nextL ps s.1) (ofOut out s.1) else out
def ofL (ps : List Int) : List (Int × Int) := ofGo ps (ps.length + 1) (nextL ps 0) []
theorem ofOut_len (out : List (Int × Int)) (x : Int) : (ofOut out x).length ≤ out.length + 1 := by
  unfold ofOut
  cases h : out.getLast? with
  | none => simp
  | some r => dsimp only; split <;> simp
theorem ofGo_len (ps : List Int) : ∀ (n : Nat) (s : Int × Bool) (out : List (Int × Int)), (ofGo ps n s out).length ≤ out.length + n
  | 0, s, out => by simp [ofGo]
  | n + 1, s, out => by
    rw [ofGo]
    split
    · have := ofGo_len ps n (nextL ps s.1) (ofOut out s.1); have := ofOut_len out s.1; omega
    · omega
theorem ofL_len (ps : List Int) : (ofL ps).length ≤ ps.length + 1 := by have := ofGo_len ps (ps.length + 1) (nextL ps 0) []; simpa [ofL] using this

end Go.Proofs.YtlapdmgjfdelnaaGreat

namespace Go.Proofs.YtlapdmgjfdelnaaGreat
open Go.RowKit
set_option maxRecDepth 100000

theorem byOut_len (out : List (Int × Int)) (x y : Int) : (byOut out x y).length ≤ out.length + 1 := by
  unfold byOut
  cases h : out.getLast? with
  | none => simp
  | some r => dsimp only; split <;> simp
theorem byGo_len (a b : List (Int × Int)) (how : Int) (ps : List Int) : ∀ (n : Nat) (s : Int × Bool) (out : List (Int × Int)), (byGo a b how ps n s out).length ≤ out.length + n
  | 0, s, out => by simp [byGo]
  | n + 1, s, out => by
    rw [byGo]
    split
    · have h1 := byGo_len a b how ps n (nextL ps s.1) (if inn how (hasL a s.1) (hasL b s.1) then byOut out s.1 (nextL ps s.1).1 else out)
      have h2 := byOut_len out s.1 (nextL ps s.1).1
      split at h1 <;> rename_i hc
      · rw [if_pos hc]; omega
      · rw [if_neg hc]; omega
    · omega
theorem byL_len (a b : List (Int × Int)) (how : Int) : (byL a b how).length ≤ 2 * a.length + 2 * b.length + 1 := by
  have := byGo_len a b how (endsL a ++ endsL b) ((endsL a ++ endsL b).length + 1) (nextL (endsL a ++ endsL b) 0) []
  have h1 := endsL_len a
  have h2 := endsL_len b
  simp at this
  unfold byL
  simp
  omega

/-- All numbers of a context are right. -/
def SpsOk (c : List Sp) : Prop := ∀ s ∈ c, 0 ≤ s.fr ∧ s.fr ≤ 1099511627777 ∧ 0 ≤ s.hi ∧ s.hi ≤ 1099511627777
def ctxByK (a b : List Sp) (how : Int) (k : Nat) : List Sp := (List.range k).flatMap fun (dc : Nat) => spansL (dc : Int) (byL (partL a dc) (partL b dc) how)
def ctxBy (a b : List Sp) (how : Int) : List Sp := ctxByK a b how 4
theorem ctxByK_len (a b : List Sp) (how : Int) : ∀ k, (ctxByK a b how k).length ≤ k * (2 * a.length + 2 * b.length + 1)
  | 0 => by simp [ctxByK]
  | k + 1 => by
    have h := ctxByK_len a b how k
    have h1 := byL_len (partL a k) (partL b k) how
    have h2 := partL_len a k
    have h3 := partL_len b k
    unfold ctxByK at *
    rw [List.range_succ, List.flatMap_append, List.length_append, Nat.add_mul]
    simp only [List.flatMap_cons, List.flatMap_nil, List.append_nil, spansL, List.length_map] at *
    omega

def numsL (l : List Dt) (dc : Int) : List Int := (l.filter fun d => d.dc == dc).map fun d => d.n
def ctxOfK (l : List Dt) (k : Nat) : List Sp := (List.range k).flatMap fun (dc : Nat) => spansL (dc : Int) (ofL (numsL l dc))
def ctxOf (l : List Dt) : List Sp := ctxOfK l 4
theorem numsL_take {c : List Dt} {k : Nat} {x : Dt} (h : c[k]? = some x) (dc : Int) : numsL (c.take (k + 1)) dc = numsL (c.take k) dc ++ (if x.dc = dc then [x.n] else []) := by
  unfold numsL
  rw [List.take_add_one, h]
  by_cases hd : x.dc = dc <;> simp [hd]
theorem numsL_len (c : List Dt) (dc : Int) : (numsL c dc).length ≤ c.length := by
  unfold numsL; rw [List.length_map]; exact List.length_filter_le _ _
theorem ctxOfK_len (l : List Dt) : ∀ k, (ctxOfK l k).length ≤ k * (l.length + 1)
  | 0 => by simp [ctxOfK]
  | k + 1 => by
    have h := ctxOfK_len l k
    have h1 := ofL_len (numsL l k)
    have h2 := numsL_len l k
    unfold ctxOfK at *
    rw [List.range_succ, List.flatMap_append, List.length_append, Nat.add_mul]
    simp only [List.flatMap_cons, List.flatMap_nil, List.append_nil, spansL, List.length_map] at *
    omega

end Go.Proofs.YtlapdmgjfdelnaaGreat

namespace Go.Proofs.YtlapdmgjfdelnaaGreat
open Go.RowKit
set_option maxRecDepth 100000

theorem SlA.nil {α : Type} {w : World} {ok : Nat → Prop} {sz : Nat} {E : α → List Value → Prop} : SlA w ok sz E (.slice none 0 0) ([] : List α) := ⟨none, 0, rfl, Nat.le_refl _, by simp, fun h => absurd rfl h⟩

mutual
theorem lvs_dots : ∀ (t : Tr) (p : List ByteArray), (t.lvs p).map (fun x => x.2.dot) = t.dots
  | .mk es ks, p => by rw [Tr.lvs, Tr.dots, List.map_append, lvsL_dots ks p, List.map_map]; rfl
theorem lvsL_dots : ∀ (ks : List (ByteArray × Tr)) (p : List ByteArray), (Tr.lvsL ks p).map (fun x => x.2.dot) = Tr.dotsL ks
  | [], p => by rw [Tr.lvsL, Tr.dotsL]; rfl
  | (k, t) :: ks, p => by rw [Tr.lvsL, Tr.dotsL, List.map_append, lvs_dots t, lvsL_dots ks]
end
theorem dots_len (t : Tr) : t.dots.length ≤ t.sz := by rw [← lvs_dots t [], List.length_map]; exact lvs_len t []

end Go.Proofs.YtlapdmgjfdelnaaGreat

namespace Go.Proofs.YtlapdmgjfdelnaaGreat
open Go.RowKit
set_option maxRecDepth 100000

/-- The longest path. -/
def deepL (l : List Lf) : Nat := (l.map fun x => x.1.length).sum
def buildL (l : List Lf) : Tr := buildT (deepL l) l
def getL (l : List Lf) (p : List ByteArray) : List Lf := p.foldl underL l
def getT (t : Tr) (p : List ByteArray) : Tr := buildL (getL (t.lvs []) p)
theorem box_tree {w : World} {g : Nat} {t : Tr} {ok : Nat → Prop} {ve vk x y : Value} {e : TypeId} (hbx : w.heap[g]? = some (.cells #[x, y] e (0, 0))) (h : t.rda w ok ve vk) (hne : ∀ b, ok b → b ≠ g) :
    ((w.setCell ⟨g, 0, none⟩ ve).setCell ⟨g, 1, none⟩ vk).cell? ⟨g, 0, none⟩ = some ve ∧ ((w.setCell ⟨g, 0, none⟩ ve).setCell ⟨g, 1, none⟩ vk).cell? ⟨g, 1, none⟩ = some vk ∧
      t.rda ((w.setCell ⟨g, 0, none⟩ ve).setCell ⟨g, 1, none⟩ vk) ok ve vk ∧ ((w.setCell ⟨g, 0, none⟩ ve).setCell ⟨g, 1, none⟩ vk).heap.size = w.heap.size := by
  have hW := cells_set (i := 1) (cells_set (i := 0) hbx ve) vk
  refine ⟨(cell_cells (i := 0) hW).trans (by simp), (cell_cells (i := 1) hW).trans (by simp), rda_up (fun b hb => ?_) (fun _ hb => hb) _ _ _ h, by simp [World.setCell]⟩
  exact (Below.heap_setCell _ _ _ _ (hne b hb)).trans (Below.heap_setCell _ _ _ _ (hne b hb))
/-- The call hands back a tree in blocks of its own. -/
def RetT (w : World) (t : Tr) (e : Ending) (w' : World) : Prop :=
  ∃ ve vk, e = .returned (.agg #[ve, vk]) ∧ t.rda w' (fun b => w.heap.size ≤ b ∧ b < w'.heap.size) ve vk ∧ Below w.heap.size w w'
end Go.Proofs.YtlapdmgjfdelnaaGreat

namespace Go.Proofs.YtlapdmgjfdelnaaGreat
open Go.RowKit
set_option maxRecDepth 100000

theorem ltD_total {a b : Dt} (h : a.lt b = false) (k : b.lt a = false) : a = b := by
  obtain ⟨x, y⟩ := a
  obtain ⟨u, v⟩ := b
  unfold Dt.lt at h k
  split at h <;> split at k <;> simp at * <;> omega

/-- A tree in order. -/
inductive Tr.Ord : Tr → Prop
  | mk {es : List En} {ks : List Kd} (h1 : es.Pairwise fun a b => a.dot.lt b.dot = true) (h2 : ks.Pairwise fun a b => ltS a.1 b.1 = true) (h3 : ∀ k t, (k, t) ∈ ks → k ≠ ByteArray.empty ∧ t.empty = false) (h4 : ∀ k t, (k, t) ∈ ks → Tr.Ord t) : Tr.Ord (.mk es ks)

theorem ord_iff {es : List En} {ks : List Kd} : Tr.Ord (.mk es ks) ↔ (es.Pairwise fun a b => a.dot.lt b.dot = true) ∧ (ks.Pairwise fun a b => ltS a.1 b.1 = true) ∧ ∀ k t, (k, t) ∈ ks → k ≠ ByteArray.empty ∧ t.empty = false ∧ t.Ord :=
  ⟨fun h => by cases h with | mk h1 h2 h3 h4 => exact ⟨h1, h2, fun k t hm => ⟨(h3 k t hm).1, (h3 k t hm).2, h4 k t hm⟩⟩, fun h => .mk h.1 h.2.1 (fun k t hm => ⟨(h.2.2 k t hm).1, (h.2.2 k t hm).2.1⟩) fun k t hm => (h.2.2 k t hm).2.2⟩
theorem Ord.mk' {es : List En} {ks : List Kd} (h1 : es.Pairwise fun a b => a.dot.lt b.dot = true) (h2 : ks.Pairwise fun a b => ltS a.1 b.1 = true) (h3 : ∀ k t, (k, t) ∈ ks → k ≠ ByteArray.empty ∧ t.empty = false ∧ t.Ord) : Tr.Ord (.mk es ks) := ord_iff.2 ⟨h1, h2, h3⟩

theorem ents_pair : ∀ (es : List En) (p : Option Dt), entsB p es = true → (es.Pairwise fun a b => a.dot.lt b.dot = true) ∧ ∀ e ∈ es, okP p e.dot = true
  | [], _, _ => ⟨.nil, fun _ h => by cases h⟩
  | e :: es, p, h => by
    rw [entsB_cons, Bool.and_eq_true, Bool.and_eq_true] at h
    obtain ⟨h1, h2⟩ := ents_pair es _ h.2
    refine ⟨.cons (fun a ha => h2 a ha) h1, fun a ha => ?_⟩
    rcases List.mem_cons.1 ha with rfl | ha
    · exact h.1.2
    · exact okP_trans h.1.2 (h2 a ha)
theorem okK_trans {p : Option ByteArray} {a b : ByteArray} (h : okK p a = true) (k : ltS a b = true) : okK p b = true := by
  cases p with
  | none => rfl
  | some q => exact ltS_trans h k
theorem keyB_ne {k : ByteArray} (h : keyB k = true) : k ≠ ByteArray.empty := fun e => by
  subst e; simp [keyB] at h
theorem kids_pair (d : Int) : ∀ (ks : List Kd) (p : Option ByteArray), Tr.rightL p ks d = true → (ks.Pairwise fun a b => ltS a.1 b.1 = true) ∧ (∀ x ∈ ks, okK p x.1 = true) ∧ ∀ k t, (k, t) ∈ ks → k ≠ ByteArray.empty ∧ t.empty = false ∧ t.right (d - 1) = true
  | [], _, _ => ⟨.nil, fun _ h => (by cases h), fun _ _ h => by cases h⟩
  | (k, t) :: ks, p, h => by
    rw [rightL_cons, Bool.and_eq_true, Bool.and_eq_true, Bool.and_eq_true, Bool.and_eq_true] at h
    obtain ⟨⟨⟨⟨a1, a2⟩, a3⟩, a4⟩, a5⟩ := h
    obtain ⟨h1, h2, h3⟩ := kids_pair d ks _ a5
    refine ⟨.cons (fun a ha => h2 a ha) h1, fun a ha => ?_, fun k' t' hm => ?_⟩
    · rcases List.mem_cons.1 ha with rfl | ha
      · exact a2
      · exact okK_trans a2 (h2 a ha)
    · rcases List.mem_cons.1 hm with e | hm
      · cases e; exact ⟨keyB_ne a1, by simpa using a3, a4⟩
      · exact h3 k' t' hm
theorem right_ord : ∀ (t : Tr) (d : Int), t.right d = true → t.Ord := by
  intro t
  induction t using Tr.ind with
  | h es ks ih =>
  intro d h
  rw [Tr.right, Bool.and_eq_true, Bool.and_eq_true] at h
  obtain ⟨h1, h2, h3⟩ := kids_pair d ks none h.2
  exact Ord.mk' (ents_pair es none h.1.2).1 h1 fun k t hm => ⟨(h3 k t hm).1, (h3 k t hm).2.1, ih k t hm _ (h3 k t hm).2.2⟩

/-! the leaves of a tree -/
mutual
theorem lvs_pre : ∀ (t : Tr) (p q : List ByteArray), t.lvs (p ++ q) = (t.lvs q).map fun x => (p ++ x.1, x.2)
  | .mk es ks, p, q => by rw [Tr.lvs, Tr.lvs, List.map_append, List.map_map, lvsL_pre ks p q]; rfl
theorem lvsL_pre : ∀ (ks : List (ByteArray × Tr)) (p q : List ByteArray), Tr.lvsL ks (p ++ q) = (Tr.lvsL ks q).map fun x => (p ++ x.1, x.2)
  | [], p, q => rfl
  | (k, t) :: ks, p, q => by rw [Tr.lvsL, Tr.lvsL, List.map_append, lvsL_pre ks p q, List.append_assoc, lvs_pre t p (q ++ [k])]
end
theorem lvs_at (t : Tr) (p : List ByteArray) : t.lvs p = (t.lvs []).map fun x => (p ++ x.1, x.2) := by
  have := lvs_pre t p []; simpa using this
theorem mem_lvsL {ks : List Kd} {p : List ByteArray} {x : Lf} : x ∈ Tr.lvsL ks p ↔ ∃ k t, (k, t) ∈ ks ∧ x ∈ t.lvs (p ++ [k]) := by
  induction ks with
  | nil => simp [Tr.lvsL]
  | cons y ks ih =>
    obtain ⟨k, t⟩ := y
    rw [Tr.lvsL, List.mem_append, ih]
    constructor
    · rintro (h | ⟨k', t', hm, h⟩)
      · exact ⟨k, t, by simp, h⟩
      · exact ⟨k', t', by simp [hm], h⟩
    · rintro ⟨k', t', hm, h⟩
      rcases List.mem_cons.1 hm with e | hm
      · cases e; exact .inl h
      · exact .inr ⟨k', t', hm, h⟩
theorem mem_lvs {es : List En} {ks : List Kd} {x : Lf} : x ∈ (Tr.mk es ks).lvs [] ↔ (x.1 = [] ∧ x.2 ∈ es) ∨ ∃ k t qs, (k, t) ∈ ks ∧ x.1 = k :: qs ∧ (qs, x.2) ∈ t.lvs [] := by
  rw [Tr.lvs, List.mem_append, mem_lvsL]
  constructor
  · rintro (h | ⟨k, t, hm, h⟩)
    · obtain ⟨e, he, rfl⟩ := List.mem_map.1 h
      exact .inl ⟨rfl, he⟩
    · rw [lvs_at] at h
      obtain ⟨y, hy, rfl⟩ := List.mem_map.1 h
      exact .inr ⟨k, t, y.1, hm, rfl, hy⟩
  · obtain ⟨p, e⟩ := x
    rintro (⟨h1, h2⟩ | ⟨k, t, qs, hm, h1, h2⟩)
    · cases h1; exact .inl (List.mem_map.2 ⟨e, h2, rfl⟩)
    · cases h1; exact .inr ⟨k, t, hm, by rw [lvs_at]; exact List.mem_map.2 ⟨(qs, e), h2, rfl⟩⟩
theorem mem_nil {es : List En} {ks : List Kd} {e : En} : (([], e) : Lf) ∈ (Tr.mk es ks).lvs [] ↔ e ∈ es := by
  rw [mem_lvs]; simp
theorem mem_cons' {es : List En} {ks : List Kd} {e : En} {k : ByteArray} {qs : List ByteArray} : ((k :: qs, e) : Lf) ∈ (Tr.mk es ks).lvs [] ↔ ∃ t, (k, t) ∈ ks ∧ (qs, e) ∈ t.lvs [] := by
  rw [mem_lvs]
  constructor
  · rintro (⟨h, _⟩ | ⟨k', t, qs', hm, h, h2⟩)
    · cases h
    · cases h; exact ⟨t, hm, h2⟩
  · rintro ⟨t, hm, h⟩; exact .inr ⟨k, t, qs, hm, rfl, h⟩
/-- A tree in order that isn't empty has a leaf. -/
theorem ord_leaf : ∀ (t : Tr), t.Ord → t.empty = false → ∃ x, x ∈ t.lvs [] := by
  intro t
  induction t using Tr.ind with
  | h es ks ih =>
  intro h he
  obtain ⟨_, _, h3⟩ := ord_iff.1 h
  cases es with
  | cons e es => exact ⟨([], e), mem_nil.2 (by simp)⟩
  | nil =>
    cases ks with
    | nil => simp [Tr.empty] at he
    | cons y ks =>
      obtain ⟨k, t⟩ := y
      obtain ⟨x, hx⟩ := ih k t (by simp) (h3 k t (by simp)).2.2 (h3 k t (by simp)).2.1
      exact ⟨(k :: x.1, x.2), mem_cons'.2 ⟨t, by simp, hx⟩⟩
theorem sorted_ext {α : Type} {r : α → α → Bool} (hi : ∀ a, r a a = false) (ht : ∀ a b c, r a b = true → r b c = true → r a c = true) : ∀ {l m : List α}, (l.Pairwise fun a b => r a b = true) → (m.Pairwise fun a b => r a b = true) → (∀ x, x ∈ l ↔ x ∈ m) → l = m
  | [], [], _, _, _ => rfl
  | [], y :: m, _, _, h => by have := (h y).2 (by simp); cases this
  | x :: l, [], _, _, h => by have := (h x).1 (by simp); cases this
  | x :: l, y :: m, hl, hm, h => by
    rw [List.pairwise_cons] at hl hm
    have hxy : x = y := by
      rcases List.mem_cons.1 ((h x).1 (by simp)) with e | e
      · exact e
      · rcases List.mem_cons.1 ((h y).2 (by simp)) with e' | e'
        · exact e'.symm
        · have := ht _ _ _ (hl.1 y e') (hm.1 x e); rw [hi] at this; cases this
    subst hxy
    congr 1
    refine sorted_ext hi ht hl.2 hm.2 fun z => ?_
    constructor
    · intro hz
      rcases List.mem_cons.1 ((h z).1 (List.mem_cons_of_mem _ hz)) with e | e
      · subst e; have := hl.1 z hz; rw [hi] at this; cases this
      · exact e
    · intro hz
      rcases List.mem_cons.1 ((h z).2 (List.mem_cons_of_mem _ hz)) with e | e
      · subst e; have := hm.1 z hz; rw [hi] at this; cases this
      · exact e
theorem keys_one {ks : List Kd} (h : ks.Pairwise fun a b => ltS a.1 b.1 = true) {k : ByteArray} {s t : Tr} (hs : (k, s) ∈ ks) (ht : (k, t) ∈ ks) : s = t := by
  induction ks with
  | nil => cases hs
  | cons y ks ih =>
    rw [List.pairwise_cons] at h
    rcases List.mem_cons.1 hs with e | hs
    · rcases List.mem_cons.1 ht with e' | ht
      · rw [← e] at e'; cases e'; rfl
      · have := h.1 _ ht; rw [← e] at this; simp only [ltS_irrefl] at this; cases this
    · rcases List.mem_cons.1 ht with e' | ht
      · have := h.1 _ hs; rw [← e'] at this; simp only [ltS_irrefl] at this; cases this
      · exact ih h.2 hs ht
/-- Two trees in order that have the same leaves are the same. -/
theorem ord_ext : ∀ (s t : Tr), s.Ord → t.Ord → (∀ x, x ∈ s.lvs [] ↔ x ∈ t.lvs []) → s = t := by
  intro s
  induction s using Tr.ind with
  | h es ks ih =>
  intro t hs ht h
  obtain ⟨es', ks'⟩ := t
  obtain ⟨s1, s2, s3⟩ := ord_iff.1 hs
  obtain ⟨t1, t2, t3⟩ := ord_iff.1 ht
  have he : es = es' := sorted_ext (r := fun a b : En => a.dot.lt b.dot) (fun a => lt_irrefl' _) (fun _ _ _ => lt_trans') s1 t1 fun e => by
    rw [← mem_nil (ks := ks), ← mem_nil (ks := ks')]; exact h _
  have hk : ∀ k s, (k, s) ∈ ks → (k, s) ∈ ks' := fun k s hm => by
    obtain ⟨h1, h2, h3⟩ := s3 k s hm
    obtain ⟨x, hx⟩ := ord_leaf s h3 h2
    obtain ⟨u, hu, hxu⟩ := mem_cons'.1 ((h (k :: x.1, x.2)).1 (mem_cons'.2 ⟨s, hm, hx⟩))
    have : s = u := ih k s hm u h3 (t3 k u hu).2.2 fun y => by
      constructor
      · intro hy
        obtain ⟨v, hv, hyv⟩ := mem_cons'.1 ((h (k :: y.1, y.2)).1 (mem_cons'.2 ⟨s, hm, hy⟩))
        rw [keys_one t2 hu hv]; exact hyv
      · intro hy
        obtain ⟨v, hv, hyv⟩ := mem_cons'.1 ((h (k :: y.1, y.2)).2 (mem_cons'.2 ⟨u, hu, hy⟩))
        rw [keys_one s2 hm hv]; exact hyv
    rw [this]; exact hu
  have hk' : ∀ k u, (k, u) ∈ ks' → (k, u) ∈ ks := fun k u hm => by
    obtain ⟨h1, h2, h3⟩ := t3 k u hm
    obtain ⟨x, hx⟩ := ord_leaf u h3 h2
    obtain ⟨s, hs', _⟩ := mem_cons'.1 ((h (k :: x.1, x.2)).2 (mem_cons'.2 ⟨u, hm, hx⟩))
    have := keys_one t2 hm (hk k s hs')
    rw [this]; exact hs'
  have hkk : ks = ks' := sorted_ext (r := fun a b : Kd => ltS a.1 b.1) (fun a => ltS_irrefl _) (fun _ _ _ => ltS_trans) s2 t2 fun ⟨k, t⟩ => ⟨hk k t, hk' k t⟩
  rw [he, hkk]

/-! what Build takes -/
/-- Leaves of which no two of a dot stand at the same place, and whose keys are keys. -/
structure LvOk (l : List Lf) : Prop where
  key : ∀ x ∈ l, ∀ k ∈ x.1, k ≠ ByteArray.empty
  one : ∀ x ∈ l, ∀ y ∈ l, x.1 = y.1 → x.2.dot = y.2.dot → x = y
def topT (d : Nat) : List Lf → Tr := match d with | 0 => fun _ => .mk [] [] | d + 1 => buildT d
theorem ord_lvOk : ∀ (t : Tr), t.Ord → LvOk (t.lvs []) := by
  intro t
  induction t using Tr.ind with
  | h es ks ih =>
  intro h
  obtain ⟨h1, h2, h3⟩ := ord_iff.1 h
  refine ⟨fun x hx k hk => ?_, fun x hx y hy hp hd => ?_⟩
  · rcases mem_lvs.1 hx with ⟨hn, _⟩ | ⟨k', t, qs, hm, hq, hl⟩
    · rw [hn] at hk; cases hk
    · rw [hq] at hk
      rcases List.mem_cons.1 hk with rfl | hk
      · exact (h3 _ t hm).1
      · exact (ih k' t hm (h3 k' t hm).2.2).key _ hl k hk
  · obtain ⟨p, e⟩ := x
    obtain ⟨p', e'⟩ := y
    simp only at hp hd; subst hp
    cases p with
    | nil =>
      have a := mem_nil.1 hx
      have b := mem_nil.1 hy
      have : e = e' := by
        clear hx hy h ih h2 h3
        induction es with
        | nil => cases a
        | cons z es ih =>
          rw [List.pairwise_cons] at h1
          rcases List.mem_cons.1 a with a' | a'
          · rcases List.mem_cons.1 b with b' | b'
            · rw [a', b']
            · have := h1.1 _ b'; rw [← hd, a', lt_irrefl'] at this; cases this
          · rcases List.mem_cons.1 b with b' | b'
            · have := h1.1 _ a'; rw [hd, b', lt_irrefl'] at this; cases this
            · exact ih h1.2 a' b'
      rw [this]
    | cons k qs =>
      obtain ⟨t, hm, ha⟩ := mem_cons'.1 hx
      obtain ⟨t', hm', hb⟩ := mem_cons'.1 hy
      rw [keys_one h2 hm' hm] at hb
      have := (ih k t hm (h3 k t hm).2.2).one _ ha _ hb rfl hd
      cases this; rfl
end Go.Proofs.YtlapdmgjfdelnaaGreat

namespace Go.Proofs.YtlapdmgjfdelnaaGreat
open Go.RowKit
set_option maxRecDepth 100000

/-- What stands at a key. -/
def kidT (t : Tr) (s : ByteArray) : Tr := match t.ks.find? fun x => decide (x.1 = s) with | some x => x.2 | none => .mk [] []
def getK (t : Tr) (p : List ByteArray) : Tr := p.foldl kidT t
theorem ord_nil : Tr.Ord (.mk [] []) := Ord.mk' .nil .nil fun _ _ h => by cases h
theorem kidT_mem {t : Tr} (h : t.Ord) {s : ByteArray} {u : Tr} (hm : (s, u) ∈ t.ks) : kidT t s = u := by
  obtain ⟨es, ks⟩ := t
  unfold kidT
  cases hf : (Tr.mk es ks).ks.find? fun x => decide (x.1 = s) with
  | none =>
    have := List.find?_eq_none.1 hf _ hm
    simp at this
  | some x =>
    have h1 := List.find?_some hf
    have h2 := List.mem_of_find?_eq_some hf
    simp at h1
    obtain ⟨k, v⟩ := x
    simp only at h1; subst h1
    exact keys_one (ord_iff.1 h).2.1 h2 hm
theorem kidT_none {t : Tr} {s : ByteArray} (h : ∀ u, (s, u) ∉ t.ks) : kidT t s = .mk [] [] := by
  unfold kidT
  rw [List.find?_eq_none.2]
  rintro ⟨k, u⟩ hm e
  simp at e; subst e
  exact h u hm
theorem kidT_ord {t : Tr} (h : t.Ord) (s : ByteArray) : (kidT t s).Ord := by
  by_cases hm : ∃ u, (s, u) ∈ t.ks
  · obtain ⟨u, hm⟩ := hm
    rw [kidT_mem h hm]
    obtain ⟨es, ks⟩ := t
    exact ((ord_iff.1 h).2.2 s u hm).2.2
  · rw [kidT_none fun u hu => hm ⟨u, hu⟩]; exact ord_nil
theorem mem_kidT {t : Tr} (h : t.Ord) {s : ByteArray} {qs : List ByteArray} {e : En} : ((qs, e) : Lf) ∈ (kidT t s).lvs [] ↔ ((s :: qs, e) : Lf) ∈ t.lvs [] := by
  obtain ⟨es, ks⟩ := t
  rw [mem_cons']
  constructor
  · intro hx
    by_cases hm : ∃ u, (s, u) ∈ (Tr.mk es ks).ks
    · obtain ⟨u, hm⟩ := hm
      rw [kidT_mem h hm] at hx
      exact ⟨u, hm, hx⟩
    · rw [kidT_none fun u hu => hm ⟨u, hu⟩] at hx; simp [Tr.lvs, Tr.lvsL] at hx
  · rintro ⟨u, hm, hx⟩
    rw [kidT_mem h (show (s, u) ∈ (Tr.mk es ks).ks from hm)]; exact hx
theorem kidT_szL {s : ByteArray} : ∀ {ks : List Kd} {x : Kd}, ks.find? (fun x => decide (x.1 = s)) = some x → x.2.sz ≤ Tr.szL ks
  | (k, t) :: ks, x, h => by
    rw [Tr.szL]
    rw [List.find?_cons] at h
    split at h
    · cases h; simp; omega
    · have := kidT_szL h; omega
theorem kidT_sz (t : Tr) (s : ByteArray) : (kidT t s).sz ≤ t.sz := by
  obtain ⟨es, ks⟩ := t
  unfold kidT
  cases hf : (Tr.mk es ks).ks.find? fun x => decide (x.1 = s) with
  | none => simp [Tr.sz, Tr.szL]
  | some x =>
    have := kidT_szL (show ks.find? _ = some x from hf)
    rw [Tr.sz]; simp only; omega
theorem kidT_right {t : Tr} {n : Int} (h : t.right (n + 1) = true) (hn : 1 ≤ n) (s : ByteArray) : (kidT t s).right n = true := by
  by_cases hm : ∃ u, (s, u) ∈ t.ks
  · obtain ⟨u, hm⟩ := hm
    rw [kidT_mem (right_ord t _ h) hm]
    obtain ⟨es, ks⟩ := t
    rw [Tr.right, Bool.and_eq_true, Bool.and_eq_true] at h
    have := ((kids_pair _ ks none h.2).2.2 s u hm).2.2
    simpa using this
  · rw [kidT_none fun u hu => hm ⟨u, hu⟩]
    rw [Tr.right]; simp [entsB, Tr.rightL]; omega
theorem right_up : ∀ (t : Tr) (n m : Int), t.right n = true → n ≤ m → t.right m = true := by
  intro t
  induction t using Tr.ind with
  | h es ks ih =>
  intro n m h hnm
  rw [Tr.right, Bool.and_eq_true, Bool.and_eq_true, decide_eq_true_eq] at h ⊢
  refine ⟨⟨by omega, h.1.2⟩, ?_⟩
  have : ∀ (p : Option ByteArray) (ks : List Kd), (∀ k t, (k, t) ∈ ks → ∀ n m : Int, t.right n = true → n ≤ m → t.right m = true) → Tr.rightL p ks n = true → Tr.rightL p ks m = true := by
    intro p ks
    induction ks generalizing p with
    | nil => intro _ _; cases p <;> rfl
    | cons x ks ih' =>
      obtain ⟨k, t⟩ := x
      intro hi h
      rw [rightL_cons, Bool.and_eq_true, Bool.and_eq_true] at h ⊢
      exact ⟨⟨h.1.1, hi k t (by simp) _ _ h.1.2 (by omega)⟩, ih' (some k) (fun k t hm => hi k t (by simp [hm])) h.2⟩
  exact this none ks ih h.2
end Go.Proofs.YtlapdmgjfdelnaaGreat

namespace Go.Proofs.YtlapdmgjfdelnaaGreat
open Go.RowKit
set_option maxRecDepth 100000

theorem rda_nil (w : World) (ok : Nat → Prop) : (Tr.mk [] []).rda w ok (.slice none 0 0) (.slice none 0 0) := by
  rw [rda_iff]
  exact ⟨⟨none, 0, rfl, Nat.le_refl _, by simp, fun h => absurd rfl h⟩, ⟨none, 0, rfl, Nat.le_refl _, by simp, fun h => absurd rfl h⟩⟩
theorem box3 {w : World} {g : Nat} {x y z : Value} {e : TypeId} (hbx : w.heap[g]? = some (.cells #[x, y, z] e (0, 0))) (a b c : Value) :
    (((w.setCell ⟨g, 0, none⟩ a).setCell ⟨g, 1, none⟩ b).setCell ⟨g, 2, none⟩ c).cell? ⟨g, 0, none⟩ = some a ∧ (((w.setCell ⟨g, 0, none⟩ a).setCell ⟨g, 1, none⟩ b).setCell ⟨g, 2, none⟩ c).cell? ⟨g, 1, none⟩ = some b ∧ (((w.setCell ⟨g, 0, none⟩ a).setCell ⟨g, 1, none⟩ b).setCell ⟨g, 2, none⟩ c).cell? ⟨g, 2, none⟩ = some c ∧
      (∀ k, k ≠ g → (((w.setCell ⟨g, 0, none⟩ a).setCell ⟨g, 1, none⟩ b).setCell ⟨g, 2, none⟩ c).heap[k]? = w.heap[k]?) ∧ (((w.setCell ⟨g, 0, none⟩ a).setCell ⟨g, 1, none⟩ b).setCell ⟨g, 2, none⟩ c).heap.size = w.heap.size := by
  have hW := cells_set (i := 2) (cells_set (i := 1) (cells_set (i := 0) hbx a) b) c
  exact ⟨(cell_cells (i := 0) hW).trans (by simp), (cell_cells (i := 1) hW).trans (by simp), (cell_cells (i := 2) hW).trans (by simp),
    fun k hk => (Below.heap_setCell _ _ _ _ hk).trans ((Below.heap_setCell _ _ _ _ hk).trans (Below.heap_setCell _ _ _ _ hk)), by simp [World.setCell]⟩
/-- The call hands back what is known, in blocks of its own. -/
def RetC (w : World) (t : Tr) (c : List Sp) (e : Ending) (w' : World) : Prop :=
  ∃ ve vk vc, e = .returned (.agg #[ve, vk, vc]) ∧ t.rda w' (fun b => w.heap.size ≤ b ∧ b < w'.heap.size) ve vk ∧ SlA w' (fun b => w.heap.size ≤ b ∧ b < w'.heap.size) 3 SpE vc c ∧ Below w.heap.size w w'
end Go.Proofs.YtlapdmgjfdelnaaGreat

namespace Go.Proofs.YtlapdmgjfdelnaaGreat
open Go.RowKit
set_option maxRecDepth 100000

end Go.Proofs.YtlapdmgjfdelnaaGreat

namespace Go.Proofs.YtlapdmgjfdelnaaGreat
open Go.RowKit
set_option maxRecDepth 100000

/-- One run that may stand in a set. -/
def runOk (r : Int × Int) : Prop := 1 ≤ r.1 ∧ r.1 ≤ r.2 ∧ r.2 ≤ 1099511627776
theorem runsR_iff (p : Option Int) (r : Int × Int) (rs : List (Int × Int)) : runsR p (r :: rs) = true ↔ runOk r ∧ okR p r.1 = true ∧ runsR (some r.2) rs = true := by
  rw [runsR_cons]
  simp only [Bool.and_eq_true, numB, decide_eq_true_eq, runOk]
  constructor
  · rintro ⟨⟨⟨⟨h1, h2⟩, h3⟩, h4⟩, h5⟩; exact ⟨by omega, h4, h5⟩
  · rintro ⟨h1, h4, h5⟩; exact ⟨⟨⟨⟨by omega, by omega⟩, by omega⟩, h4⟩, h5⟩
theorem runsR_nil (p : Option Int) : runsR p [] = true := by cases p <;> rfl
theorem runsR_one (p : Option Int) (r : Int × Int) : runsR p [r] = true ↔ runOk r ∧ okR p r.1 = true := by rw [runsR_iff, runsR_nil]; simp
theorem runsR_snoc : ∀ (L : List (Int × Int)) (p : Option Int) (q r : Int × Int), runsR p (L ++ [q] ++ [r]) = true ↔ runsR p (L ++ [q]) = true ∧ runOk r ∧ q.2 + 1 < r.1
  | [], p, q, r => by
    rw [List.nil_append, runsR_one, List.cons_append, runsR_iff, List.nil_append, runsR_one]
    simp only [okR, decide_eq_true_eq, and_assoc]
  | x :: L, p, q, r => by
    rw [List.cons_append, List.cons_append, runsR_iff, runsR_iff, runsR_snoc L (some x.2) q r]
    simp only [and_assoc]
theorem runsR_last : ∀ (L : List (Int × Int)) (p : Option Int) (q : Int × Int), runsR p (L ++ [q]) = true → runOk q
  | [], p, q, h => ((runsR_one p q).1 h).1
  | x :: L, p, q, h => by
    rw [List.cons_append, runsR_iff] at h
    exact runsR_last L _ q h.2.2
theorem runsR_wide : ∀ (L : List (Int × Int)) (p : Option Int) (q : Int × Int) (m : Int), runsR p (L ++ [q]) = true → q.2 ≤ m → m ≤ 1099511627776 → runsR p (L ++ [(q.1, m)]) = true
  | [], p, q, m, h, h1, h2 => by
    rw [List.nil_append, runsR_one] at h ⊢
    obtain ⟨h, h'⟩ := h
    unfold runOk at *
    exact ⟨⟨h.1, by show q.1 ≤ m; omega, h2⟩, h'⟩
  | x :: L, p, q, m, h, h1, h2 => by
    rw [List.cons_append, runsR_iff] at h ⊢
    exact ⟨h.1, h.2.1, runsR_wide L _ q m h.2.2 h1 h2⟩
theorem hasL_app (a b : List (Int × Int)) (n : Int) : hasL (a ++ b) n = (hasL a n || hasL b n) := by simp [hasL]
/-- Two sets of the same numbers are the same. -/
theorem runs_lo : ∀ (l : List (Int × Int)) (p : Int), runsR (some p) l = true → ∀ n, hasL l n = true → p + 1 < n
  | [], p, _, n, h => by simp [hasL] at h
  | r :: l, p, hr, n, h => by
    rw [runsR_iff] at hr
    obtain ⟨h1, h2, h3⟩ := hr
    simp only [okR, decide_eq_true_eq] at h2
    simp only [hasL, List.any_cons, Bool.or_eq_true, inR, Bool.and_eq_true, decide_eq_true_eq] at h
    unfold runOk at h1
    rcases h with h | h
    · omega
    · have := runs_lo l r.2 h3 n (by simpa [hasL, inR] using h)
      omega
theorem runs_eq : ∀ (a b : List (Int × Int)) (p q : Option Int), runsR p a = true → runsR q b = true → (∀ n, hasL a n = hasL b n) → a = b
  | [], [], _, _, _, _, _ => rfl
  | [], r :: b, _, q, _, hb, h => by
    rw [runsR_iff] at hb
    have := h r.1
    simp [hasL, inR] at this
    have := hb.1
    unfold runOk at this
    omega
  | r :: a, [], p, _, ha, _, h => by
    rw [runsR_iff] at ha
    have := h r.1
    simp [hasL, inR] at this
    have := ha.1
    unfold runOk at this
    omega
  | r :: a, s :: b, p, q, ha, hb, h => by
    rw [runsR_iff] at ha hb
    obtain ⟨a1, a2, a3⟩ := ha
    obtain ⟨b1, b2, b3⟩ := hb
    have ha' := runs_lo a r.2 a3
    have hb' := runs_lo b s.2 b3
    have hc : ∀ (x : Int × Int) (l : List (Int × Int)) n, hasL (x :: l) n = (inR x n || hasL l n) := fun x l n => by simp [hasL]
    have hin : ∀ (x : Int × Int) n, inR x n = true ↔ x.1 ≤ n ∧ n ≤ x.2 := fun x n => by simp [inR]
    unfold runOk at a1 b1
    have key : ∀ n, (inR r n = true ∨ hasL a n = true) ↔ (inR s n = true ∨ hasL b n = true) := fun n => by
      have := h n; rw [hc, hc, Bool.eq_iff_iff] at this; simpa using this
    have e1 : r.1 = s.1 := by
      have k1 := (key r.1).1 (.inl ((hin r _).2 ⟨by omega, by omega⟩))
      have k2 := (key s.1).2 (.inl ((hin s _).2 ⟨by omega, by omega⟩))
      rw [hin] at k1 k2
      have := hb' r.1; have := ha' s.1
      rcases k1 with k1 | k1 <;> rcases k2 with k2 | k2
      · omega
      · have := ha' s.1 k2; omega
      · have := hb' r.1 k1; omega
      · have := hb' r.1 k1; have := ha' s.1 k2; omega
    have e2 : r.2 = s.2 := by
      have k1 := (key r.2).1 (.inl ((hin r _).2 ⟨by omega, by omega⟩))
      have k2 := (key s.2).2 (.inl ((hin s _).2 ⟨by omega, by omega⟩))
      have k3 := key (r.2 + 1)
      have k4 := key (s.2 + 1)
      rw [hin] at k1 k2
      rw [hin, hin] at k3 k4
      rcases Int.lt_trichotomy r.2 s.2 with hlt | heq | hgt
      · have := k3.2 (.inl ⟨by omega, by omega⟩)
        rcases this with h | h
        · omega
        · have := ha' _ h; omega
      · exact heq
      · have := k4.1 (.inl ⟨by omega, by omega⟩)
        rcases this with h | h
        · omega
        · have := hb' _ h; omega
    have e : r = s := Prod.ext e1 e2
    subst e
    congr 1
    refine runs_eq a b _ _ a3 b3 fun n => ?_
    by_cases hn : inR r n = true
    · rw [hin] at hn
      have x1 : hasL a n = false := by
        cases hx : hasL a n with
        | false => rfl
        | true => have := ha' n hx; omega
      have x2 : hasL b n = false := by
        cases hx : hasL b n with
        | false => rfl
        | true => have := hb' n hx; omega
      rw [x1, x2]
    · have := key n
      simp only [hn] at this
      rw [Bool.eq_iff_iff]
      simpa using this
theorem nextL_least : ∀ (l : List Int) (a : Int) (s : Int × Bool), (s.2 = true → a < s.1) → (∀ y, (y ∈ l ∧ a < y ∨ (s.2 = true ∧ y = s.1)) → (l.foldl (nextS a) s).2 = true ∧ (l.foldl (nextS a) s).1 ≤ y)
  | [], a, s, hs, y, h => by
    rcases h with h | h
    · cases h.1
    · exact ⟨h.1, by rw [h.2]; exact Int.le_refl _⟩
  | x :: l, a, s, hs, y, h => by
    rw [List.foldl_cons]
    by_cases hc : a < x ∧ (s.2 = false ∨ x < s.1)
    · have e : nextS a s x = (x, true) := by simp [nextS, hc]
      rw [e]
      have ih := nextL_least l a (x, true) (fun _ => hc.1)
      rcases h with ⟨h, hy⟩ | h
      · rcases List.mem_cons.1 h with rfl | h
        · exact ih y (.inr ⟨rfl, rfl⟩)
        · exact ih y (.inl ⟨h, hy⟩)
      · have := ih x (.inr ⟨rfl, rfl⟩)
        refine ⟨this.1, ?_⟩
        rcases hc.2 with h2 | h2
        · rw [h.1] at h2; cases h2
        · have h3 := this.2; rw [h.2]; omega
    · have e : nextS a s x = s := by simp only [nextS, if_neg hc]
      rw [e]
      have ih := nextL_least l a s hs
      rcases h with ⟨h, hy⟩ | h
      · rcases List.mem_cons.1 h with rfl | h
        · cases hs2 : s.2 with
          | false => exact absurd ⟨hy, .inl hs2⟩ hc
          | true =>
            have hle : s.1 ≤ y := by
              rcases Int.lt_or_le y s.1 with h | h
              · exact absurd ⟨hy, .inr h⟩ hc
              · exact h
            have := ih s.1 (.inr ⟨hs2, rfl⟩)
            exact ⟨this.1, by omega⟩
        · exact ih y (.inl ⟨h, hy⟩)
      · exact ih y (.inr h)
/-- The next one: the least of those above. -/
theorem nextL_min {l : List Int} {a y : Int} (h : y ∈ l) (hy : a < y) : (nextL l a).2 = true ∧ (nextL l a).1 ≤ y :=
  nextL_least l a (0, false) (fun h => by cases h) y (.inl ⟨h, hy⟩)
theorem cnt_next {l : List Int} {a : Int} (h : (nextL l a).2 = true) : (nextL l a).1 ∈ l ∧ a < (nextL l a).1 ∧ ∀ y ∈ l, a < y → (nextL l a).1 ≤ y :=
  ⟨(nextL_spec h).1, (nextL_spec h).2, fun _ hy hlt => (nextL_min hy hlt).2⟩
theorem none_next {l : List Int} {a : Int} (h : (nextL l a).2 = false) : ∀ y ∈ l, y ≤ a := fun y hy => by
  rcases Int.lt_or_le a y with hlt | hle
  · have := (nextL_min hy hlt).1; rw [h] at this; cases this
  · exact hle

theorem hasL_last {out : List (Int × Int)} {x : Int} (h : runsR none out = true) (hl : ∀ n, hasL out n = true → n ≤ x) : ∀ q, out.getLast? = some q → q.2 ≤ x := fun q hq => by
  obtain ⟨L, rfl⟩ : ∃ L, out = L ++ [q] := by
    rcases List.eq_nil_or_concat out with rfl | ⟨L, r, rfl⟩
    · simp at hq
    · rw [List.concat_eq_append, List.getLast?_concat] at hq; cases hq; exact ⟨L, List.concat_eq_append⟩
  have hqo := runsR_last L none q h
  refine hl q.2 ?_
  rw [hasL_app]
  unfold runOk at hqo
  simp [hasL, inR]
  right; omega
/-- A run behind a set, that may touch it. -/
theorem put_right {out : List (Int × Int)} {x y : Int} (h : runsR none out = true) (hr : runOk (x, y)) (ho : ∀ q, out.getLast? = some q → q.2 < x) (f : List (Int × Int))
    (hf : f = match out.getLast? with | some r => if r.2 = x - 1 then out.set (out.length - 1) (r.1, y) else out ++ [(x, y)] | none => [(x, y)]) :
    runsR none f = true ∧ ∀ n, hasL f n = (hasL out n || inR (x, y) n) := by
  subst hf
  rcases List.eq_nil_or_concat out with rfl | ⟨L, q, rfl⟩
  · exact ⟨(runsR_one none (x, y)).2 ⟨hr, rfl⟩, fun n => by simp [hasL]⟩
  · rw [List.concat_eq_append] at *
    have hq := ho q (by simp)
    have hqo := runsR_last L none q h
    unfold runOk at *
    simp only at hr
    rw [List.getLast?_concat]
    dsimp only
    split
    · rename_i hc
      have e : (L ++ [q]).set ((L ++ [q]).length - 1) (q.1, y) = L ++ [(q.1, y)] := by simp
      rw [e]
      refine ⟨runsR_wide L none q _ h (by omega) (by omega), fun n => ?_⟩
      rw [hasL_app, hasL_app, Bool.or_assoc]
      congr 1
      rw [Bool.eq_iff_iff]
      simp [hasL, inR]
      omega
    · rename_i hc
      refine ⟨(runsR_snoc L none q (x, y)).2 ⟨h, hr, by show q.2 + 1 < x; omega⟩, fun n => ?_⟩
      rw [hasL_app]; simp [hasL]
theorem ofGo_right (ps : List Int) (hps : ∀ x ∈ ps, 1 ≤ x ∧ x ≤ 1099511627776) : ∀ (n : Nat) (a : Int) (out : List (Int × Int)), cnt ps (a + 1) < n → runsR none out = true → (∀ m, hasL out m = true ↔ m ∈ ps ∧ m ≤ a) →
    runsR none (ofGo ps n (nextL ps a) out) = true ∧ ∀ m, hasL (ofGo ps n (nextL ps a) out) m = true ↔ m ∈ ps
  | 0, a, out, hn, _, _ => by omega
  | n + 1, a, out, hn, hr, ho => by
    rw [ofGo]
    split
    · rename_i hk
      obtain ⟨h1, h2, h3⟩ := cnt_next hk
      generalize (nextL ps a).1 = x at *
      have hb := hps x h1
      have hl := hasL_last hr (x := a) (fun m hm => ((ho m).1 hm).2)
      obtain ⟨k1, k2⟩ := put_right (x := x) (y := x) hr ⟨by exact hb.1, by show x ≤ x; omega, by exact hb.2⟩ (fun q hq => by have := hl q hq; omega) (ofOut out x) rfl
      refine ofGo_right ps hps n x (ofOut out x) ?_ k1 fun m => ?_
      · have := cnt_lt (y := x + 1) h1 (by omega)
        have h4 : cnt ps x ≤ cnt ps (a + 1) := by
          unfold cnt
          rw [← List.countP_eq_length_filter, ← List.countP_eq_length_filter]
          exact List.countP_mono_left fun z _ hz => by simp at hz ⊢; omega
        omega
      · rw [k2, Bool.or_eq_true, ho]
        simp only [inR, Bool.and_eq_true, decide_eq_true_eq]
        constructor
        · rintro (h | h)
          · exact ⟨h.1, by omega⟩
          · obtain rfl : m = x := by omega
            exact ⟨h1, by omega⟩
        · rintro ⟨hm, hle⟩
          by_cases hma : m ≤ a
          · exact .inl ⟨hm, hma⟩
          · have := h3 m hm (by omega)
            exact .inr ⟨by omega, by omega⟩
    · rename_i hk
      have hk' : (nextL ps a).2 = false := by simpa using hk
      exact ⟨hr, fun m => (ho m).trans ⟨fun h => h.1, fun h => ⟨h, none_next hk' m h⟩⟩⟩
/-- tributaryref06.Of is the set of the numbers. -/
theorem ofL_right {ps : List Int} (hps : ∀ x ∈ ps, 1 ≤ x ∧ x ≤ 1099511627776) : runsR none (ofL ps) = true ∧ ∀ m, hasL (ofL ps) m = true ↔ m ∈ ps := by
  unfold ofL
  refine ofGo_right ps hps (ps.length + 1) 0 [] (by have := cnt_le ps (0 + 1); omega) rfl fun m => ?_
  constructor
  · intro h; simp [hasL] at h
  · rintro ⟨h, h'⟩; have := hps m h; omega

theorem inR_step {r : Int × Int} {ps : List Int} {x y n : Int} (h1 : r.1 ∈ ps) (h2 : r.2 + 1 ∈ ps) (hn : ∀ z ∈ ps, x < z → y ≤ z) (hx : x ≤ n) (hy : n < y) : inR r n = inR r x := by
  rw [Bool.eq_iff_iff]
  simp only [inR, Bool.and_eq_true, decide_eq_true_eq]
  have a1 := hn _ h1
  have a2 := hn _ h2
  omega
theorem hasL_step {l : List (Int × Int)} {ps : List Int} {x y n : Int} (hl : ∀ r ∈ l, r.1 ∈ ps ∧ r.2 + 1 ∈ ps) (hn : ∀ z ∈ ps, x < z → y ≤ z) (hx : x ≤ n) (hy : n < y) : hasL l n = hasL l x := by
  unfold hasL
  rw [Bool.eq_iff_iff, List.any_eq_true, List.any_eq_true]
  constructor
  · rintro ⟨r, hr, h⟩; exact ⟨r, hr, by rw [← inR_step (hl r hr).1 (hl r hr).2 hn hx hy]; exact h⟩
  · rintro ⟨r, hr, h⟩; exact ⟨r, hr, by rw [inR_step (hl r hr).1 (hl r hr).2 hn hx hy]; exact h⟩
theorem hasL_end {l : List (Int × Int)} {ps : List Int} {x n : Int} (hl : ∀ r ∈ l, r.1 ∈ ps ∧ r.2 + 1 ∈ ps) (hn : ∀ z ∈ ps, z ≤ x) (hx : x ≤ n) : hasL l n = false := by
  unfold hasL
  rw [List.any_eq_false]
  intro r hr
  have := hn _ (hl r hr).2
  simp [inR]; omega
theorem hasL_ahead {l : List (Int × Int)} {ps : List Int} {x n : Int} (hl : ∀ r ∈ l, r.1 ∈ ps ∧ r.2 + 1 ∈ ps) (hn : ∀ z ∈ ps, x < z) (hx : n ≤ x) : hasL l n = false := by
  unfold hasL
  rw [List.any_eq_false]
  intro r hr
  have := hn _ (hl r hr).1
  simp [inR]; omega
theorem byGo_right (a b : List (Int × Int)) (how : Int) (ps : List Int) (ha : ∀ r ∈ a, r.1 ∈ ps ∧ r.2 + 1 ∈ ps) (hb : ∀ r ∈ b, r.1 ∈ ps ∧ r.2 + 1 ∈ ps) (hps : ∀ x ∈ ps, 1 ≤ x ∧ x ≤ 1099511627777) :
    ∀ (n : Nat) (x : Int) (out : List (Int × Int)), cnt ps x < n → x ∈ ps → runsR none out = true → (∀ m, hasL out m = true ↔ inn how (hasL a m) (hasL b m) = true ∧ m < x) →
    runsR none (byGo a b how ps n (x, true) out) = true ∧ ∀ m, hasL (byGo a b how ps n (x, true) out) m = inn how (hasL a m) (hasL b m)
  | 0, x, out, hn, _, _, _ => by omega
  | n + 1, x, out, hn, hx, hr, ho => by
    rw [byGo, if_pos rfl]
    have hxb := hps x hx
    have hl := hasL_last hr (x := x - 1) (fun m hm => by have := ((ho m).1 hm).2; omega)
    cases hk : (nextL ps x).2 with
    | true =>
      obtain ⟨h1, h2, h3⟩ := cnt_next hk
      have e : nextL ps x = ((nextL ps x).1, true) := by rw [← hk]
      rw [e]
      generalize (nextL ps x).1 = y at *
      dsimp only
      have hyb := hps y h1
      have hc := cnt_lt hx h2
      have sa := fun m (h1 : x ≤ m) (h2 : m < y) => hasL_step ha h3 h1 h2
      have sb := fun m (h1 : x ≤ m) (h2 : m < y) => hasL_step hb h3 h1 h2
      split
      · rename_i hi
        obtain ⟨k1, k2⟩ := put_right (x := x) (y := y - 1) hr ⟨by exact hxb.1, by show x ≤ y - 1; omega, by show y - 1 ≤ _; omega⟩ (fun q hq => by have := hl q hq; omega) (byOut out x y) rfl
        refine byGo_right a b how ps ha hb hps n y (byOut out x y) (by omega) h1 k1 fun m => ?_
        rw [k2, Bool.or_eq_true, ho]
        simp only [inR, Bool.and_eq_true, decide_eq_true_eq]
        constructor
        · rintro (h | h)
          · exact ⟨h.1, by omega⟩
          · exact ⟨by rw [sa m (by omega) (by omega), sb m (by omega) (by omega)]; exact hi, by omega⟩
        · rintro ⟨hm, hlt⟩
          by_cases h : m < x
          · exact .inl ⟨hm, h⟩
          · exact .inr ⟨by omega, by omega⟩
      · rename_i hi
        refine byGo_right a b how ps ha hb hps n y out (by omega) h1 hr fun m => ?_
        rw [ho]
        constructor
        · rintro ⟨h, h'⟩; exact ⟨h, by omega⟩
        · rintro ⟨h, h'⟩
          refine ⟨h, ?_⟩
          rcases Int.lt_or_le m x with hlt | hle
          · exact hlt
          · rw [sa m hle h', sb m hle h'] at h; exact absurd h hi
    | false =>
      have h3 := none_next hk
      have e : nextL ps x = ((nextL ps x).1, false) := by rw [← hk]
      have ea := fun m (h : x ≤ m) => hasL_end ha h3 h
      have eb := fun m (h : x ≤ m) => hasL_end hb h3 h
      have hi : inn how (hasL a x) (hasL b x) = false := by rw [ea x (Int.le_refl _), eb x (Int.le_refl _)]; simp [inn]
      dsimp only
      rw [hi, e, byGo_false, if_neg (by decide)]
      refine ⟨hr, fun m => ?_⟩
      rw [Bool.eq_iff_iff, ho]
      constructor
      · exact fun h => h.1
      · intro h
        refine ⟨h, ?_⟩
        rcases Int.lt_or_le m x with hlt | hle
        · exact hlt
        · rw [ea m hle, eb m hle] at h; simp [inn] at h
theorem endsL_mem {l : List (Int × Int)} {r : Int × Int} (h : r ∈ l) : r.1 ∈ endsL l ∧ r.2 + 1 ∈ endsL l := by
  unfold endsL
  exact ⟨List.mem_flatMap.2 ⟨r, h, by simp⟩, List.mem_flatMap.2 ⟨r, h, by simp⟩⟩
/-- tributaryref06.By is the set that its rule tells. -/
theorem byL_right {a b : List (Int × Int)} (how : Int) (ha : ∀ r ∈ a, runOk r) (hb : ∀ r ∈ b, runOk r) : runsR none (byL a b how) = true ∧ ∀ m, hasL (byL a b how) m = inn how (hasL a m) (hasL b m) := by
  have hps : ∀ x ∈ endsL a ++ endsL b, 1 ≤ x ∧ x ≤ 1099511627777 := fun x hx => by
    have : ∀ (l : List (Int × Int)), (∀ r ∈ l, runOk r) → x ∈ endsL l → 1 ≤ x ∧ x ≤ 1099511627777 := fun l hl hx => by
      obtain ⟨r, hr, hx⟩ := List.mem_flatMap.1 hx
      have := hl r hr
      unfold runOk at this
      simp at hx
      omega
    rcases List.mem_append.1 hx with h | h
    · exact this a ha h
    · exact this b hb h
  have ea : ∀ r ∈ a, r.1 ∈ endsL a ++ endsL b ∧ r.2 + 1 ∈ endsL a ++ endsL b := fun r hr => ⟨List.mem_append_left _ (endsL_mem hr).1, List.mem_append_left _ (endsL_mem hr).2⟩
  have eb : ∀ r ∈ b, r.1 ∈ endsL a ++ endsL b ∧ r.2 + 1 ∈ endsL a ++ endsL b := fun r hr => ⟨List.mem_append_right _ (endsL_mem hr).1, List.mem_append_right _ (endsL_mem hr).2⟩
  unfold byL
  generalize endsL a ++ endsL b = ps at *
  cases hk : (nextL ps 0).2 with
  | true =>
    obtain ⟨h1, h2, h3⟩ := cnt_next hk
    have e : nextL ps 0 = ((nextL ps 0).1, true) := by rw [← hk]
    rw [e]
    generalize (nextL ps 0).1 = x at *
    refine byGo_right a b how ps ea eb hps (ps.length + 1) x [] (by have := cnt_le ps x; omega) h1 rfl fun m => ?_
    constructor
    · intro h; simp [hasL] at h
    · rintro ⟨h, hlt⟩
      exfalso
      have hq : ∀ z ∈ ps, m < z := fun z hz => by have := h3 z hz (by have := hps z hz; omega); omega
      rw [hasL_ahead ea hq (Int.le_refl _), hasL_ahead eb hq (Int.le_refl _)] at h
      simp [inn] at h
  | false =>
    have h3 := none_next hk
    have e : nextL ps 0 = ((nextL ps 0).1, false) := by rw [← hk]
    rw [e, byGo_false]
    have hn : ps = [] := by
      cases ps with
      | nil => rfl
      | cons z zs => have := h3 z (by simp); have := hps z (by simp); omega
    subst hn
    have : ∀ (l : List (Int × Int)), (∀ r ∈ l, r.1 ∈ ([] : List Int) ∧ r.2 + 1 ∈ ([] : List Int)) → l = [] := fun l hl => by
      cases l with
      | nil => rfl
      | cons z zs => have := (hl z (by simp)).1; simp at this
    rw [this a ea, this b eb]
    exact ⟨rfl, fun m => by simp [hasL, inn]⟩
end Go.Proofs.YtlapdmgjfdelnaaGreat

namespace Go.Proofs.YtlapdmgjfdelnaaGreat
open Go.RowKit
set_option maxRecDepth 100000

theorem entsB_mem : ∀ (es : List En) (p : Option Dt), entsB p es = true → ∀ e ∈ es, e.right = true
  | [], _, _, _, h => by cases h
  | e :: es, p, h, x, hx => by
    rw [entsB_cons] at h
    simp only [Bool.and_eq_true] at h
    rcases List.mem_cons.1 hx with rfl | hx
    · exact h.1.1
    · exact entsB_mem es _ h.2 x hx
theorem rightL_mem : ∀ (ks : List Kd) (p : Option ByteArray) (deep : Int), Tr.rightL p ks deep = true → ∀ k t, (k, t) ∈ ks → t.right (deep - 1) = true
  | [], _, _, _, _, _, h => by cases h
  | (k', t') :: ks, p, deep, h, k, t, hk => by
    rw [rightL_cons] at h
    simp only [Bool.and_eq_true] at h
    rcases List.mem_cons.1 hk with e | hk
    · cases e; exact h.1.2
    · exact rightL_mem ks _ deep h.2 k t hk
theorem dotsL_mem : ∀ (ks : List Kd) (x : Dt), x ∈ Tr.dotsL ks → ∃ k t, (k, t) ∈ ks ∧ x ∈ t.dots
  | [], x, h => by rw [Tr.dotsL] at h; cases h
  | (k, t) :: ks, x, h => by
    rw [Tr.dotsL] at h
    rcases List.mem_append.1 h with h | h
    · exact ⟨k, t, by simp, h⟩
    · obtain ⟨k', t', h1, h2⟩ := dotsL_mem ks x h
      exact ⟨k', t', by simp [h1], h2⟩
theorem right_dots (t : Tr) : ∀ (deep : Int), t.right deep = true → ∀ x ∈ t.dots, x.right = true := by
  induction t using Tr.ind with
  | h es ks ih =>
    intro deep h x hx
    rw [Tr.right] at h
    simp only [Bool.and_eq_true] at h
    rw [Tr.dots] at hx
    rcases List.mem_append.1 hx with hx | hx
    · obtain ⟨e, he, rfl⟩ := List.mem_map.1 hx
      have := entsB_mem es none h.1.2 e he
      simp [En.right] at this
      exact this.1
    · obtain ⟨k, t, hk, hx⟩ := dotsL_mem ks x hx
      exact ih k t hk (deep - 1) (rightL_mem ks none deep h.2 k t hk) x hx
def chkT (t : Tr) (d : Dt) : Bool := t.right 5 && d.right && !hasC (ctxOf t.dots) d
end Go.Proofs.YtlapdmgjfdelnaaGreat

namespace Go.Proofs.YtlapdmgjfdelnaaGreat
open Go.RowKit
set_option maxRecDepth 100000

def RetG (w : World) (e : Ending) (w' : World) : Prop := ∃ v, e = .returned v ∧ OwnP w' w.heap.size 201 2 RuE v [] ∧ Below w.heap.size w w'
set_option maxHeartbeats 2000000 in
theorem grow_any (n : Nat) (w : World) (hn : n ≤ 900000) : Calls Tryz.prog 247 #[.slice none 0 0, .int .i64 n] w (RetG w) := by
  rcases Nat.eq_zero_or_pos n with rfl | hp
  · go_enter Tryz.func247, Tryz.ntmps247
    go_wp2_with fail
    go_ret
    exact ⟨_, rfl, OwnP.nil, Below.refl _ _⟩
  · have ht := Tryz.underlying169
    obtain ⟨i, hi, hz, hs, hby⟩ := info_parts (show (Tryz.prog.info? 201).map (fun i => (i.zero, i.size, i.bytes)) = some (some (.agg #[.int .i64 0, .int .i64 0]), 2, 16) by kernel_rfl)
    have hold : (Builtin.firstCells i.size 0 (.slice none 0 0)).run Tryz.prog w.drew = .ok (#[] : Array Value) w.drew := run_firstCells_none w.drew i.size 0 0 0
    have hrz : ∀ ty, (Builtin.append_ #[169, 3] ty #[.slice none 0 0, .int .i64 (n : Int)]).run Tryz.prog w = .ok (.slice (some ⟨w.heap.size, 0, none⟩) n (grownCap w n 0 201)) (w.drew.alloc (.cells (#[] ++ Builtin.zeroCells #[.int .i64 0, .int .i64 0] n ++ Builtin.zeroCells #[.int .i64 0, .int .i64 0] (grownCap w n 0 201 - n)) 201)) := fun ty => by
      have h := Lib.run_append_grow_zeros w 169 3 ty 201 i (.agg #[.int .i64 0, .int .i64 0]) .i64 .i64 ht Tryz.underlying3 hi hz none 0 0 [] hold n hp (by omega) (by omega) (by omega) (by rw [hby]; omega) (by rw [hby, Nat.zero_add]; exact growslice_fits hp (by omega))
      simpa [Value.cells] using h
    have hge := grownCap_ge w n 0 201
    have hle := grownCap_le_maxLen w n 0 201 (by unfold maxLen; omega)
    generalize grownCap w n 0 201 = G at *
    have hG63 : G ≤ 9223372036854775807 := by unfold maxLen at hle; omega
    have HLE := hid hle
    clear hle hold ht hi hz hs hby
    go_enter Tryz.func247, Tryz.ntmps247
    go_wp2_with (at_builtin; refine Lib.wpList_append_run _ rfl _ _ _ _ rfl _ _ rfl rfl _ _ (hrz _) ?_)
    all_goals
      go_ret
      refine ⟨_, rfl, ⟨[], ⟨rfl, fun j x h => by simp at h⟩, by simp, .inr ⟨w.heap.size, G, _, rfl, Nat.le_refl _, heap_alloc_new _ _, Nat.zero_le _, HLE.out, ?_, by simp⟩⟩, ((Below.refl w.heap.size w).drew).alloc (Nat.le_refl _) _⟩
      simp [size_zeroCells]
      omega

/-- The first k of two lists, one behind the other. -/
def catK {α : Type} (a b : List α) : Nat → List α | 0 => [] | 1 => a | _ + 2 => a ++ b
set_option maxHeartbeats 4000000 in
theorem concat_any (a b : List (Int × Int)) (va vb : Value) (B : Nat) (w : World) (h0 : w.cell? ⟨B, 0, none⟩ = some va) (h1 : w.cell? ⟨B, 1, none⟩ = some vb) (hB : B < w.heap.size) (ha : SlP w w.heap.size 2 RuE va a) (hb : SlP w w.heap.size 2 RuE vb b) (hN : a.length ≤ 300000) (hN' : b.length ≤ 300000) :
    Calls Tryz.prog 215 #[.slice (some ⟨B, 0, none⟩) 2 2] w (RetO w 201 2 (fun _ => RuE) (a ++ b)) := by
  have HA := hid ha
  have HB := hid hb
  obtain ⟨A1, c1, rfl, _⟩ := ha
  obtain ⟨A2, c2, rfl, _⟩ := hb
  have hla : ((catK a b 2).length : Int) = a.length + b.length := by simp [catK]
  go_enter Tryz.func215, Tryz.ntmps215
  go_wp2_with fail
  go_loop [3, 11] (fun s i => ∃ k : Nat, k ≤ 2 ∧ i = .int .i64 k ∧ s = .int .i64 ((catK a b k).length : Nat)) (fun _ i => 2 - (intOf i).toNat)
  case atStart => exact ⟨0, by omega, rfl, rfl⟩
  case round =>
    obtain ⟨k, hk, rfl, rfl⟩ := hrel
    match k, hk with
    | 0, _ =>
      clear hla
      simp only [catK, List.length_nil]
      go_wp2_with fail
      go_round
      case rel => exact ⟨1, by omega, rfl, by simp⟩
      case measure => simp [intOf]
    | 1, _ =>
      clear hla
      simp only [catK]
      go_wp2_with fail
      go_round
      case rel => exact ⟨2, by omega, rfl, by simp⟩
      case measure => simp [intOf]
    | 2, _ =>
      obtain ⟨m, hm⟩ : ∃ m : Nat, m = (catK a b 2).length := ⟨_, rfl⟩
      rw [← hm] at hla ⊢
      have hm2 : m ≤ 600000 := by omega
      clear hla hm
      go_wp2_with fail
      refine (grow_any m w (by omega)).mono ?_
      rintro e w1 ⟨v1, rfl, ho1, hb1⟩
      have hs1 := hb1.size
      go_wp2_with fail
      go_loopw [6, 27] (fun v i wr => ∃ k : Nat, k ≤ 2 ∧ i = .int .i64 k ∧ OwnP wr w.heap.size 201 2 RuE v (catK a b k) ∧ Below w.heap.size w wr) (fun _ i _ => 2 - (intOf i).toNat)
      case atStart => exact ⟨0, by omega, rfl, ho1, hb1⟩
      case round =>
        obtain ⟨k, hk, rfl, hown, hbr⟩ := hrel
        have hsz := hbr.size
        have e0 : wr.cell? ⟨B, 0, none⟩ = some (.slice A1 a.length c1) := (hbr.cell (p := ⟨B, 0, none⟩) hB).trans h0
        have e1 : wr.cell? ⟨B, 1, none⟩ = some (.slice A2 b.length c2) := (hbr.cell (p := ⟨B, 1, none⟩) hB).trans h1
        have HSA := hid (HA.out.imp hbr hsz fun _ _ _ h => h)
        have HSB := hid (HB.out.imp hbr hsz fun _ _ _ h => h)
        match k, hk with
        | 0, _ =>
          have HL : Hid ((catK a b 0).length + a.length ≤ Few) := by unfold Hid Few; simp [catK]; omega
          go_wp2_with (at_builtin; refine wpList_few rfl (.tmp 31) (.tmp 32) _ rfl eiRun (by decide) (by decide) (fun _ _ h => h.one) rfl hown rfl HSA.out HL.out hsz ?_; intro v2 w2 hown2 hb2 _)
          go_roundw
          case rel => exact ⟨1, by omega, rfl, by simpa [catK] using hown2, hbr.trans hb2⟩
          case measure => simp [intOf]
        | 1, _ =>
          have HL : Hid ((catK a b 1).length + b.length ≤ Few) := by unfold Hid Few; simp [catK]; omega
          go_wp2_with (at_builtin; refine wpList_few rfl (.tmp 31) (.tmp 32) _ rfl eiRun (by decide) (by decide) (fun _ _ h => h.one) rfl hown rfl HSB.out HL.out hsz ?_; intro v2 w2 hown2 hb2 _)
          go_roundw
          case rel => exact ⟨2, by omega, rfl, by simpa [catK] using hown2, hbr.trans hb2⟩
          case measure => simp [intOf]
        | 2, _ =>
          go_wp2_with fail
          go_ret
          exact ⟨_, rfl, hown, hbr⟩
end Go.Proofs.YtlapdmgjfdelnaaGreat

namespace Go.Proofs.YtlapdmgjfdelnaaGreat
open Go.RowKit
set_option maxRecDepth 100000

theorem OwnP.zero {α : Type} {w : World} {base n : Nat} {e : TypeId} {sz : Nat} {E : α → List Value → Prop} (h : w.heap[n]? = some (.cells #[] e (0, 0))) (hb : base ≤ n) : OwnP w base e sz E (.slice (some ⟨n, 0, none⟩) 0 0) ([] : List α) :=
  ⟨[], ⟨rfl, fun j y hy => by simp at hy⟩, by simp, .inr ⟨n, 0, #[], rfl, hb, h, Nat.le_refl _, by simp [maxLen], by simp, by simp⟩⟩
set_option maxHeartbeats 2000000 in
theorem cloneE_any (xs : List _) (v : Value) (w : World) (h : SlP w w.heap.size 4 EnE v xs) (hN : xs.length ≤ Few) :
    Calls Tryz.prog 160 #[v] w (RetO w 113 4 (fun _ => EnE) xs) := by
  have H := hid h
  have q : ∀ (w : World) (a : Option Addr) (n c n' c' : Nat), (binOp .eql 22 (.slice a n c) (.slice none n' c')).run Tryz.prog w = .ok (.bool a.isNone) w := fun w a n c n' c' => Lib.run_eql_slice_nil w _ _ a n c n' c' Tryz.underlying22
  obtain ⟨A, c, rfl, h1, h2, h3⟩ := h
  cases A with
  | none =>
    have hz : xs = [] := by
      rcases xs with _ | ⟨x, xs⟩
      · rfl
      · obtain ⟨b, off, e, _⟩ := h3 (by simp); cases e
    subst hz
    go_enter Tryz.func160, Tryz.ntmps160
    go_wp2_with fail
    go_ret
    exact ⟨_, rfl, OwnP.nil, Below.refl _ _⟩
  | some a =>
    have HN := hid hN
    clear h1 h2 h3
    go_enter Tryz.func160, Tryz.ntmps160
    go_wp2_with (at_builtin; go_loud (refine wpList_few rfl (.tmp 5) (.tmp 6) _ rfl eiEntry (by decide) (by decide) (fun _ _ h => h.one) rfl (OwnP.zero (base := w.heap.size) (heap_new rfl) (Nat.le_refl _)) rfl (H.out.imp ((Below.refl _ w).alloc (Nat.le_refl _) _) (Nat.le_refl _) fun _ _ _ h => h) (by simpa using HN.out) (by simp) ?_); intro v2 w2 hown2 hb2 _)
    go_ret
    exact ⟨_, rfl, by simpa using hown2, ((Below.refl _ w).alloc (Nat.le_refl _) _).trans hb2⟩
set_option maxHeartbeats 2000000 in
theorem cloneC_any (xs : List _) (v : Value) (w : World) (h : SlP w w.heap.size 3 SpE v xs) (hN : xs.length ≤ Few) :
    Calls Tryz.prog 65 #[v] w (RetO w 45 3 (fun _ => SpE) xs) := by
  have H := hid h
  have q : ∀ (w : World) (a : Option Addr) (n c n' c' : Nat), (binOp .eql 27 (.slice a n c) (.slice none n' c')).run Tryz.prog w = .ok (.bool a.isNone) w := fun w a n c n' c' => Lib.run_eql_slice_nil w _ _ a n c n' c' Tryz.underlying27
  obtain ⟨A, c, rfl, h1, h2, h3⟩ := h
  cases A with
  | none =>
    have hz : xs = [] := by
      rcases xs with _ | ⟨x, xs⟩
      · rfl
      · obtain ⟨b, off, e, _⟩ := h3 (by simp); cases e
    subst hz
    go_enter Tryz.func65, Tryz.ntmps65
    go_wp2_with fail
    go_ret
    exact ⟨_, rfl, OwnP.nil, Below.refl _ _⟩
  | some a =>
    have HN := hid hN
    clear h1 h2 h3
    go_enter Tryz.func65, Tryz.ntmps65
    go_wp2_with (at_builtin; go_loud (refine wpList_few rfl (.tmp 5) (.tmp 6) _ rfl eiSpan (by decide) (by decide) (fun _ _ h => h.one) rfl (OwnP.zero (base := w.heap.size) (heap_new rfl) (Nat.le_refl _)) rfl (H.out.imp ((Below.refl _ w).alloc (Nat.le_refl _) _) (Nat.le_refl _) fun _ _ _ h => h) (by simpa using HN.out) (by simp) ?_); intro v2 w2 hown2 hb2 _)
    go_ret
    exact ⟨_, rfl, by simpa using hown2, ((Below.refl _ w).alloc (Nat.le_refl _) _).trans hb2⟩
end Go.Proofs.YtlapdmgjfdelnaaGreat

namespace Go.Proofs.YtlapdmgjfdelnaaGreat
open Go.RowKit
set_option maxRecDepth 100000

set_option maxHeartbeats 4000000 in
theorem tclone_any (t : Tr) : ∀ (w : World) (ve vk : Value), t.rd w w.heap.size ve vk → t.sz ≤ 900000 →
    Calls Tryz.prog 113 #[.agg #[ve, vk]] w (RetT w t) := by
  induction t using Tr.ind with
  | h es ks ih =>
  intro w ve vk h hN
  rw [rd_iff] at h
  rw [Tr.sz] at hN
  have hkl := szL_len ks
  have HE := hid h.1
  obtain ⟨⟨A1, n, rfl, _⟩, ⟨A2, m, rfl, c1, c2, c3⟩⟩ := h
  unfold Big at c2
  have hb0 : Below w.heap.size w ((w.alloc (.cells #[.slice A1 es.length n, .slice A2 ks.length m] 25)).alloc (.cells #[.slice none 0 0, .slice none 0 0] 25)) := ((Below.refl _ w).alloc (Nat.le_refl _) _).alloc (by simp) _
  go_enter Tryz.func113, Tryz.ntmps113
  go_wp2_with fail
  refine (cloneE_any es _ _ (HE.out.imp hb0 hb0.size fun _ _ _ h => h) (by unfold Few; omega)).mono ?_
  rintro e w1 ⟨v1, rfl, ho1, hb1⟩
  obtain ⟨Ae, ce, rfl⟩ := OwnP.shape ho1
  have hs1 := hb1.size
  simp only [World.size_alloc] at hs1
  have hB1 : Below w.heap.size w w1 := hb0.trans (hb1.mono (by simp; omega))
  have hg1 : w1.heap[w.heap.size + 1]? = some (.cells #[.slice none 0 0, .slice none 0 0] 25 (0, 0)) := (hb1.block (w.heap.size + 1) (by simp)).trans (heap_new (by simp))
  have q1 : w1.cell? ⟨w.heap.size, 1, none⟩ = some (.slice A2 ks.length m) := by
    rw [hb1.cell (p := ⟨w.heap.size, 1, none⟩) (by simp; omega), World.cell?_alloc_lt _ _ _ (by simp)]; simp
  have HG1 := hid hg1
  have HO1 := hid ho1
  have HB1 := hid hb1
  clear hg1 ho1 hb1 hb0
  have hlt0 : w.heap.size < w1.heap.size := by omega
  go_wp2_with fail
  go_loopw [13] (fun i wr => ∃ k : Nat, k ≤ ks.length ∧ i = .int .i64 k ∧ ∃ Ak ck, wr.heap[w1.heap.size]? = some (.cells #[.slice Ae es.length ce, .slice Ak (ks.take k).length ck] 25 (0, 0)) ∧
      OwnD wr (w1.heap.size + 1) 126 3 KdA (fun b => w1.heap.size + 1 ≤ b) (.slice Ak (ks.take k).length ck) (ks.take k) ∧ w1.heap.size + 1 ≤ wr.heap.size ∧ Below w1.heap.size w1 wr) (fun i _ => ks.length - (intOf i).toNat)
  case atStart => exact ⟨0, Nat.zero_le _, rfl, none, 0, heap_new rfl, OwnP.nil, by simp, (Below.refl _ _).alloc (Nat.le_refl _) _⟩
  case round =>
    obtain ⟨k, hk, rfl, Ak, ck, hg, hown, hsz, hb⟩ := hrel
    have hB0 : Below w.heap.size w wr := hB1.trans (hb.mono (by omega))
    have hszk := hown.lt
    by_cases hlt : k < ks.length
    · obtain ⟨⟨key, t⟩, hx⟩ : ∃ x, ks[k]? = some x := ⟨_, List.getElem?_eq_getElem hlt⟩
      obtain ⟨b, off, rfl, hbB, hc⟩ := c3 (by rintro rfl; simp at hlt)
      obtain ⟨cs, ⟨ve', vk', rfl, hkb, hrd⟩, _, hu⟩ := hc k _ hx
      obtain ⟨A3, n3, A4, n4, rfl, rfl⟩ := rd_shape hrd
      have hbo : ∀ o, wr.cell? ⟨b, o, none⟩ = w.cell? ⟨b, o, none⟩ := fun o => hB0.cell (p := ⟨b, o, none⟩) hbB
      have e0 : wr.cell? ⟨b, off + k * 3, none⟩ = some (.string key) := (hbo _).trans (hu 0 _ rfl)
      have e1 : wr.cell? ⟨b, off + k * 3 + 1, none⟩ = some (.slice A3 t.es.length n3) := (hbo _).trans (hu 1 _ rfl)
      have e2 : wr.cell? ⟨b, off + k * 3 + 2, none⟩ = some (.slice A4 t.ks.length n4) := (hbo _).trans (hu 2 _ rfl)
      have hmem : (key, t) ∈ ks := List.mem_of_getElem? hx
      have HKB := hid hkb
      have htz : t.sz ≤ 900000 := by have := szL_mem hmem; omega
      have HR : Hid (∀ w', Below w.heap.size w w' → t.rd w' w'.heap.size (.slice A3 t.es.length n3) (.slice A4 t.ks.length n4)) := fun w' hb' => rd_below hb' hb'.size _ _ _ hrd
      have HX : Hid (ks.take (k + 1) = ks.take k ++ [(key, t)]) := by unfold Hid; rw [List.take_add_one, hx]; rfl
      have hl1 : (ks.take k).length = k := by simp; omega
      have HL : Hid ((ks.take k).length + [(key, t)].length ≤ Few) := by unfold Hid Few; rw [hl1]; simp; omega
      generalize ks.take k = js at *
      have HIH := hid (ih key t hmem)
      have c0 : wr.cell? ⟨w1.heap.size, 1, none⟩ = some (.slice Ak js.length ck) := cell_cells (i := 1) hg
      have hne0 : w1.heap.size < wr.heap.size := by omega
      have hne1 : wr.heap.size ≠ w1.heap.size := by omega
      have HS : Hid (∀ w', Below (wr.heap.size + 1) (wr.alloc (.cells #[.string key, .slice A3 t.es.length n3, .slice A4 t.ks.length n4] 126)) w' → w'.cell? ⟨wr.heap.size, 0, none⟩ = some (.string key) ∧ w'.cell? ⟨wr.heap.size, 1, none⟩ = some (.slice A3 t.es.length n3) ∧ w'.cell? ⟨wr.heap.size, 2, none⟩ = some (.slice A4 t.ks.length n4) ∧ w'.cell? ⟨w1.heap.size, 1, none⟩ = some (.slice Ak js.length ck)) := fun w' hb' => by
        refine ⟨?_, ?_, ?_, ?_⟩
        · rw [hb'.cell (p := ⟨wr.heap.size, 0, none⟩) (by simp)]; simp
        · rw [hb'.cell (p := ⟨wr.heap.size, 1, none⟩) (by simp)]; simp
        · rw [hb'.cell (p := ⟨wr.heap.size, 2, none⟩) (by simp)]; simp
        · rw [hb'.cell (p := ⟨w1.heap.size, 1, none⟩) (by show w1.heap.size < _; omega), World.cell?_alloc_lt _ _ _ hne0]; exact c0
      have HOWN : Hid (∀ W, Below wr.heap.size wr W → OwnD W (w1.heap.size + 1) 126 3 KdA (fun b => w1.heap.size + 1 ≤ b) (.slice Ak js.length ck) js) := fun W hW => hown.grow KdA.mon hW
      have HGW : Hid (∀ W, Below wr.heap.size wr W → W.heap[w1.heap.size]? = some (.cells #[.slice Ae es.length ce, .slice Ak js.length ck] 25 (0, 0))) := fun W hW => (hW.block _ hne0).trans hg
      have hWK : Hid (∀ W, Below (wr.heap.size + 1) (wr.alloc (.cells #[.string key, .slice A3 t.es.length n3, .slice A4 t.ks.length n4] 126)) W → Below wr.heap.size wr W) := fun W hW => ((Below.refl _ wr).alloc (Nat.le_refl _) _).trans (hW.mono (by omega))
      have hw1 : w1.heap.size < w1.heap.size + 1 := by omega
      have HRW := hid (HR.out _ (hB0.trans ((hWK.out _ ((Below.refl (wr.heap.size + 1) (wr.alloc (.cells #[.string key, .slice A3 t.es.length n3, .slice A4 t.ks.length n4] 126))).drew)).mono (by omega))))
      clear hu hbo hx hc c3 hrd hkb hmem ih hg hown hl1
      go_upto_region 5 with (fail)
      obtain ⟨z0, z1, z2, z3⟩ := HS.out _ (Below.refl _ _)
      obtain ⟨y0, y1, y2, y3⟩ := HS.out _ ((Below.refl (wr.heap.size + 1) (wr.alloc (.cells #[.string key, .slice A3 t.es.length n3, .slice A4 t.ks.length n4] 126))).drew)
      go_region_law
        (first | (go_simp; go_at_call 113; go_loud ((refine (HIH.out _ _ _ HRW.out htz).mono ?_); rintro e w3 ⟨ve3, vk3, rfl, hrd, hb3⟩; obtain ⟨Av, nv, Aw, nw, rfl, rfl⟩ := rda_shape hrd; have hb3' := hid (((Below.refl (wr.heap.size + 1) (wr.alloc (.cells #[.string key, .slice A3 t.es.length n3, .slice A4 t.ks.length n4] 126))).drew).trans (hb3.mono (by simp))); have hs3 := hb3'.out.size; simp only [World.size_alloc] at hs3; obtain ⟨p0, p1, p2, p3⟩ := HS.out w3 hb3'.out; have a0 := fun (o : Obj) => (HS.out (w3.alloc o) (hb3'.out.alloc (by omega) o)).1; have a1 := fun (o : Obj) => (HS.out (w3.alloc o) (hb3'.out.alloc (by omega) o)).2.1;  have a2 := fun (o : Obj) => (HS.out (w3.alloc o) (hb3'.out.alloc (by omega) o)).2.2.1; have a3 := fun (o : Obj) => (HS.out (w3.alloc o) (hb3'.out.alloc (by omega) o)).2.2.2))
               | (have hQ3 := hb3'; go_loud ((refine step_d (v := .slice Ak js.length ck) rfl (.tmp 18) (.tmp 25) _ rfl KdA.mon eiKid (by decide) (by decide) rfl (HOWN.out _ (hWK.out _ (hb3'.out.alloc (by omega) _))) rfl (kid_one hrd HKB.out (fun b hb => ⟨hb.2, by have := hb.1; simp only [World.size_drew, World.size_alloc] at *; omega, by rw [World.size_alloc]; have := hb.2; omega, fun e => by have := hszk b e; have := hb.1; simp only [World.size_drew, World.size_alloc] at *; omega⟩) _ (by rw [World.size_alloc]; omega)) HL.out (by rw [World.size_alloc]; omega) ?_); intro v1 w4 hown4 hb4 _ _; have hsh4 : ∃ A c, v1 = .slice A (js ++ [(key, t)]).length c := OwnP.shape hown4; obtain ⟨A1, c1, hv1⟩ := hsh4; subst hv1; have hg34 := hid ((hb4.block _ hw1).trans (HGW.out _ (hWK.out _ (hb3'.out.alloc (by omega) _)))); have hc4 : w4.cell? ⟨w1.heap.size, 1, none⟩ = some (.slice Ak js.length ck) := cell_cells (i := 1) hg34.out; have hf4 := cells_frz (i := 1) hg34.out)))
      all_goals go_wp2_with fail
      all_goals (
        have hW := hWK.out _ (hb3'.out.alloc (by omega) (.cells #[.string key, .slice Av t.es.length nv, .slice Aw t.ks.length nw] 126))
        have hz4 := hb4.size
        rw [World.size_alloc] at hz4
        refine ⟨⟨k + 1, by omega, by go_num, A1, c1, ?_, ?_, ?_, ?_⟩, by simp [intOf]; omega⟩
        · rw [HX.out]; simpa using cells_set (i := 1) hg34.out (.slice A1 (js.length + 1) c1)
        · rw [HX.out]; exact OwnD.setOther hown4 KdA.mon hw1 (by simp) _
        · simp [World.setCell]; omega
        · exact ((hb.trans (hW.mono (by omega))).trans (hb4.mono (by omega))).setCell (by simp) _)
    · obtain rfl : k = ks.length := by omega
      rw [List.take_of_length_le (Nat.le_refl _)] at hg hown hszk
      have c0 : wr.cell? ⟨w1.heap.size, 0, none⟩ = some (.slice Ae es.length ce) := cell_cells (i := 0) hg
      have c1 : wr.cell? ⟨w1.heap.size, 1, none⟩ = some (.slice Ak ks.length ck) := cell_cells (i := 1) hg
      have hg2 : wr.heap[w.heap.size + 1]? = some (.cells #[.slice none 0 0, .slice none 0 0] 25 (0, 0)) := (hb.block _ (by omega)).trans HG1.out
      have d0 : wr.cell? ⟨w.heap.size + 1, 0, none⟩ = some (.slice none 0 0) := cell_cells (i := 0) hg2
      have d1 : wr.cell? ⟨w.heap.size + 1, 1, none⟩ = some (.slice none 0 0) := cell_cells (i := 1) hg2
      have z0 := cells_frz (i := 0) hg2
      have z1 := cells_frz (i := 1) hg2
      go_wp2_with fail
      have hW0 := cells_set (i := 1) (cells_set (i := 0) hg2 (.slice Ae es.length ce)) (.slice Ak ks.length ck)
      have hKW : ∀ b, w.heap.size + 2 ≤ b → ((wr.setCell ⟨w.heap.size + 1, 0, none⟩ (.slice Ae es.length ce)).setCell ⟨w.heap.size + 1, 1, none⟩ (.slice Ak ks.length ck)).heap[b]? = wr.heap[b]? := fun b hb => (Below.heap_setCell _ _ _ _ (by simp; omega)).trans (Below.heap_setCell _ _ _ _ (by simp; omega))
      have hSW : ((wr.setCell ⟨w.heap.size + 1, 0, none⟩ (.slice Ae es.length ce)).setCell ⟨w.heap.size + 1, 1, none⟩ (.slice Ak ks.length ck)).heap.size = wr.heap.size := by simp [World.setCell]
      have hBW : Below w.heap.size w ((wr.setCell ⟨w.heap.size + 1, 0, none⟩ (.slice Ae es.length ce)).setCell ⟨w.heap.size + 1, 1, none⟩ (.slice Ak ks.length ck)) := (hB0.setCell (by simp) _).setCell (by simp) _
      clear c0 c1 d0 d1 z0 z1
      generalize ((wr.setCell ⟨w.heap.size + 1, 0, none⟩ (.slice Ae es.length ce)).setCell ⟨w.heap.size + 1, 1, none⟩ (.slice Ak ks.length ck)) = W at *
      have r0 : W.cell? ⟨w.heap.size + 1, 0, none⟩ = some (.slice Ae es.length ce) := (cell_cells (i := 0) hW0).trans (by simp)
      have r1 : W.cell? ⟨w.heap.size + 1, 1, none⟩ = some (.slice Ak ks.length ck) := (cell_cells (i := 1) hW0).trans (by simp)
      refine bodyPost_ret (v := .agg #[.slice Ae es.length ce, .slice Ak ks.length ck]) (by simp [results, Tryz.results113, go_sem, r0, r1]) rfl ⟨_, _, rfl, ?_, hBW⟩
      rw [rda_iff]
      refine ⟨(HO1.out.sla (by unfold Big; omega)).up (fun b hb' => (hKW b (by have := hb'.1; simp only [World.size_alloc] at this; omega)).trans (hb.block b hb'.2.1)) (fun b hb' => ⟨by have := hb'.1; simp only [World.size_alloc] at this; omega, by have := hb'.2.1; omega⟩) (fun _ _ _ h => h), (OwnP.sla hown (by unfold Big; omega)).up (fun b hb' => hKW b (by have := hb'.1; omega)) (fun b hb' => ⟨by have := hb'.1; omega, by have := hb'.2.1; omega⟩) ?_⟩
      intro x _ cs hx
      exact KdA.mon.up (fun b hb' => hKW b (by have := hb'.1; omega)) (fun b hb' => ⟨by have := hb'.1; omega, by have := hb'.2.1; omega⟩) hx
end Go.Proofs.YtlapdmgjfdelnaaGreat
