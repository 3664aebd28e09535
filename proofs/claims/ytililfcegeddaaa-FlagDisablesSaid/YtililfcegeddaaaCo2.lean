/- What the laws need, part 2: The last operation of a region that waits for all others comes last. No condition. context.parts.whole. No condition but that there are not too many. tributaryref07.Has. No condition but that there are not too many. tributaryref08.below, Leaves. No condition but that there are not too many. tree.all, tree.Right. No condition but that there are not too many. tributaryref10.One. No condition. A small tree has few entries and kids. No condition. slices.Grow at no run, slices.Concat at two lists of runs. No condition but that there are not too many. tributaryref06.By, Of. No condition but that there are not too many, and that numbers are right. tributaryref06.Of. No condition but that there are not too many, and that numbers are right. Sets of numbers as lists of runs, in plain Lean: what the reference's sweep makes is a set, of which numbers; two sets of the same numbers are the same. No condition. tributaryref07.By, Union, Of. No condition but that there are not too many, and that numbers are right. tributaryref08.Leaves, Dots. No condition but that there are not too many, and that numbers are right. tributaryref10.Check. No condition but that there are not too many. span.joined, and what it makes of runs in order: a set. No condition but that there are not too many, and that numbers are right. -/
import Derived.Deep.LoopGhost
import Derived.Deep.QuietTactic
import Derived.Deep.RegionHeld3
import Derived.Lib.AppendZerosOnto
import Derived.Lib.SliceRun
import Derived.RegionTactic
import Derived.Test.YtililfcegeddaaaCo1
namespace Go.Proofs.Ytililfcegeddaaa
open Go.RowKit

def PopQ (Q : Exit → Act → World → Prop) (R : Act → World → Prop) : Exit → Act → World → Prop
  | .normal, a, w => R a w
  | e, a, w => Q e a w
theorem PopQ.wp {P : Program} {o : Oper} {a : Act} {w : World} {K : Act → World → Prop} {Q : Exit → Act → World → Prop} {R : Act → World → Prop} (h : o.wp P a w K (PopQ Q R)) : o.wp P a w K Q := by
  unfold Oper.wp at *
  cases hr : (execOp a.eval o).run P w with
  | ok n w' =>
    rw [hr] at h
    cases n with
    | value v => exact h
    | skip => exact h
    | defer d => exact h
    | enter f args => exact Calls.mono h fun e w'' he => by cases e <;> exact he
    | row row args => exact h
    | _ => exact h
  | halt x w' =>
    rw [hr] at h
    cases x <;> exact h

section
variable {P : Program} {Q : Exit → Act → World → Prop} {md : Region.Mode} {ops' : Array Oper} {o : Oper}
theorem all_listed (hord : ∀ (j : Nat) (x : Oper), ops'[j]? = some x → ∀ e ∈ x.after, e.on < j) {listed : Array Bool} (hs : listed.size = ops'.size) (hr : Region.ready md ops' listed = []) : ∀ j, j < ops'.size → listed.getD j false = true := by
  intro j
  induction j using Nat.strongRecOn with
  | ind j ih =>
    intro hj
    cases hl : listed.getD j false with
    | true => rfl
    | false =>
      have hx : ops'[j]? = some ops'[j] := Array.getElem?_eq_getElem hj
      have : j ∈ Region.ready md ops' listed := mem_ready.2 ⟨by simp [Array.getElem?_eq_getElem (hs ▸ hj : j < listed.size)] at hl ⊢; exact hl, _, hx, fun e he _ => ih e.on (hord j _ hx e he) (Nat.lt_trans (hord j _ hx e he) hj)⟩
      rw [hr] at this; cases this
theorem wpOp_pop (hg : ∀ (j : Nat) (x : Oper), ops'[j]? = some x → x.guard = none) {i : Nat} {a : Act} {w : World} {K K' : Act → World → Prop} {R : Act → World → Prop} (hi : i < ops'.size) (hK : ∀ a w, K a w → K' a w) (h : wpOp P ops' (PopQ Q R) i K a w) :
    wpOp P (ops'.push o) Q i K' a w := by
  have hx : ops'[i]? = some ops'[i] := Array.getElem?_eq_getElem hi
  have hx' : (ops'.push o)[i]? = some ops'[i] := by rw [Array.getElem?_push, if_neg (by omega)]; exact hx
  have hw : ∀ ops : Array Oper, Region.wanted ops'[i] (yielded ops a.tmps) = true := fun ops => by simp [Region.wanted, hg i _ hx]
  unfold wpOp at *
  rw [hx'] ; rw [hx] at h
  simp only [hw, if_true] at *
  rcases h with h | h
  · exact .inl (Oper.wp_mono hK (PopQ.wp h))
  · exact .inr h
theorem wpAny_pop (hg : ∀ (j : Nat) (x : Oper), ops'[j]? = some x → x.guard = none) (hord : ∀ (j : Nat) (x : Oper), ops'[j]? = some x → ∀ e ∈ x.after, e.on < j) (hlast : ∀ j, j < ops'.size → ∃ e ∈ o.after, Region.binds md e = true ∧ e.on = j) (hon : ∀ e ∈ o.after, e.on < ops'.size) (hgo : o.guard = none) :
    ∀ (fuel : Nat) (listed : Array Bool) (a : Act) (w : World), listed.size = ops'.size → wpAny P md ops' (PopQ Q (wpList P (ops'.push o) Q [o])) fuel listed a w → wpAny P md (ops'.push o) Q (fuel + 1) (listed.push false) a w := by
  have hin : ∀ (listed : Array Bool), listed.size = ops'.size → ∀ i, i ∈ Region.ready md (ops'.push o) (listed.push false) → (i < ops'.size ∧ i ∈ Region.ready md ops' listed) ∨ (i = ops'.size ∧ Region.ready md ops' listed = []) := by
    intro listed hs i hi
    obtain ⟨h1, x, hx, h2⟩ := mem_ready.1 hi
    have hlt : i < ops'.size + 1 := by have := (Array.getElem?_eq_some_iff.1 hx).1; simpa using this
    by_cases he : i < ops'.size
    · refine .inl ⟨he, mem_ready.2 ⟨?_, x, ?_, fun e hee hb => ?_⟩⟩
      · simp only [Array.getD_eq_getD_getElem?, Array.getElem?_push, if_neg (show ¬ i = listed.size by omega)] at h1 ⊢; exact h1
      · rw [Array.getElem?_push, if_neg (by omega)] at hx; exact hx
      · have hx2 : ops'[i]? = some x := by rw [Array.getElem?_push, if_neg (by omega)] at hx; exact hx
        have h3 := h2 e hee hb
        have h4 := hord i x hx2 e hee
        simp only [Array.getD_eq_getD_getElem?, Array.getElem?_push, if_neg (show ¬ e.on = listed.size by omega)] at h3 ⊢; exact h3
    · obtain rfl : i = ops'.size := by omega
      refine .inr ⟨rfl, ?_⟩
      have hxo : x = o := by rw [Array.getElem?_push, if_pos rfl] at hx; exact (Option.some.inj hx).symm
      subst hxo
      rw [List.eq_nil_iff_forall_not_mem]
      intro j hj
      obtain ⟨g1, y, hy, _⟩ := mem_ready.1 hj
      have hj' := (Array.getElem?_eq_some_iff.1 hy).1
      obtain ⟨e, he1, he2, he3⟩ := hlast j hj'
      have h3 := h2 e he1 he2
      rw [he3] at h3
      simp only [Array.getD_eq_getD_getElem?, Array.getElem?_push, if_neg (show ¬ j = listed.size by omega)] at h3 g1
      rw [Array.getElem?_eq_getElem (show j < listed.size by omega)] at h3 g1
      simp at h3 g1; rw [h3] at g1; cases g1
  have hfin : ∀ (listed : Array Bool), listed.size = ops'.size → Region.ready md ops' listed = [] → Region.ready md (ops'.push o) ((listed.push false).setIfInBounds ops'.size true) = [] := by
    intro listed hs hr
    rw [List.eq_nil_iff_forall_not_mem]
    intro j hj
    obtain ⟨g1, y, hy, _⟩ := mem_ready.1 hj
    have hj' : j < ops'.size + 1 := by have := (Array.getElem?_eq_some_iff.1 hy).1; simpa using this
    by_cases he : j < ops'.size
    · have := all_listed hord hs hr j he
      simp only [Array.getD_eq_getD_getElem?, Array.getElem?_setIfInBounds, Array.getElem?_push, if_neg (show ¬ ops'.size = j by omega), if_neg (show ¬ j = listed.size by omega)] at g1 this
      rw [Array.getElem?_eq_getElem (show j < listed.size by omega)] at g1 this
      simp at g1 this; rw [this] at g1; cases g1
    · obtain rfl : j = ops'.size := by omega
      simp [hs] at g1
  have hstep : ∀ (fuel : Nat) (listed : Array Bool) (a : Act) (w : World), listed.size = ops'.size → Region.ready md ops' listed = [] → wpList P (ops'.push o) Q [o] a w → wpOp P (ops'.push o) Q ops'.size (wpAny P md (ops'.push o) Q fuel ((listed.push false).setIfInBounds ops'.size true)) a w := by
    intro fuel listed a w hs hr h
    unfold wpOp
    rw [Array.getElem?_push, if_pos rfl]
    have hw : Region.wanted o (yielded (ops'.push o) a.tmps) = true := by simp [Region.wanted, hgo]
    unfold wpList at h
    simp only [hw, if_true] at *
    have hK : ∀ a w, wpList P (ops'.push o) Q [] a w → wpAny P md (ops'.push o) Q fuel ((listed.push false).setIfInBounds ops'.size true) a w := fun a w hq => by
      have := hfin listed hs hr
      cases fuel with
      | zero => exact ⟨this, hq⟩
      | succ fuel => exact ⟨fun _ => hq, by rw [this]; simp⟩
    rcases h with h | h
    · exact .inl (Oper.wp_mono hK h)
    · exact .inr h
  intro fuel
  induction fuel with
  | zero =>
    intro listed a w hs h
    obtain ⟨h1, h2⟩ := h
    refine ⟨fun h0 => ?_, fun i hi => ?_⟩
    · exfalso
      have : ops'.size ∈ Region.ready md (ops'.push o) (listed.push false) := mem_ready.2 ⟨by simp [← hs], o, by simp, fun e he _ => by
        have := all_listed hord hs h1 e.on (hon e he)
        simp only [Array.getD_eq_getD_getElem?, Array.getElem?_push, if_neg (show ¬ e.on = listed.size by have := hon e he; omega)] at this ⊢; exact this⟩
      rw [h0] at this; cases this
    · rcases hin listed hs i hi with ⟨_, h3⟩ | ⟨rfl, _⟩
      · rw [h1] at h3; cases h3
      · exact hstep 0 listed a w hs h1 h2
  | succ fuel ih =>
    intro listed a w hs h
    obtain ⟨h1, h2⟩ := h
    refine ⟨fun h0 => ?_, fun i hi => ?_⟩
    · exfalso
      by_cases hr : Region.ready md ops' listed = []
      · have : ops'.size ∈ Region.ready md (ops'.push o) (listed.push false) := mem_ready.2 ⟨by simp [← hs], o, by simp, fun e he _ => by
          have := all_listed hord hs hr e.on (hon e he)
          simp only [Array.getD_eq_getD_getElem?, Array.getElem?_push, if_neg (show ¬ e.on = listed.size by have := hon e he; omega)] at this ⊢; exact this⟩
        rw [h0] at this; cases this
      · obtain ⟨i, hi⟩ := List.exists_mem_of_ne_nil _ hr
        obtain ⟨g1, x, hx, g2⟩ := mem_ready.1 hi
        have hlt := (Array.getElem?_eq_some_iff.1 hx).1
        have : i ∈ Region.ready md (ops'.push o) (listed.push false) := mem_ready.2 ⟨by
          simp only [Array.getD_eq_getD_getElem?, Array.getElem?_push, if_neg (show ¬ i = listed.size by omega)] at g1 ⊢; exact g1, x, by rw [Array.getElem?_push, if_neg (by omega)]; exact hx, fun e he hb => by
          have h3 := g2 e he hb
          have h4 := hord i x hx e he
          simp only [Array.getD_eq_getD_getElem?, Array.getElem?_push, if_neg (show ¬ e.on = listed.size by omega)] at h3 ⊢; exact h3⟩
        rw [h0] at this; cases this
    · rcases hin listed hs i hi with ⟨hlt, h3⟩ | ⟨rfl, hr⟩
      · refine wpOp_pop hg hlt (fun a w hk => ?_) (h2 i h3)
        have := ih (listed.setIfInBounds i true) a w (by simpa using hs) hk
        rw [show (listed.push false).setIfInBounds i true = (listed.setIfInBounds i true).push false from ?_]
        · exact this
        · apply Array.ext_getElem?
          intro j
          simp only [Array.getElem?_setIfInBounds, Array.getElem?_push, Array.size_setIfInBounds, Array.size_push]
          by_cases e1 : i = j
          · subst e1
            simp [show i < listed.size by omega, show ¬ i = listed.size by omega, show i < listed.size + 1 by omega]
          · simp [e1]
      · exact hstep (fuel + 1) listed a w hs hr (h1 hr)
end

/-- The checks, as Bools for the kernel. -/
def popB (ops' : List Oper) (o : Oper) : Bool :=
  ops'.all (fun x => x.guard.isNone) && o.guard.isNone && ((List.range ops'.length).all fun j => match ops'[j]? with | some x => x.after.all fun e => decide (e.on < j) | none => true) &&
    ((List.range ops'.length).all fun j => o.after.any fun e => Region.binds .any e && (e.on == j)) && (o.after.all fun e => decide (e.on < ops'.length))
theorem wp_region_pop {P : Program} {Q : Exit → Act → World → Prop} {S : World → Prop} {id : Nat} (ops' : List Oper) (o : Oper) {ops : Array Oper} {a : Act} {w : World} (hm : P.follows .mixedOrders = true) (ho : ops = (ops' ++ [o]).toArray) (hc : popB ops' o = true)
    (h : wpAnyH P .any ops'.toArray (PopQ Q (wpList P ops Q [o])) S ops'.length (List.replicate ops'.length false).toArray a w.drew) : (Code.region id ops true).wp P Q a w := by
  unfold popB at hc
  simp only [Bool.and_eq_true, List.all_eq_true, List.mem_range, Array.all_eq_true_iff_forall_mem, Array.any_eq_true', decide_eq_true_eq, beq_iff_eq, Option.isNone_iff_eq_none] at hc
  obtain ⟨⟨⟨⟨c1, c2⟩, c3⟩, c4⟩, c5⟩ := hc
  have ho' : ops = ops'.toArray.push o := by rw [ho]; simp
  have h' := wpAny_of_held _ _ _ _ h
  rw [ho'] at h'
  have := wpAny_pop (md := .any) (ops' := ops'.toArray) (o := o) (P := P) (Q := Q) (fun j x hx => c1 x (by simpa using List.mem_of_getElem? (by simpa using hx)))
    (fun j x hx e he => by
      have hx' : ops'[j]? = some x := by simpa using hx
      have := c3 j (List.getElem?_eq_some_iff.1 hx').1
      rw [hx'] at this
      simp only [Array.all_eq_true_iff_forall_mem, decide_eq_true_eq] at this
      exact this e he)
    (fun j hj => by
      obtain ⟨e, h1, h2⟩ := c4 j (by simpa using hj)
      exact ⟨e, h1, h2.1, h2.2⟩)
    (fun e he => by simpa using c5 e he) c2 ops'.length (List.replicate ops'.length false).toArray a w.drew (by simp) h'
  refine wp_region_any hm ?_
  rw [ho']
  have e1 : (ops'.toArray.push o).size = ops'.length + 1 := by simp
  have e2 : Array.replicate (ops'.toArray.push o).size false = (List.replicate ops'.length false).toArray.push false := by
    apply Array.ext'
    rw [e1]; simp [List.replicate_succ']
  rw [e2, e1]
  exact this
def popL (n : Nat) (l : List Oper) : Bool := match l.drop n with | [o] => ((l.take n).length == n) && popB (l.take n) o | _ => false
theorem wp_region_pop_n {P : Program} {Q : Exit → Act → World → Prop} {S : World → Prop} {id : Nat} (n : Nat) {l : List Oper} {a : Act} {w : World} (hm : P.follows .mixedOrders = true) (hc : popL n l = true)
    (h : wpAnyH P .any (l.take n).toArray (PopQ Q (wpList P l.toArray Q (l.drop n))) S n (List.replicate n false).toArray a w.drew) : (Code.region id l.toArray true).wp P Q a w := by
  unfold popL at hc
  split at hc
  · rename_i o ho
    simp only [Bool.and_eq_true, beq_iff_eq] at hc
    refine wp_region_pop (S := S) (l.take n) o hm (by rw [← ho, List.take_append_drop]) hc.2 ?_
    rw [hc.1, ← ho]
    exact h
  · cases hc
end Go.Proofs.Ytililfcegeddaaa

namespace Go.Proofs.Ytililfcegeddaaa
open Go.RowKit
set_option maxRecDepth 100000

def wholeK (ls : Nat → List (Int × Int)) (k : Nat) : List Sp := (List.range k).flatMap fun (dc : Nat) => spansL (dc : Int) (ls dc)
theorem wholeK_succ (ls : Nat → List (Int × Int)) (k : Nat) : wholeK ls (k + 1) = wholeK ls k ++ spansL (k : Int) (ls k) := by
  unfold wholeK; rw [List.range_succ, List.flatMap_append]; simp
theorem wholeK_len (ls : Nat → List (Int × Int)) (n : Nat) (h : ∀ i, i < 4 → (ls i).length ≤ n) : ∀ k, k ≤ 4 → (wholeK ls k).length ≤ k * n
  | 0, _ => by simp [wholeK]
  | k + 1, hk => by
    rw [wholeK_succ, List.length_append, Nat.add_mul]
    have := wholeK_len ls n h k (by omega)
    have h2 := h k (by omega)
    unfold spansL; rw [List.length_map]; omega

set_option maxHeartbeats 4000000 in
theorem whole_any (ls : Nat → List (Int × Int)) (vs : Nat → Value) (w : World) (h : ∀ i, i < 4 → SlP w w.heap.size 2 RuE (vs i) (ls i)) (hN : ∀ i, i < 4 → (ls i).length ≤ 200000) :
    Calls Try.prog 53 #[.agg #[vs 0, vs 1, vs 2, vs 3]] w (RetO w 86 3 (fun _ => SpE) (wholeK ls 4)) := by
  obtain ⟨A0, m0, g0, _⟩ := h 0 (by omega)
  obtain ⟨A1, m1, g1, _⟩ := h 1 (by omega)
  obtain ⟨A2, m2, g2, _⟩ := h 2 (by omega)
  obtain ⟨A3, m3, g3, _⟩ := h 3 (by omega)
  have G0 := hid g0
  have G1 := hid g1
  have G2 := hid g2
  have G3 := hid g3
  have H := hid h
  simp only [g0, g1, g2, g3]
  clear g0 g1 g2 g3 h
  go_enter Try.func53, Try.ntmps53
  go_wp2_with fail
  go_loopw [3, 9] (fun v i wr => ∃ k : Nat, k ≤ 4 ∧ i = .int .i64 k ∧ OwnP wr (w.heap.size + 1) 86 3 SpE v (wholeK ls k) ∧ Below w.heap.size w wr) (fun _ i _ => 4 - (intOf i).toNat)
  case atStart => exact ⟨0, Nat.zero_le _, rfl, OwnP.nil, (Below.refl _ _).alloc (Nat.le_refl _) _⟩
  case round =>
    obtain ⟨k, hk, rfl, hown, hb⟩ := hrel
    have hsz := hb.size
    by_cases hlt : k < 4
    · obtain ⟨A, n, gv, b1, b2, b3⟩ := H.out k hlt
      have hNk := hN k hlt
      have hidx : ∀ w, (Instr.index 78 (.agg #[.slice A0 (ls 0).length m0, .slice A1 (ls 1).length m1, .slice A2 (ls 2).length m2, .slice A3 (ls 3).length m3]) (.int .i64 (k : Int))).run Try.prog w = .ok (.slice A (ls k).length n) w := fun w => by
        rw [← gv]
        match k, hlt with
        | 0, _ => rw [G0.out]; rfl
        | 1, _ => rw [G1.out]; rfl
        | 2, _ => rw [G2.out]; rfl
        | 3, _ => rw [G3.out]; rfl
      have hkl : decide ((k : Int) < 4) = true := by simp; omega
      have HK := hid (wholeK_succ ls k)
      have hwl := wholeK_len ls 200000 hN k hk
      have hwl2 : (wholeK ls k).length ≤ 600000 := by omega
      clear gv hwl
      unfold Big at b2
      go_wp2_with fail
      obtain ⟨wo, rfl⟩ : ∃ wo : World, wo = wr := ⟨_, rfl⟩
      go_loopw [3, 15] (fun v i wr => ∃ j : Nat, j ≤ (ls k).length ∧ i = .int .i64 j ∧ OwnP wr (w.heap.size + 1) 86 3 SpE v (wholeK ls k ++ spansL (k : Int) ((ls k).take j)) ∧ Below w.heap.size w wr) (fun _ i _ => (ls k).length - (intOf i).toNat)
      case atStart => exact ⟨0, Nat.zero_le _, rfl, by simpa [spansL] using hown, hb⟩
      case round =>
        obtain ⟨j, hj, rfl, hown, hb⟩ := hrel
        have hsz := hb.size
        have hsz1 : w.heap.size + 1 ≤ wr.heap.size + 1 := by omega
        by_cases hjl : j < (ls k).length
        · obtain ⟨x, hx⟩ : ∃ x, (ls k)[j]? = some x := ⟨_, List.getElem?_eq_getElem hjl⟩
          obtain ⟨b, off, rfl, hbB, hc⟩ := b3 (by intro e; rw [e] at hjl; simp at hjl)
          obtain ⟨cs, ⟨rfl, hok⟩, _, hu⟩ := hc j _ hx
          have e0 : wr.cell? ⟨b, off + j * 2, none⟩ = some (.int .i64 x.1) := (hb.cell hbB).trans (hu 0 _ rfl)
          have e1 : wr.cell? ⟨b, off + j * 2 + 1, none⟩ = some (.int .i64 x.2) := (hb.cell hbB).trans (hu 1 _ rfl)
          have HX : Hid (wholeK ls k ++ spansL (k : Int) ((ls k).take (j + 1)) = (wholeK ls k ++ spansL (k : Int) ((ls k).take j)) ++ [⟨k, x.1, x.2⟩]) := by unfold Hid spansL; rw [take_succ' hx, List.map_append, List.append_assoc]; rfl
          have HL : Hid ((wholeK ls k ++ spansL (k : Int) ((ls k).take j)).length + [(⟨k, x.1, x.2⟩ : Sp)].length ≤ Few) := by
            unfold Hid Few spansL; simp; omega
          have J0 : Hid (SpE ⟨k, x.1, x.2⟩ [.int .i64 (k : Int), .int .i64 x.1, .int .i64 x.2]) := ⟨rfl, ⟨by show _ ≤ (k : Int); omega, by show (k : Int) ≤ _; omega⟩, hok.1, hok.2⟩
          clear hu hx hc b3 hok
          go_wp2_with (at_builtin; go_loud ((refine wpList_few rfl (.tmp 19) (.tmp 26) _ rfl eiSpan (by decide) (by decide) (fun _ _ h => h.one) rfl ((hown.alloc _).alloc _) rfl (SlP.one J0.out rfl _ (by simp)) HL.out (by rw [World.size_alloc, World.size_alloc]; omega) ?_); intro v1 w1 hown1 hb1 _))
          go_roundw
          case rel => exact ⟨j + 1, by omega, by go_num, by rw [HX.out]; exact hown1, (((hb.alloc hsz _).alloc (by rw [World.size_alloc]; omega) _).trans (hb1.mono (by omega)))⟩
          case measure => simp [intOf]; omega
        · obtain rfl : j = (ls k).length := by omega
          rw [List.take_of_length_le (Nat.le_refl _)] at hown
          go_wp2_with fail
          go_roundw
          case rel => exact ⟨k + 1, by omega, by go_num, by rw [HK.out]; exact hown, hb⟩
          case measure => simp [intOf]; omega
    · obtain rfl : k = 4 := by omega
      go_wp2_with fail
      go_ret
      exact ⟨_, rfl, hown.mono (by omega), hb⟩
end Go.Proofs.Ytililfcegeddaaa

namespace Go.Proofs.Ytililfcegeddaaa
open Go.RowKit
set_option maxRecDepth 100000

def hasC (c : List Sp) (d : Dt) : Bool := d.right && hasL (partL c d.dc) d.n
set_option maxHeartbeats 4000000 in
theorem r07has_any (c : List Sp) (d : Dt) (vc : Value) (w : World) (h : SlP w w.heap.size 3 SpE vc c) (hN : c.length ≤ 999999) :
    Calls Try.prog 35 #[vc, .agg #[.int .i64 d.dc, .int .i64 d.n]] w fun e w' => e = .returned (.bool (hasC c d)) ∧ Below w.heap.size w w' := by
  have HB : Hid (∀ w', Below (w.heap.size + 1) (w.alloc (.cells #[.int .i64 d.dc, .int .i64 d.n] 27)) w' → Below w.heap.size w w' ∧ w'.cell? ⟨w.heap.size, 0, none⟩ = some (.int .i64 d.dc) ∧ w'.cell? ⟨w.heap.size, 1, none⟩ = some (.int .i64 d.n)) := fun w' hb =>
    ⟨((Below.refl _ w).alloc (Nat.le_refl _) _).trans (hb.mono (by omega)), by rw [hb.cell (p := ⟨w.heap.size, 0, none⟩) (by simp)]; simp, by rw [hb.cell (p := ⟨w.heap.size, 1, none⟩) (by simp)]; simp⟩
  have HC : Hid (∀ w', Below w.heap.size w w' → SlP w' w'.heap.size 3 SpE vc c) := fun w' hb => h.imp hb hb.size (fun _ _ _ h => h)
  obtain ⟨A, n, rfl, _, _, _⟩ := h
  go_enter Try.func35, Try.ntmps35
  rcases hr : d.right
  · have f0 := far_cell (B := w.heap.size + 1) (HB.out _ (Below.refl _ _)).2.1 (by omega)
    have f1 := far_cell (B := w.heap.size + 1) (HB.out _ (Below.refl _ _)).2.2 (by omega)
    go_upto_region 1 with (fail)
    refine wp_region_far (w.heap.size + 1) (by kernel_rfl) (by kernel_rfl) ?_
    repeat (go_big_quiet_step ((go_at_call 34; exact Calls.far_of (by simp) (hr ▸ r05right_any d _))))
    refine wpQuiet_nil ?_
    intro wq hbq
    go_wp2_with fail
    go_ret
    exact ⟨ret_bool (by rw [hasC, hr]; rfl), (HB.out _ hbq).1⟩
  · go_upto_region 1 with (fail)
    go_region_held3 (fun w' => w'.cell? ⟨w.heap.size, 0, none⟩ = some (.int .i64 d.dc) ∧ w'.cell? ⟨w.heap.size, 1, none⟩ = some (.int .i64 d.n))
      (first | go_keep | exact (HB.out _ hb2).2 | exact (HB.out _ hb1).2)
      (first | (go_at_call 34; refine (r05right_any d _).mono ?_; rw [hr]; rintro e w1 ⟨rfl, hb⟩; have hb1 : Below (w.heap.size + 1) (w.alloc (.cells #[.int .i64 d.dc, .int .i64 d.n] 27)) w1 := ((Below.refl _ _).drew).trans (hb.mono (by simp)))
             | (go_at_call 55; go_loud ((refine (r07part_any c d.dc _ w1 (HC.out _ (HB.out _ hb1).1) hN).mono ?_); rintro e w2 ⟨vp, rfl, ho, hb'⟩; have hb2 := hb1.trans (hb'.mono (by have := hb1.size; simpa using this)); have hsl := ho.sl (by have := partL_len c d.dc; unfold Big; omega)))
             | (go_at_call 54; go_loud ((refine (r06has_any (partL c d.dc) d.n _ w2 _ hsl).mono ?_); rintro e w3 ⟨rfl, rfl⟩)))
    go_wp2_with fail
    go_ret
    exact ⟨ret_bool (by rw [hasC, hr]; rfl), (HB.out _ hb2).1⟩
end Go.Proofs.Ytililfcegeddaaa

namespace Go.Proofs.Ytililfcegeddaaa
open Go.RowKit
set_option maxRecDepth 100000

mutual
def Tr.lvs : Tr → List ByteArray → List Lf
  | .mk es ks, p => es.map (fun e => (p, e)) ++ Tr.lvsL ks p
def Tr.lvsL : List (ByteArray × Tr) → List ByteArray → List Lf
  | [], _ => []
  | (k, t) :: ks, p => t.lvs (p ++ [k]) ++ Tr.lvsL ks p
end
mutual
theorem lvs_len : ∀ (t : Tr) (p : List ByteArray), (t.lvs p).length ≤ t.sz
  | .mk es ks, p => by rw [Tr.lvs, Tr.sz]; have := lvsL_len ks p; simp; omega
theorem lvsL_len : ∀ (ks : List (ByteArray × Tr)) (p : List ByteArray), (Tr.lvsL ks p).length ≤ Tr.szL ks
  | [], p => by simp [Tr.lvsL]
  | (k, t) :: ks, p => by rw [Tr.lvsL, Tr.szL]; have := lvs_len t (p ++ [k]); have := lvsL_len ks p; simp; omega
end
theorem lvsL_take {ks : List Kd} {k : Nat} {x : Kd} (h : ks[k]? = some x) (p : List ByteArray) : Tr.lvsL (ks.take (k + 1)) p = Tr.lvsL (ks.take k) p ++ x.2.lvs (p ++ [x.1]) := by
  induction ks generalizing k with
  | nil => simp at h
  | cons y ks ih =>
    obtain ⟨yk, yt⟩ := y
    cases k with
    | zero => simp at h; subst h; simp [Tr.lvsL]
    | succ k => simp only [List.take_succ_cons]; rw [Tr.lvsL, Tr.lvsL, ih (by simpa using h), List.append_assoc]

set_option maxHeartbeats 4000000 in
theorem r08below_any (t : Tr) : ∀ (p : List ByteArray) (okp : Nat → Prop) (w : World) (ve vk vp : Value), t.rd w w.heap.size ve vk → SlA w okp 1 StE vp p → (∀ b, okp b → b < w.heap.size) → p.length + t.sz ≤ 100000 →
    Calls Try.prog 66 #[.agg #[ve, vk], vp] w (RetD w 60 5 LfA okp (t.lvs p)) := by
  induction t using Tr.ind with
  | h es ks ih =>
  intro p okp w ve vk vp h hp hok0 hN
  rw [rd_iff] at h
  obtain ⟨⟨A1, n, rfl, b1, b2, b3⟩, ⟨A2, m, rfl, c1, c2, c3⟩⟩ := h
  obtain ⟨A5, n5, rfl, p1, p2, p3⟩ := hp
  have hp : SlA w okp 1 StE (.slice A5 p.length n5) p := ⟨A5, n5, rfl, p1, p2, p3⟩
  have hpP : SlP w w.heap.size 1 StE (.slice A5 p.length n5) p := hp.up (fun _ _ => rfl) hok0 fun _ _ _ h => h
  unfold Big at b2 c2
  rw [Tr.sz] at hN
  have hkl := szL_len ks
  clear p3 p2
  go_enter Try.func66, Try.ntmps66
  go_wp2_with fail
  go_loopw [5, 12] (fun v i wr => ∃ k : Nat, k ≤ es.length ∧ i = .int .i64 k ∧ OwnD wr (w.heap.size + 1) 60 5 LfA (fun b => okp b ∨ w.heap.size ≤ b) v ((es.take k).map fun e => (p, e)) ∧
      Below (w.heap.size + 1) (w.alloc (.cells #[.slice A1 es.length n, .slice A2 ks.length m] 25)) wr) (fun _ i _ => es.length - (intOf i).toNat)
  case atStart => exact ⟨0, Nat.zero_le _, rfl, OwnD.nil, Below.refl _ _⟩
  case round =>
    obtain ⟨k, hk, rfl, hown, hb⟩ := hrel
    have hsz := hb.size
    simp only [World.size_alloc] at hsz
    have hB0 : Below w.heap.size w wr := ((Below.refl _ w).alloc (Nat.le_refl _) _).trans (hb.mono (by omega))
    have hw0 : wr.cell? ⟨w.heap.size, 0, none⟩ = some (.slice A1 es.length n) := by rw [hb.cell (p := ⟨w.heap.size, 0, none⟩) (by simp)]; simp
    have hw1 : wr.cell? ⟨w.heap.size, 1, none⟩ = some (.slice A2 ks.length m) := by rw [hb.cell (p := ⟨w.heap.size, 1, none⟩) (by simp)]; simp
    by_cases hlt : k < es.length
    · obtain ⟨x, hx⟩ : ∃ x, es[k]? = some x := ⟨_, List.getElem?_eq_getElem hlt⟩
      obtain ⟨b, off, rfl, hbB, hc⟩ := b3 (by rintro rfl; simp at hlt)
      obtain ⟨cs, ⟨rfl, hok⟩, _, hu⟩ := hc k _ hx
      have e0 : wr.cell? ⟨b, off + k * 4, none⟩ = some (.int .i64 x.dc) := (hB0.cell hbB).trans (hu 0 _ rfl)
      have e1 : wr.cell? ⟨b, off + k * 4 + 1, none⟩ = some (.int .i64 x.n) := (hB0.cell hbB).trans (hu 1 _ rfl)
      have e2 : wr.cell? ⟨b, off + k * 4 + 2, none⟩ = some (.string x.s) := (hB0.cell hbB).trans (hu 2 _ rfl)
      have e3 : wr.cell? ⟨b, off + k * 4 + 3, none⟩ = some (.int .i64 x.v) := (hB0.cell hbB).trans (hu 3 _ rfl)
      have HX : Hid (((es.take (k + 1)).map fun e => (p, e)) = ((es.take k).map fun e => (p, e)) ++ [(p, x)]) := by
        unfold Hid; rw [List.take_add_one, hx]; simp
      have HL : Hid (((es.take k).map fun e => (p, e)).length + [(p, x)].length ≤ Few) := by unfold Hid Few; simp; omega
      have HO : Hid (∀ o, SlP (wr.alloc (.cells [.slice A5 p.length n5, .int .i64 x.dc, .int .i64 x.n, .string x.s, .int .i64 x.v].toArray o)) (wr.alloc (.cells [.slice A5 p.length n5, .int .i64 x.dc, .int .i64 x.n, .string x.s, .int .i64 x.v].toArray o)).heap.size 5 (LfA (wr.alloc (.cells [.slice A5 p.length n5, .int .i64 x.dc, .int .i64 x.n, .string x.s, .int .i64 x.v].toArray o)) (fun b => (okp b ∨ w.heap.size ≤ b) ∧ b < (wr.alloc (.cells [.slice A5 p.length n5, .int .i64 x.dc, .int .i64 x.n, .string x.s, .int .i64 x.v].toArray o)).heap.size ∧ u5.ownBlock ≠ some b)) (.slice (some ⟨wr.heap.size, 0, none⟩) 1 1) [(p, x)]) := fun o => by
        rw [World.size_alloc]
        refine SlP.one (E := LfA _ _) (x := (p, x)) ⟨A5, n5, rfl, ?_, hok⟩ rfl o rfl
        refine (hp.up (fun b hb' => ((hB0.alloc (by omega) _).block b (hok0 b hb'))) (fun b hb' => ⟨.inl hb', by have h1 := hok0 b hb'; omega, fun e => ?_⟩) fun _ _ _ h => h)
        have := (OwnP.lt hown b e).1; have h1 := hok0 b hb'; omega
      clear hu hx hc b3 hok
      go_wp2_with (at_builtin; with_reducible refine wpList_d rfl (.tmp 15) (.tmp 23) _ rfl LfA.mon eiLeaf (by decide) (by decide) rfl (hown.grow LfA.mon ((Below.refl _ _).alloc (Nat.le_refl _) _)) rfl (HO.out _) HL.out (by rw [World.size_alloc]; omega) ?_; intro v1 w1 hown1 hb1 _ _)
      go_roundw
      case rel => exact ⟨k + 1, by omega, by go_num, by rw [HX.out]; exact hown1, (hb.alloc (by omega) _).trans hb1⟩
      case measure => simp [intOf]; omega
    · obtain rfl : k = es.length := by omega
      rw [List.take_of_length_le (Nat.le_refl _)] at hown
      go_wp2_with fail
      clear hw0 hw1 hB0 hsz
      obtain ⟨wo, rfl⟩ : ∃ wo : World, wo = wr := ⟨_, rfl⟩
      go_loopw [5, 29] (fun v i wr => ∃ k : Nat, k ≤ ks.length ∧ i = .int .i64 k ∧ OwnD wr (w.heap.size + 1) 60 5 LfA (fun b => okp b ∨ w.heap.size ≤ b) v (es.map (fun e => (p, e)) ++ Tr.lvsL (ks.take k) p) ∧
          Below (w.heap.size + 1) (w.alloc (.cells #[.slice A1 es.length n, .slice A2 ks.length m] 25)) wr) (fun _ i _ => ks.length - (intOf i).toNat)
      case atStart => exact ⟨0, Nat.zero_le _, rfl, by simpa [Tr.lvsL] using hown, hb⟩
      case round =>
        clear hown hb
        obtain ⟨k, hk, rfl, hown, hb⟩ := hrel
        have hsz := hb.size
        simp only [World.size_alloc] at hsz
        have hB0 : Below w.heap.size w wr := ((Below.refl _ w).alloc (Nat.le_refl _) _).trans (hb.mono (by omega))
        have hw1 : wr.cell? ⟨w.heap.size, 1, none⟩ = some (.slice A2 ks.length m) := by rw [hb.cell (p := ⟨w.heap.size, 1, none⟩) (by simp)]; simp
        by_cases hlt : k < ks.length
        · obtain ⟨⟨key, t⟩, hx⟩ : ∃ x, ks[k]? = some x := ⟨_, List.getElem?_eq_getElem hlt⟩
          obtain ⟨b, off, rfl, hbB, hc⟩ := c3 (by rintro rfl; simp at hlt)
          obtain ⟨cs, ⟨ve', vk', rfl, hkb, hrd⟩, _, hu⟩ := hc k _ hx
          obtain ⟨A3, n3, A4, n4, rfl, rfl⟩ := rd_shape hrd
          have e0 : wr.cell? ⟨b, off + k * 3, none⟩ = some (.string key) := (hB0.cell hbB).trans (hu 0 _ rfl)
          have hmem : (key, t) ∈ ks := List.mem_of_getElem? hx
          have hsm := szL_mem hmem
          have hst := szL_take hx
          have hsl := szL_le (ks := ks) (k + 1)
          have HX : Hid (es.map (fun e => (p, e)) ++ Tr.lvsL (ks.take (k + 1)) p = es.map (fun e => (p, e)) ++ Tr.lvsL (ks.take k) p ++ t.lvs (p ++ [key])) := by unfold Hid; rw [lvsL_take hx, List.append_assoc]
          have HL : Hid ((es.map (fun e => (p, e)) ++ Tr.lvsL (ks.take k) p).length + (t.lvs (p ++ [key])).length ≤ Few) := by
            have h1 := lvsL_len (ks.take k) p
            have h2 := lvs_len t (p ++ [key])
            unfold Hid Few; simp; simp at hst; omega
          have HC1 : Hid (∀ w', Below w.heap.size w w' → w'.cell? ⟨b, off + k * 3 + 1, none⟩ = some (.slice A3 t.es.length n3) ∧ w'.cell? ⟨b, off + k * 3 + 2, none⟩ = some (.slice A4 t.ks.length n4)) := fun w' hb' => ⟨(hb'.cell hbB).trans (hu 1 _ rfl), (hb'.cell hbB).trans (hu 2 _ rfl)⟩
          have HR : Hid (∀ w', Below w.heap.size w w' → t.rd w' w'.heap.size (.slice A3 t.es.length n3) (.slice A4 t.ks.length n4)) := fun w' hb' => rd_below hb' hb'.size _ _ _ hrd
          have HP : Hid (SlP wr wr.heap.size 1 StE (.slice A5 p.length n5) p) := hpP.imp hB0 (by omega) fun _ _ _ h => h
          have HS : Hid (∀ w', Below wr.heap.size wr w' → w'.cell? ⟨w.heap.size, 1, none⟩ = some (.slice (some ⟨b, off, none⟩) ks.length m) ∧ w'.cell? ⟨b, off + k * 3, none⟩ = some (.string key)) := fun w' hb' => ⟨(hb'.cell (p := ⟨w.heap.size, 1, none⟩) (by exact hsz)).trans hw1, (hb'.cell (p := ⟨b, off + k * 3, none⟩) (by show b < _; omega)).trans e0⟩
          have hpl : p.length ≤ 100000 := by omega
          have hts : p.length + 1 + t.sz ≤ 100000 := by omega
          clear hu hx hc c3 hrd hst hsl
          go_upto_region 10 with (fail)
          go_cut [8] (fun vq wc => OwnP wc wr.heap.size 9 1 StE vq (p ++ [key]) ∧ Below wr.heap.size wr wc)
          case first =>
            go_region_held3 (fun w' => w'.cell? ⟨w.heap.size, 1, none⟩ = some (.slice (some ⟨b, off, none⟩) ks.length m) ∧ w'.cell? ⟨b, off + k * 3, none⟩ = some (.string key))
              (first | go_keep | exact HS.out _ hq42 | exact HS.out _ hq34 | exact HS.out _ (hq34.alloc (by omega) _))
              (first
                | (refine step_few (v := .slice (some ⟨_, 0, none⟩) 0 0) rfl (.tmp 32) (.tmp 33) _ rfl eiStr (by decide) (by decide) (fun _ _ h => StE.one h) rfl (OwnP.empty (base := wr.heap.size) (by first | exact heap_new rfl | exact (heap_old (by simp)).trans (heap_new rfl) | exact heap_new (by simp)) (by omega)) rfl (HP.out.imp (by go_grown) (Nat.le_refl _) fun _ _ _ h => h) (by unfold Few; simp; omega) (by first | (simp; done) | (simp; omega)) ?_; intro v34 w34 hown34 hb34 hg34; have hs34 := hb34.size; simp only [World.size_drew, World.size_alloc] at hs34; have hq34 : Below wr.heap.size wr w34 := Below.trans (by go_grown) hb34)
                | (refine step_few rfl (.tmp 34) (.tmp 41) _ rfl eiStr (by decide) (by decide) (fun _ _ h => StE.one h) rfl (by first | exact hown34.alloc _ | exact hown34) rfl (by first | exact SlP.one (x := key) (cs := [.string key]) ⟨rfl, hkb⟩ rfl _ rfl | exact SlP.at1 (B := w34.heap.size) ((World.cell?_of_block (hg34.block _ (by simp only [World.size_drew, World.size_alloc]; omega) (by simp [Value.ownBlock]))).trans (by first | (simp; done) | (rw [World.cell?_drew, World.cell?_alloc_at _ _ _ _ (by simp)]; rfl))) hkb (by omega)) (by unfold Few; simp; omega) (by first | (simp; omega) | omega) ?_; intro v42 w42 hown42 hb42 hg42; have hq42 : Below wr.heap.size wr w42 := (by first | exact hq34.trans hb42 | exact (hq34.alloc (by omega) _).trans hb42)))
            all_goals
              go_wp2_with fail
              go_meet
              case rel => exact ⟨by simpa using hown42, hq42⟩
          case rest =>
            obtain ⟨hvq, hbq⟩ := hcut
            have hsq := hbq.size
            have hBq : Below w.heap.size w wc := hB0.trans (hbq.mono (by omega))
            obtain ⟨hw2, _⟩ := HS.out wc hbq
            obtain ⟨e1, e2⟩ := HC1.out wc hBq
            have HRq := hid (HR.out wc hBq)
            have HVq : Hid (SlA wc (fun b => wr.heap.size ≤ b ∧ b < wc.heap.size) 1 StE u8 (p ++ [key])) := (hvq.sla (by unfold Big; simp; omega)).up (fun _ _ => rfl) (fun _ h => ⟨h.1, h.2.1⟩) fun _ _ _ h => h
            clear hvq hw1 e0
            go_wp2_with fail
            refine (ih key t hmem (p ++ [key]) _ wc _ _ u8 HRq.out HVq.out (fun _ h => h.2) (by simp; omega)).mono ?_
            rintro e w2 ⟨v2, rfl, hv2, hb2⟩
            have hs2 := hb2.size
            have HO2 : Hid (SlP w2 w2.heap.size 5 (LfA w2 (fun b => (okp b ∨ w.heap.size ≤ b) ∧ b < w2.heap.size ∧ u5.ownBlock ≠ some b)) v2 (t.lvs (p ++ [key]))) := by
              refine (hv2.sl LfA.mon (by have := lvs_len t (p ++ [key]); unfold Big; omega)).imp (Below.refl _ _) (Nat.le_refl _) fun x _ cs hx => LfA.mon.up (fun _ _ => rfl) (fun b hb => ?_) hx
              have h1 : wr.heap.size ≤ b := by rcases hb.1 with h | h <;> omega
              refine ⟨.inr (by omega), hb.2, fun e => ?_⟩
              have := (OwnD.lt hown b e).2
              omega
            clear hv2
            go_wp2_with (at_builtin; go_loud (refine wpList_d rfl (.tmp 43) (.tmp 51) _ rfl LfA.mon eiLeaf (by decide) (by decide) rfl (hown.grow LfA.mon (hbq.trans (hb2.mono hsq))) rfl HO2.out HL.out (by omega) ?_); intro v1 w1 hown1 hb1 _ _)
            go_roundw
            case rel => exact ⟨k + 1, by omega, by go_num, by rw [HX.out]; exact hown1, ((hb.trans (hbq.mono (by omega))).trans (hb2.mono (by omega))).trans hb1⟩
            case measure => simp [intOf]; omega
        · obtain rfl : k = ks.length := by omega
          rw [List.take_of_length_le (Nat.le_refl _)] at hown
          go_wp2_with fail
          go_ret
          exact ⟨_, rfl, by rw [Tr.lvs]; exact hown.mono (by omega), ((Below.refl _ w).alloc (Nat.le_refl _) _).trans (hb.mono (by omega))⟩

end Go.Proofs.Ytililfcegeddaaa

namespace Go.Proofs.Ytililfcegeddaaa
open Go.RowKit
set_option maxRecDepth 100000

mutual
def Tr.dots : Tr → List Dt
  | .mk es ks => es.map En.dot ++ Tr.dotsL ks
def Tr.dotsL : List (ByteArray × Tr) → List Dt
  | [] => []
  | (_, t) :: ks => t.dots ++ Tr.dotsL ks
end
theorem dotsL_take {ks : List Kd} {k : Nat} {x : Kd} (h : ks[k]? = some x) : Tr.dotsL (ks.take (k + 1)) = Tr.dotsL (ks.take k) ++ x.2.dots := by
  induction ks generalizing k with
  | nil => simp at h
  | cons y ks ih =>
    obtain ⟨yk, yt⟩ := y
    cases k with
    | zero => simp at h; subst h; simp [Tr.dotsL]
    | succ k => simp only [List.take_succ_cons]; rw [Tr.dotsL, Tr.dotsL, ih (by simpa using h), List.append_assoc]
theorem dotsL_len {ks : List Kd} (k : Nat) : (Tr.dotsL (ks.take k)).length ≤ (Tr.dotsL ks).length := by
  induction ks generalizing k with
  | nil => simp
  | cons y ks ih =>
    obtain ⟨yk, yt⟩ := y
    cases k with
    | zero => simp [Tr.dotsL]
    | succ k => simp only [List.take_succ_cons]; rw [Tr.dotsL, Tr.dotsL]; have := ih k; simp; omega

set_option maxHeartbeats 1000000 in
theorem tall_any (t : Tr) : ∀ (w : World) (ve vk : Value), t.rd w w.heap.size ve vk → t.dots.length ≤ 1000000 →
    Calls Try.prog 62 #[.agg #[ve, vk]] w (RetO w 27 2 (fun _ => DtE) t.dots) := by
  induction t using Tr.ind with
  | h es ks ih =>
  intro w ve vk h hN
  rw [rd_iff] at h
  obtain ⟨⟨A1, n, rfl, b1, b2, b3⟩, ⟨A2, m, rfl, c1, c2, c3⟩⟩ := h
  unfold Big at b2 c2
  rw [Tr.dots, List.length_append, List.length_map] at hN
  go_enter Try.func62, Try.ntmps62
  go_wp2_with fail
  go_loopw [3, 11] (fun v i wr => ∃ k : Nat, k ≤ es.length ∧ i = .int .i64 k ∧ OwnP wr (w.heap.size + 1) 27 2 DtE v ((es.take k).map En.dot) ∧
      Below (w.heap.size + 1) (w.alloc (.cells #[.slice A1 es.length n, .slice A2 ks.length m] 25)) wr) (fun _ i _ => es.length - (intOf i).toNat)
  case atStart => exact ⟨0, Nat.zero_le _, rfl, OwnP.nil, Below.refl _ _⟩
  case round =>
    obtain ⟨k, hk, rfl, hown, hb⟩ := hrel
    have hsz := hb.size
    simp only [World.size_alloc] at hsz
    have hl1 : ((es.take k).map En.dot).length = k := by simp; omega
    by_cases hlt : k < es.length
    · obtain ⟨x, hx⟩ : ∃ x, es[k]? = some x := ⟨_, List.getElem?_eq_getElem hlt⟩
      obtain ⟨b, off, rfl, hbB, hc⟩ := b3 (by rintro rfl; simp at hlt)
      obtain ⟨cs, ⟨rfl, hok⟩, _, hu⟩ := hc k _ hx
      have hbo : ∀ o, wr.cell? ⟨b, o, none⟩ = w.cell? ⟨b, o, none⟩ := fun o => (hb.cell (p := ⟨b, o, none⟩) (by simp; omega)).trans (World.cell?_alloc_lt _ _ _ hbB)
      have e0 : wr.cell? ⟨b, off + k * 4, none⟩ = some (.int .i64 x.dc) := (hbo _).trans (hu 0 _ rfl)
      have e1 : wr.cell? ⟨b, off + k * 4 + 1, none⟩ = some (.int .i64 x.n) := (hbo _).trans (hu 1 _ rfl)
      have e2 : wr.cell? ⟨b, off + k * 4 + 2, none⟩ = some (.string x.s) := (hbo _).trans (hu 2 _ rfl)
      have e3 : wr.cell? ⟨b, off + k * 4 + 3, none⟩ = some (.int .i64 x.v) := (hbo _).trans (hu 3 _ rfl)
      have hd : x.dot.Ok := ⟨hok.dc, hok.n⟩
      have HX : Hid ((es.take (k + 1)).map En.dot = (es.take k).map En.dot ++ [x.dot]) := by
        unfold Hid; rw [List.take_add_one, hx]; simp
      have HL : Hid (((es.take k).map En.dot).length + [x.dot].length ≤ Few) := by unfold Hid Few; rw [hl1]; simp; omega
      clear hu hbo hx hc b3 hok hl1
      have HB : Hid (w.heap.size + 1 ≤ wr.heap.size + 1 + 1) := by unfold Hid; omega
      go_wp2_with (at_builtin; go_loud (refine wpList_few rfl (.tmp 15) (.tmp 18) _ rfl eiDot (by decide) (by decide) (fun _ _ h => h.one) rfl ((hown.alloc _).alloc _) rfl (SlP.one (x := x.dot) (cs := [.int .i64 x.dc, .int .i64 x.n]) ⟨rfl, hd⟩ rfl _ (World.size_alloc _ _).symm) HL.out (by rw [World.size_alloc, World.size_alloc]; exact HB.out) ?_); intro v1 w1 hown1 hb1 _)
      go_roundw
      case rel =>
        refine ⟨k + 1, by omega, by go_num, by rw [HX.out]; exact hown1, ((hb.alloc (by omega) _).alloc (by simp; omega) _).trans hb1⟩
      case measure => simp [intOf]; omega
    · obtain rfl : k = es.length := by omega
      clear hl1
      rw [List.take_of_length_le (Nat.le_refl _)] at hown
      have hw1 : wr.cell? ⟨w.heap.size, 1, none⟩ = some (.slice A2 ks.length m) := by rw [hb.cell (p := ⟨w.heap.size, 1, none⟩) (by simp)]; simp
      go_wp2_with fail
      obtain ⟨wo, rfl⟩ : ∃ wo : World, wo = wr := ⟨_, rfl⟩
      go_loopw [3, 24] (fun v i wr => ∃ k : Nat, k ≤ ks.length ∧ i = .int .i64 k ∧ OwnP wr (w.heap.size + 1) 27 2 DtE v (es.map En.dot ++ Tr.dotsL (ks.take k)) ∧
          Below (w.heap.size + 1) (w.alloc (.cells #[.slice A1 es.length n, .slice A2 ks.length m] 25)) wr) (fun _ i _ => ks.length - (intOf i).toNat)
      case atStart => exact ⟨0, Nat.zero_le _, rfl, by simpa [Tr.dotsL] using hown, hb⟩
      case round =>
        obtain ⟨k, hk, rfl, hown, hb⟩ := hrel
        clear hw1
        have hsz := hb.size
        simp only [World.size_alloc] at hsz
        by_cases hlt : k < ks.length
        · obtain ⟨⟨key, t⟩, hx⟩ : ∃ x, ks[k]? = some x := ⟨_, List.getElem?_eq_getElem hlt⟩
          obtain ⟨b, off, rfl, hbB, hc⟩ := c3 (by rintro rfl; simp at hlt)
          obtain ⟨cs, ⟨ve', vk', rfl, hkb, hrd⟩, _, hu⟩ := hc k _ hx
          obtain ⟨A3, n3, A4, n4, rfl, rfl⟩ := rd_shape hrd
          have hbo : ∀ o, wr.cell? ⟨b, o, none⟩ = w.cell? ⟨b, o, none⟩ := fun o => (hb.cell (p := ⟨b, o, none⟩) (by simp; omega)).trans (World.cell?_alloc_lt _ _ _ hbB)
          have e0 : wr.cell? ⟨b, off + k * 3, none⟩ = some (.string key) := (hbo _).trans (hu 0 _ rfl)
          have e1 : wr.cell? ⟨b, off + k * 3 + 1, none⟩ = some (.slice A3 t.es.length n3) := (hbo _).trans (hu 1 _ rfl)
          have e2 : wr.cell? ⟨b, off + k * 3 + 2, none⟩ = some (.slice A4 t.ks.length n4) := (hbo _).trans (hu 2 _ rfl)
          have hmem : (key, t) ∈ ks := List.mem_of_getElem? hx
          have hB0 : Below w.heap.size w wr := ((Below.refl _ w).alloc (Nat.le_refl _) _).trans (hb.mono (by omega))
          have HR : Hid (∀ o, t.rd (wr.alloc o) (wr.alloc o).heap.size (.slice A3 t.es.length n3) (.slice A4 t.ks.length n4)) := fun o => rd_below (hB0.alloc (by omega) _) (by simp; omega) _ _ _ hrd
          have hdl := dotsL_take hx
          have hln := dotsL_len (ks := ks) (k + 1)
          have HX : Hid (es.map En.dot ++ Tr.dotsL (ks.take (k + 1)) = es.map En.dot ++ Tr.dotsL (ks.take k) ++ t.dots) := by unfold Hid; rw [hdl, List.append_assoc]
          have HL : Hid ((es.map En.dot ++ Tr.dotsL (ks.take k)).length + t.dots.length ≤ Few) := by
            unfold Hid Few; rw [hdl] at hln; simp at hln ⊢; omega
          have hu1 : t.dots.length ≤ 1000000 := by have := HL.out; unfold Few at this; omega
          clear hu hbo hx hc c3 hrd hdl hln
          go_wp2_with (first
            | (go_at_call 62; refine (ih key t hmem _ _ _ (HR.out _) hu1).mono ?_; rintro e w2 ⟨v2, rfl, hv2, hb2⟩; have hs2 := hb2.size; simp only [World.size_alloc] at hs2)
            | (at_builtin; refine wpList_few rfl (.tmp 28) (.tmp 31) _ rfl eiDot (by decide) (by decide) (fun _ _ h => h.one) rfl ((hown.alloc _).grow hb2) rfl (hv2.sl (by unfold Big; omega)) HL.out (by omega) ?_; intro v1 w1 hown1 hb3 _))
          go_roundw
          case rel =>
            refine ⟨k + 1, by omega, by go_num, by rw [HX.out]; exact hown1, ((hb.alloc (by omega) _).trans (hb2.mono (by simp; omega))).trans hb3⟩
          case measure => simp [intOf]; omega
        · obtain rfl : k = ks.length := by omega
          rw [List.take_of_length_le (Nat.le_refl _)] at hown
          go_wp2_with fail
          go_ret
          have hz := hown.mono (Nat.le_succ w.heap.size)
          refine ⟨_, rfl, by rw [Tr.dots]; exact hz, ((Below.refl _ w).alloc (Nat.le_refl _) _).trans (hb.mono (by omega))⟩
end Go.Proofs.Ytililfcegeddaaa

namespace Go.Proofs.Ytililfcegeddaaa
open Go.RowKit
set_option maxRecDepth 100000

/-- A row of one element, just laid. -/
theorem OwnP.fresh1 {α : Type} {w : World} {base n : Nat} {e : TypeId} {sz : Nat} {E : α → List Value → Prop} {x : α} {cs : List Value} (hE : E x cs) (hl : cs.length = sz) (h : w.heap[n]? = some (.cells cs.toArray e (0, 0))) (hb : base ≤ n) : OwnP w base e sz E (.slice (some ⟨n, 0, none⟩) 1 1) [x] := by
  subst hl
  refine ⟨[cs], ⟨rfl, fun j y hy => ?_⟩, by simp, .inr ⟨n, 1, cs.toArray, rfl, hb, h, Nat.le_refl _, by simp [maxLen], by simp, by simp⟩⟩
  match j, hy with
  | 0, hy => simp at hy; subst hy; exact ⟨cs, rfl, hE, rfl⟩
theorem r10one_any (d : Dt) (w : World) (h : d.Ok) :
    Calls Try.prog 40 #[.agg #[.int .i64 d.dc, .int .i64 d.n]] w (RetO w 86 3 (fun _ => SpE) [⟨d.dc, d.n, d.n⟩]) := by
  go_enter Try.func40, Try.ntmps40
  go_wp2_with fail
  go_ret
  exact ⟨_, rfl, OwnP.fresh1 (cs := [.int .i64 d.dc, .int .i64 d.n, .int .i64 d.n]) ⟨rfl, h.dc, h.n, h.n⟩ rfl (heap_new (by simp)) (by omega), ((Below.refl _ w).alloc (Nat.le_refl _) _).alloc (by simp) _⟩
end Go.Proofs.Ytililfcegeddaaa

namespace Go.Proofs.Ytililfcegeddaaa
open Go.RowKit

mutual
theorem room_sz : ∀ (t : Tr) (left deep : Int), 0 ≤ t.room left deep → (t.sz : Int) + t.room left deep ≤ left
  | .mk es ks, left, deep, h => by
    rw [Tr.room] at h ⊢
    have := roomL_sz ks _ deep h
    rw [Tr.sz]
    push_cast
    omega
theorem roomL_sz : ∀ (ks : List (ByteArray × Tr)) (left deep : Int), 0 ≤ Tr.roomL ks left deep → (Tr.szL ks : Int) - ks.length + Tr.roomL ks left deep ≤ left
  | [], left, deep, h => by rw [Tr.roomL] at h ⊢; simp [Tr.szL]
  | (k, t) :: ks, left, deep, h => by
    rw [Tr.roomL] at h ⊢
    split at h
    · omega
    · rename_i hc
      rw [if_neg hc]
      have h1 := roomL_sz ks _ deep h
      have hs := szL_len ks
      by_cases h2 : 0 ≤ t.room left (deep - 1)
      · have h3 := room_sz t left (deep - 1) h2
        rw [Tr.szL]; simp only [List.length_cons]; push_cast; omega
      · omega
end
/-- A small tree. -/
def smlB (t : Tr) (n : Int) : Bool := decide (0 ≤ t.room n 8)
theorem sml_sz {t : Tr} {n : Int} (h : smlB t n = true) : (t.sz : Int) ≤ n := by
  have h := of_decide_eq_true h
  have := room_sz t n 8 h
  omega
end Go.Proofs.Ytililfcegeddaaa

namespace Go.Proofs.Ytililfcegeddaaa
open Go.RowKit
set_option maxRecDepth 100000

def RetG (w : World) (e : Ending) (w' : World) : Prop := ∃ v, e = .returned v ∧ OwnP w' w.heap.size 107 2 RuE v [] ∧ Below w.heap.size w w'
set_option maxHeartbeats 2000000 in
theorem grow_any (n : Nat) (w : World) (hn : n ≤ 900000) : Calls Try.prog 120 #[.slice none 0 0, .int .i64 n] w (RetG w) := by
  rcases Nat.eq_zero_or_pos n with rfl | hp
  · go_enter Try.func120, Try.ntmps120
    go_wp2_with fail
    go_ret
    exact ⟨_, rfl, OwnP.nil, Below.refl _ _⟩
  · have ht := Try.underlying76
    obtain ⟨i, hi, hz, hs, hby⟩ := info_parts (show (Try.prog.info? 107).map (fun i => (i.zero, i.size, i.bytes)) = some (some (.agg #[.int .i64 0, .int .i64 0]), 2, 16) by kernel_rfl)
    have hold : (Builtin.firstCells i.size 0 (.slice none 0 0)).run Try.prog w.drew = .ok (#[] : Array Value) w.drew := run_firstCells_none w.drew i.size 0 0 0
    have hrz : ∀ ty, (Builtin.append_ #[76, 3] ty #[.slice none 0 0, .int .i64 (n : Int)]).run Try.prog w = .ok (.slice (some ⟨w.heap.size, 0, none⟩) n (grownCap w n 0 107)) (w.drew.alloc (.cells (#[] ++ Builtin.zeroCells #[.int .i64 0, .int .i64 0] n ++ Builtin.zeroCells #[.int .i64 0, .int .i64 0] (grownCap w n 0 107 - n)) 107)) := fun ty => by
      have h := Lib.run_append_grow_zeros w 76 3 ty 107 i (.agg #[.int .i64 0, .int .i64 0]) .i64 .i64 ht Try.underlying3 hi hz none 0 0 [] hold n hp (by omega) (by omega) (by omega) (by rw [hby]; omega) (by rw [hby, Nat.zero_add]; exact growslice_fits hp (by omega))
      simpa [Value.cells] using h
    have hge := grownCap_ge w n 0 107
    have hle := grownCap_le_maxLen w n 0 107 (by unfold maxLen; omega)
    generalize grownCap w n 0 107 = G at *
    have hG63 : G ≤ 9223372036854775807 := by unfold maxLen at hle; omega
    have HLE := hid hle
    clear hle hold ht hi hz hs hby
    go_enter Try.func120, Try.ntmps120
    go_wp2_with (at_builtin; refine Lib.wpList_append_run _ rfl _ _ _ _ rfl _ _ rfl rfl _ _ (hrz _) ?_)
    all_goals
      go_ret
      refine ⟨_, rfl, ⟨[], ⟨rfl, fun j x h => by simp at h⟩, by simp, .inr ⟨w.heap.size, G, _, rfl, Nat.le_refl _, heap_alloc_new _ _, Nat.zero_le _, HLE.out, ?_, by simp⟩⟩, ((Below.refl w.heap.size w).drew).alloc (Nat.le_refl _) _⟩
      simp [size_zeroCells]
      omega

/-- The first k of two lists, one behind the other. -/
def catK {α : Type} (a b : List α) : Nat → List α | 0 => [] | 1 => a | _ + 2 => a ++ b
set_option maxHeartbeats 4000000 in
theorem concat_any (a b : List (Int × Int)) (va vb : Value) (B : Nat) (w : World) (h0 : w.cell? ⟨B, 0, none⟩ = some va) (h1 : w.cell? ⟨B, 1, none⟩ = some vb) (hB : B < w.heap.size) (ha : SlP w w.heap.size 2 RuE va a) (hb : SlP w w.heap.size 2 RuE vb b) (hN : a.length ≤ 300000) (hN' : b.length ≤ 300000) :
    Calls Try.prog 102 #[.slice (some ⟨B, 0, none⟩) 2 2] w (RetO w 107 2 (fun _ => RuE) (a ++ b)) := by
  have HA := hid ha
  have HB := hid hb
  obtain ⟨A1, c1, rfl, _⟩ := ha
  obtain ⟨A2, c2, rfl, _⟩ := hb
  have hla : ((catK a b 2).length : Int) = a.length + b.length := by simp [catK]
  go_enter Try.func102, Try.ntmps102
  go_wp2_with fail
  go_loop [3, 11] (fun s i => ∃ k : Nat, k ≤ 2 ∧ i = .int .i64 k ∧ s = .int .i64 ((catK a b k).length : Nat)) (fun _ i => 2 - (intOf i).toNat)
  case atStart => exact ⟨0, by omega, rfl, rfl⟩
  case round =>
    obtain ⟨k, hk, rfl, rfl⟩ := hrel
    match k, hk with
    | 0, _ =>
      clear hla
      simp only [catK, List.length_nil]
      go_wp2_with fail
      go_round
      case rel => exact ⟨1, by omega, rfl, by simp⟩
      case measure => simp [intOf]
    | 1, _ =>
      clear hla
      simp only [catK]
      go_wp2_with fail
      go_round
      case rel => exact ⟨2, by omega, rfl, by simp⟩
      case measure => simp [intOf]
    | 2, _ =>
      obtain ⟨m, hm⟩ : ∃ m : Nat, m = (catK a b 2).length := ⟨_, rfl⟩
      rw [← hm] at hla ⊢
      have hm2 : m ≤ 600000 := by omega
      clear hla hm
      go_wp2_with fail
      refine (grow_any m w (by omega)).mono ?_
      rintro e w1 ⟨v1, rfl, ho1, hb1⟩
      have hs1 := hb1.size
      go_wp2_with fail
      go_loopw [6, 27] (fun v i wr => ∃ k : Nat, k ≤ 2 ∧ i = .int .i64 k ∧ OwnP wr w.heap.size 107 2 RuE v (catK a b k) ∧ Below w.heap.size w wr) (fun _ i _ => 2 - (intOf i).toNat)
      case atStart => exact ⟨0, by omega, rfl, ho1, hb1⟩
      case round =>
        obtain ⟨k, hk, rfl, hown, hbr⟩ := hrel
        have hsz := hbr.size
        have e0 : wr.cell? ⟨B, 0, none⟩ = some (.slice A1 a.length c1) := (hbr.cell (p := ⟨B, 0, none⟩) hB).trans h0
        have e1 : wr.cell? ⟨B, 1, none⟩ = some (.slice A2 b.length c2) := (hbr.cell (p := ⟨B, 1, none⟩) hB).trans h1
        have HSA := hid (HA.out.imp hbr hsz fun _ _ _ h => h)
        have HSB := hid (HB.out.imp hbr hsz fun _ _ _ h => h)
        match k, hk with
        | 0, _ =>
          have HL : Hid ((catK a b 0).length + a.length ≤ Few) := by unfold Hid Few; simp [catK]; omega
          go_wp2_with (at_builtin; refine wpList_few rfl (.tmp 31) (.tmp 32) _ rfl eiRun (by decide) (by decide) (fun _ _ h => h.one) rfl hown rfl HSA.out HL.out hsz ?_; intro v2 w2 hown2 hb2 _)
          go_roundw
          case rel => exact ⟨1, by omega, rfl, by simpa [catK] using hown2, hbr.trans hb2⟩
          case measure => simp [intOf]
        | 1, _ =>
          have HL : Hid ((catK a b 1).length + b.length ≤ Few) := by unfold Hid Few; simp [catK]; omega
          go_wp2_with (at_builtin; refine wpList_few rfl (.tmp 31) (.tmp 32) _ rfl eiRun (by decide) (by decide) (fun _ _ h => h.one) rfl hown rfl HSB.out HL.out hsz ?_; intro v2 w2 hown2 hb2 _)
          go_roundw
          case rel => exact ⟨2, by omega, rfl, by simpa [catK] using hown2, hbr.trans hb2⟩
          case measure => simp [intOf]
        | 2, _ =>
          go_wp2_with fail
          go_ret
          exact ⟨_, rfl, hown, hbr⟩
end Go.Proofs.Ytililfcegeddaaa

namespace Go.Proofs.Ytililfcegeddaaa
open Go.RowKit
set_option maxRecDepth 100000

def inn (how : Int) (p q : Bool) : Bool := if how = 2 then p && !q else if how = 1 then p && q else p || q
def byOut (out : List (Int × Int)) (at' to' : Int) : List (Int × Int) :=
  match out.getLast? with
  | some r => if r.2 = at' - 1 then out.set (out.length - 1) (r.1, to' - 1) else out ++ [(at', to' - 1)]
  | none => [(at', to' - 1)]
def byGo (a b : List (Int × Int)) (how : Int) (ps : List Int) : Nat → Int × Bool → List (Int × Int) → List (Int × Int)
  | 0, _, out => out
  | n + 1, s, out => if s.2 then byGo a b how ps n (nextL ps s.1) (if inn how (hasL a s.1) (hasL b s.1) then byOut out s.1 (nextL ps s.1).1 else out) else out
def byL (a b : List (Int × Int)) (how : Int) : List (Int × Int) := byGo a b how (endsL a ++ endsL b) ((endsL a ++ endsL b).length + 1) (nextL (endsL a ++ endsL b) 0) []
def cnt (ps : List Int) (x : Int) : Nat := (ps.filter fun y => decide (x ≤ y)).length

theorem byGo_false (a b : List (Int × Int)) (how : Int) (ps : List Int) (n : Nat) (x : Int) (out : List (Int × Int)) : byGo a b how ps n (x, false) out = out := by
  cases n <;> simp [byGo]

theorem nextL_mem : ∀ (l : List Int) (above : Int) (s : Int × Bool), (s.2 = true → above < s.1) → (l.foldl (nextS above) s = s ∨ (l.foldl (nextS above) s).1 ∈ l) ∧ ((l.foldl (nextS above) s).2 = true → above < (l.foldl (nextS above) s).1)
  | [], _, s, hs => ⟨.inl rfl, hs⟩
  | x :: l, above, s, hs => by
    simp only [List.foldl_cons]
    by_cases hc : above < x ∧ (s.2 = false ∨ x < s.1)
    · have e : nextS above s x = (x, true) := by simp [nextS, hc]
      rw [e]
      obtain ⟨h1, h2⟩ := nextL_mem l above (x, true) (fun _ => hc.1)
      refine ⟨.inr ?_, h2⟩
      rcases h1 with h1 | h1
      · rw [h1]; simp
      · exact List.mem_cons_of_mem _ h1
    · have e : nextS above s x = s := by simp only [nextS, if_neg hc]
      rw [e]
      obtain ⟨h1, h2⟩ := nextL_mem l above s hs
      refine ⟨?_, h2⟩
      rcases h1 with h1 | h1
      · exact .inl h1
      · exact .inr (List.mem_cons_of_mem _ h1)
theorem nextL_spec {l : List Int} {above : Int} (h : (nextL l above).2 = true) : (nextL l above).1 ∈ l ∧ above < (nextL l above).1 := by
  obtain ⟨h1, h2⟩ := nextL_mem l above (0, false) (fun h => by cases h)
  refine ⟨?_, h2 h⟩
  rcases h1 with h1 | h1
  · unfold nextL at h; rw [h1] at h; cases h
  · exact h1
theorem nextL_bd {l : List Int} {above lo hi : Int} (hl : ∀ x ∈ l, lo ≤ x ∧ x ≤ hi) (h0 : lo ≤ 0) (h1 : 0 ≤ hi) : lo ≤ (nextL l above).1 ∧ (nextL l above).1 ≤ hi := by
  obtain ⟨h2, _⟩ := nextL_mem l above (0, false) (fun h => by cases h)
  rcases h2 with h2 | h2
  · unfold nextL; rw [h2]; exact ⟨h0, h1⟩
  · exact hl _ h2
theorem cnt_lt {l : List Int} {x y : Int} (hx : x ∈ l) (h : x < y) : cnt l y < cnt l x := by
  unfold cnt
  induction l with
  | nil => cases hx
  | cons z l ih =>
    have hle : (l.filter fun u => decide (y ≤ u)).length ≤ (l.filter fun u => decide (x ≤ u)).length := by
      clear ih hx
      induction l with
      | nil => simp
      | cons u l ih =>
        simp only [List.filter_cons]
        by_cases h1 : y ≤ u
        · have : x ≤ u := by omega
          simp [h1, this]; exact ih
        · by_cases h2 : x ≤ u
          · simp [h1, h2]; omega
          · simp [h1, h2]; exact ih
    simp only [List.filter_cons]
    rcases List.mem_cons.1 hx with rfl | hx
    · have : ¬ y ≤ x := by omega
      simp [this]; omega
    · have := ih hx
      by_cases h1 : y ≤ z
      · have : x ≤ z := by omega
        simp [h1, this]; omega
      · by_cases h2 : x ≤ z
        · simp [h1, h2]; omega
        · simp [h1, h2]; omega
theorem cnt_pos {l : List Int} {x : Int} (hx : x ∈ l) : 0 < cnt l x := by
  unfold cnt; exact List.length_pos_of_mem (List.mem_filter.2 ⟨hx, by simp⟩)
theorem cnt_le (l : List Int) (x : Int) : cnt l x ≤ l.length := List.length_filter_le _ _
theorem endsL_bd {l : List (Int × Int)} (h : RunsOk l) : ∀ x ∈ endsL l, 0 ≤ x ∧ x ≤ 1099511627778 := fun x hx => by
  unfold endsL at hx
  obtain ⟨r, hr, hx⟩ := List.mem_flatMap.1 hx
  have := h r hr
  simp at hx
  omega
theorem endsL_len (l : List (Int × Int)) : (endsL l).length = 2 * l.length := by
  unfold endsL; rw [List.length_flatMap]; simp [List.map_const']; omega

set_option maxHeartbeats 4000000 in
theorem r06by_any (a b : List (Int × Int)) (how : Int) (va vb : Value) (w : World) (ha : SlP w w.heap.size 2 RuE va a) (hb : SlP w w.heap.size 2 RuE vb b) (hN : a.length ≤ 100000) (hN' : b.length ≤ 100000) (hR : RunsOk a) (hR' : RunsOk b) (hh : how = 0 ∨ how = 1 ∨ how = 2) :
    Calls Try.prog 80 #[va, vb, .int .i64 how] w (RetO w 106 2 (fun _ => RuE) (byL a b how)) := by
  have hps : ∀ x ∈ endsL a ++ endsL b, 0 ≤ x ∧ x ≤ 1099511627778 := fun x hx => by
    rcases List.mem_append.1 hx with h | h
    · exact endsL_bd hR x h
    · exact endsL_bd hR' x h
  have hla := endsL_len a
  have hlb := endsL_len b
  have HLE : Hid ((endsL a).length + (endsL b).length ≤ Few) := by unfold Hid Few; omega
  have hpl : Hid ((endsL a ++ endsL b).length ≤ 400000) := by unfold Hid; simp; omega
  clear hla hlb
  go_enter Try.func80, Try.ntmps80
  go_wp2_with fail
  refine (r06ends_any a va _ ha (by omega) hR).mono ?_
  rintro e w1 ⟨v1, rfl, ho1, hb1⟩
  have hs1 := hb1.size
  go_wp2_with fail
  refine (r06ends_any b vb _ (hb.imp hb1 hs1 fun _ _ _ h => h) (by omega) hR').mono ?_
  rintro e w2 ⟨v2, rfl, ho2, hb2⟩
  have hs2 := hb2.size
  go_wp2_with (at_builtin; refine wpList_few rfl (.tmp 17) (.tmp 19) _ rfl eiInt64 (by decide) (by decide) (fun _ _ h => h.one) rfl (ho1.grow hb2) rfl (ho2.sl (by have := HLE.out; unfold Few at this; unfold Big; omega)) HLE.out (by omega) ?_; intro vp w3 ho3 hb3 _)
  have hB3 : Below w.heap.size w w3 := (hb1.trans (hb2.mono hs1)).trans hb3
  have hs3 := hb3.size
  have hby : byL a b how = byGo a b how (endsL a ++ endsL b) ((endsL a ++ endsL b).length + 1) (nextL (endsL a ++ endsL b) 0) [] := rfl
  generalize hpsd : endsL a ++ endsL b = ps at *
  have hsp := ho3.sl (by have := hpl.out; unfold Big; omega)
  have HY := hid hby
  have ha3 := ha.imp hB3 (by omega : w.heap.size ≤ w3.heap.size) fun _ _ _ h => h
  have hb3' := hb.imp hB3 (by omega : w.heap.size ≤ w3.heap.size) fun _ _ _ h => h
  have hbd : ∀ x, 0 ≤ (nextL ps x).1 ∧ (nextL ps x).1 ≤ 1099511627778 := fun x => nextL_bd hps (by omega) (by omega)
  have HM : ∀ x, x ∈ ps → ∀ n, (cnt ps x ≤ n + 1) → (nextL ps x).2 = true → (nextL ps x).1 ∈ ps ∧ cnt ps (nextL ps x).1 ≤ n := fun x hx n hc h => ⟨(nextL_spec h).1, by have := cnt_lt hx (nextL_spec h).2; omega⟩
  have HM0 : (nextL ps 0).2 = true → (nextL ps 0).1 ∈ ps ∧ cnt ps (nextL ps 0).1 ≤ ps.length + 1 := fun h => ⟨(nextL_spec h).1, by have := cnt_le ps (nextL ps 0).1; omega⟩
  clear hby hps ho1 ho2 hpsd HLE ho3
  have HBD := hid hbd
  have HMH := hid HM
  have HM0H := hid HM0
  clear hbd HM HM0
  refine (r06next_any ps 0 vp w3 _ hsp).mono ?_
  rintro e wx ⟨rfl, rfl⟩
  go_wp2_with fail
  go_loopg [8, 9, 10] (ps.length + 1) (fun n vo vx vk wr => ∃ (outL : List (Int × Int)) (x : Int) (k : Bool), OwnP wr w3.heap.size 106 2 RuE vo outL ∧ vx = .int .i64 x ∧ vk = .bool k ∧ 0 ≤ x ∧ x ≤ 1099511627778 ∧ Below w3.heap.size w3 wr ∧
    Hid (byGo a b how ps n (x, k) outL = byL a b how) ∧ Hid (k = true → x ∈ ps ∧ cnt ps x ≤ n) ∧ Hid (outL.length + n ≤ ps.length + 1))
  case atStart => exact ⟨[], _, _, OwnP.nil, rfl, rfl, (HBD.out 0).1, (HBD.out 0).2, Below.refl _ _, HY.out.symm, HM0H.out, by unfold Hid; simp⟩
  case round =>
    obtain ⟨outL, x, k, hown, rfl, rfl, hx0, hx1, hbr, hrel, hmem, hlen⟩ := hrel
    have hsz := hbr.size
    cases k
    · have hr := hrel.out
      rw [byGo_false] at hr
      have HR := hid hr
      clear hr
      go_wp2_with fail
      go_ret
      exact ⟨_, rfl, by rw [← HR.out]; exact hown.mono (by omega), hB3.trans (hbr.mono (by omega))⟩
    · obtain ⟨n, rfl⟩ : ∃ n, gk = n + 1 := ⟨gk - 1, by have := hmem.out rfl; have := cnt_pos this.1; omega⟩
      have HMM := hid (hmem.out rfl)
      have HI : Hid (byGo a b how ps n (nextL ps x) (if inn how (hasL a x) (hasL b x) then byOut outL x (nextL ps x).1 else outL) = byL a b how) := hrel.out
      have har := ha3.imp hbr (Nat.le_refl _) fun _ _ _ h => h
      have hbr' := hb3'.imp hbr (Nat.le_refl _) fun _ _ _ h => h
      have hpr := hsp.imp hbr (Nat.le_refl _) fun _ _ _ h => h
      have hn0 := (HBD.out x).1
      have hn1 := (HBD.out x).2
      go_wp2_with fail
      refine (r06next_any ps x vp _ _ hpr).mono ?_
      rintro e wx ⟨rfl, rfl⟩
      go_wp2_with fail
      refine (r06has_any a x va _ _ har).mono ?_
      rintro e wx ⟨rfl, rfl⟩
      go_wp2_with fail
      refine (r06has_any b x vb _ _ hbr').mono ?_
      rintro e wx ⟨rfl, rfl⟩
      go_upto_region 7 with (fail)
      have JN : Hid (RuE (x, (nextL ps x).1 - 1) [.int .i64 x, .int .i64 ((nextL ps x).1 - 1)]) := ⟨rfl, ⟨by omega, by omega⟩, ⟨by show _ ≤ (nextL ps x).1 - 1; omega, by show (nextL ps x).1 - 1 ≤ _; omega⟩⟩
      have HNX : Hid ((nextL ps x).2 = true → (nextL ps x).1 ∈ ps ∧ cnt ps (nextL ps x).1 ≤ n) := fun h => HMH.out x HMM.out.1 n HMM.out.2 h
      have HL : Hid (outL.length + [(x, (nextL ps x).1 - 1)].length ≤ Few) := by have := hlen.out; have := hpl.out; unfold Hid Few; simp; omega
      have hob : outL.length ≤ 400001 := by have := hlen.out; have := hpl.out; omega
      generalize hasL a x = p at *
      generalize hasL b x = q at *
      cases p <;> cases q <;> rcases hh with rfl | rfl | rfl
      · go_wp2_with fail
        go_roundg n
        case measure => omega
        case rel => exact ⟨outL, _, _, hown, rfl, rfl, HBD.out x |>.1, HBD.out x |>.2, hbr, by have := HI.out; rw [if_neg (by decide)] at this; exact this, HNX.out, by have := hlen.out; unfold Hid; omega⟩
      · go_wp2_with fail
        go_roundg n
        case measure => omega
        case rel => exact ⟨outL, _, _, hown, rfl, rfl, HBD.out x |>.1, HBD.out x |>.2, hbr, by have := HI.out; rw [if_neg (by decide)] at this; exact this, HNX.out, by have := hlen.out; unfold Hid; omega⟩
      · go_wp2_with fail
        go_roundg n
        case measure => omega
        case rel => exact ⟨outL, _, _, hown, rfl, rfl, HBD.out x |>.1, HBD.out x |>.2, hbr, by have := HI.out; rw [if_neg (by decide)] at this; exact this, HNX.out, by have := hlen.out; unfold Hid; omega⟩
      · rcases Nat.eq_zero_or_pos outL.length with hz | hz
        · obtain rfl : outL = [] := List.eq_nil_of_length_eq_zero hz
          have HO : Hid (byOut [] x (nextL ps x).1 = [] ++ [(x, (nextL ps x).1 - 1)]) := rfl
          obtain ⟨A8, c8, rfl⟩ := hown.shape
          clear hz
          simp only [List.length_nil] at hown HL ⊢
          go_wp2_with (at_builtin; with_reducible refine wpList_few rfl (.tmp 83) (.tmp 88) _ rfl eiPair (by decide) (by decide) (fun _ _ h => h.one) rfl (hown.alloc _) rfl (SlP.one (x := (x, (nextL ps x).1 - 1)) JN.out rfl _ rfl) HL.out (by rw [World.size_alloc]; omega) ?_; intro v1 w1 hown1 hb1 _)
          go_roundg n
          case measure => omega
          case rel => exact ⟨[] ++ [(x, (nextL ps x).1 - 1)], _, _, hown1, rfl, rfl, HBD.out x |>.1, HBD.out x |>.2, (hbr.alloc hsz _).trans hb1, by have := HI.out; rw [if_pos (by decide), HO.out] at this; exact this, HNX.out, by have := hlen.out; unfold Hid; simp at this ⊢; omega⟩
        obtain ⟨r, hr⟩ : ∃ r, outL[outL.length - 1]? = some r := ⟨_, List.getElem?_eq_getElem (by omega)⟩
        obtain ⟨g, cap, rfl, hg1, hg2, c0, c1, hfz, hset⟩ := hown.setRun hr (z := (nextL ps x).1 - 1) ⟨by omega, by omega⟩
        have hfz1 := hfz ((outL.length - 1) * 2 + 1)
        have HBO : Hid (byOut outL x (nextL ps x).1 = if r.2 = x - 1 then outL.set (outL.length - 1) (r.1, (nextL ps x).1 - 1) else outL ++ [(x, (nextL ps x).1 - 1)]) := by
          unfold Hid byOut; rw [List.getLast?_eq_getElem?, hr]
        clear hr hfz
        by_cases hq : r.2 = x - 1
        · have HO : Hid (byOut outL x (nextL ps x).1 = outL.set (outL.length - 1) (r.1, (nextL ps x).1 - 1)) := by unfold Hid; rw [HBO.out, if_pos hq]
          have hq' : (r.2 == x - 1) = true := by simpa using hq
          have HQ := hid hq
          have HS := hid hset
          clear hq hset
          go_wp2_with fail
          go_roundg n
          case measure => omega
          case rel => exact ⟨outL.set (outL.length - 1) (r.1, (nextL ps x).1 - 1), _, _, HS.out, rfl, rfl, HBD.out x |>.1, HBD.out x |>.2, hbr.setCell (by exact hg1) _, by have := HI.out; rw [if_pos (by decide), HO.out] at this; exact this, HNX.out, by have := hlen.out; unfold Hid; rw [List.length_set]; omega⟩
        · have HO : Hid (byOut outL x (nextL ps x).1 = outL ++ [(x, (nextL ps x).1 - 1)]) := by unfold Hid; rw [HBO.out, if_neg hq]
          have hq' : (r.2 == x - 1) = false := by simpa using hq
          have HQ := hid hq
          clear hq hset
          go_wp2_with (at_builtin; with_reducible refine wpList_few rfl (.tmp 83) (.tmp 88) _ rfl eiPair (by decide) (by decide) (fun _ _ h => h.one) rfl (hown.alloc _) rfl (SlP.one (x := (x, (nextL ps x).1 - 1)) JN.out rfl _ rfl) HL.out (by rw [World.size_alloc]; omega) ?_; intro v1 w1 hown1 hb1 _)
          go_roundg n
          case measure => omega
          case rel => exact ⟨outL ++ [(x, (nextL ps x).1 - 1)], _, _, hown1, rfl, rfl, HBD.out x |>.1, HBD.out x |>.2, (hbr.alloc hsz _).trans hb1, by have := HI.out; rw [if_pos (by decide), HO.out] at this; exact this, HNX.out, by have := hlen.out; unfold Hid; simp; omega⟩
      · go_wp2_with fail
        go_roundg n
        case measure => omega
        case rel => exact ⟨outL, _, _, hown, rfl, rfl, HBD.out x |>.1, HBD.out x |>.2, hbr, by have := HI.out; rw [if_neg (by decide)] at this; exact this, HNX.out, by have := hlen.out; unfold Hid; omega⟩
      · go_wp2_with fail
        go_roundg n
        case measure => omega
        case rel => exact ⟨outL, _, _, hown, rfl, rfl, HBD.out x |>.1, HBD.out x |>.2, hbr, by have := HI.out; rw [if_neg (by decide)] at this; exact this, HNX.out, by have := hlen.out; unfold Hid; omega⟩
      · rcases Nat.eq_zero_or_pos outL.length with hz | hz
        · obtain rfl : outL = [] := List.eq_nil_of_length_eq_zero hz
          have HO : Hid (byOut [] x (nextL ps x).1 = [] ++ [(x, (nextL ps x).1 - 1)]) := rfl
          obtain ⟨A8, c8, rfl⟩ := hown.shape
          clear hz
          simp only [List.length_nil] at hown HL ⊢
          go_wp2_with (at_builtin; with_reducible refine wpList_few rfl (.tmp 83) (.tmp 88) _ rfl eiPair (by decide) (by decide) (fun _ _ h => h.one) rfl (hown.alloc _) rfl (SlP.one (x := (x, (nextL ps x).1 - 1)) JN.out rfl _ rfl) HL.out (by rw [World.size_alloc]; omega) ?_; intro v1 w1 hown1 hb1 _)
          go_roundg n
          case measure => omega
          case rel => exact ⟨[] ++ [(x, (nextL ps x).1 - 1)], _, _, hown1, rfl, rfl, HBD.out x |>.1, HBD.out x |>.2, (hbr.alloc hsz _).trans hb1, by have := HI.out; rw [if_pos (by decide), HO.out] at this; exact this, HNX.out, by have := hlen.out; unfold Hid; simp at this ⊢; omega⟩
        obtain ⟨r, hr⟩ : ∃ r, outL[outL.length - 1]? = some r := ⟨_, List.getElem?_eq_getElem (by omega)⟩
        obtain ⟨g, cap, rfl, hg1, hg2, c0, c1, hfz, hset⟩ := hown.setRun hr (z := (nextL ps x).1 - 1) ⟨by omega, by omega⟩
        have hfz1 := hfz ((outL.length - 1) * 2 + 1)
        have HBO : Hid (byOut outL x (nextL ps x).1 = if r.2 = x - 1 then outL.set (outL.length - 1) (r.1, (nextL ps x).1 - 1) else outL ++ [(x, (nextL ps x).1 - 1)]) := by
          unfold Hid byOut; rw [List.getLast?_eq_getElem?, hr]
        clear hr hfz
        by_cases hq : r.2 = x - 1
        · have HO : Hid (byOut outL x (nextL ps x).1 = outL.set (outL.length - 1) (r.1, (nextL ps x).1 - 1)) := by unfold Hid; rw [HBO.out, if_pos hq]
          have hq' : (r.2 == x - 1) = true := by simpa using hq
          have HQ := hid hq
          have HS := hid hset
          clear hq hset
          go_wp2_with fail
          go_roundg n
          case measure => omega
          case rel => exact ⟨outL.set (outL.length - 1) (r.1, (nextL ps x).1 - 1), _, _, HS.out, rfl, rfl, HBD.out x |>.1, HBD.out x |>.2, hbr.setCell (by exact hg1) _, by have := HI.out; rw [if_pos (by decide), HO.out] at this; exact this, HNX.out, by have := hlen.out; unfold Hid; rw [List.length_set]; omega⟩
        · have HO : Hid (byOut outL x (nextL ps x).1 = outL ++ [(x, (nextL ps x).1 - 1)]) := by unfold Hid; rw [HBO.out, if_neg hq]
          have hq' : (r.2 == x - 1) = false := by simpa using hq
          have HQ := hid hq
          clear hq hset
          go_wp2_with (at_builtin; with_reducible refine wpList_few rfl (.tmp 83) (.tmp 88) _ rfl eiPair (by decide) (by decide) (fun _ _ h => h.one) rfl (hown.alloc _) rfl (SlP.one (x := (x, (nextL ps x).1 - 1)) JN.out rfl _ rfl) HL.out (by rw [World.size_alloc]; omega) ?_; intro v1 w1 hown1 hb1 _)
          go_roundg n
          case measure => omega
          case rel => exact ⟨outL ++ [(x, (nextL ps x).1 - 1)], _, _, hown1, rfl, rfl, HBD.out x |>.1, HBD.out x |>.2, (hbr.alloc hsz _).trans hb1, by have := HI.out; rw [if_pos (by decide), HO.out] at this; exact this, HNX.out, by have := hlen.out; unfold Hid; simp; omega⟩
      · go_wp2_with fail
        go_roundg n
        case measure => omega
        case rel => exact ⟨outL, _, _, hown, rfl, rfl, HBD.out x |>.1, HBD.out x |>.2, hbr, by have := HI.out; rw [if_neg (by decide)] at this; exact this, HNX.out, by have := hlen.out; unfold Hid; omega⟩
      · rcases Nat.eq_zero_or_pos outL.length with hz | hz
        · obtain rfl : outL = [] := List.eq_nil_of_length_eq_zero hz
          have HO : Hid (byOut [] x (nextL ps x).1 = [] ++ [(x, (nextL ps x).1 - 1)]) := rfl
          obtain ⟨A8, c8, rfl⟩ := hown.shape
          clear hz
          simp only [List.length_nil] at hown HL ⊢
          go_wp2_with (at_builtin; with_reducible refine wpList_few rfl (.tmp 83) (.tmp 88) _ rfl eiPair (by decide) (by decide) (fun _ _ h => h.one) rfl (hown.alloc _) rfl (SlP.one (x := (x, (nextL ps x).1 - 1)) JN.out rfl _ rfl) HL.out (by rw [World.size_alloc]; omega) ?_; intro v1 w1 hown1 hb1 _)
          go_roundg n
          case measure => omega
          case rel => exact ⟨[] ++ [(x, (nextL ps x).1 - 1)], _, _, hown1, rfl, rfl, HBD.out x |>.1, HBD.out x |>.2, (hbr.alloc hsz _).trans hb1, by have := HI.out; rw [if_pos (by decide), HO.out] at this; exact this, HNX.out, by have := hlen.out; unfold Hid; simp at this ⊢; omega⟩
        obtain ⟨r, hr⟩ : ∃ r, outL[outL.length - 1]? = some r := ⟨_, List.getElem?_eq_getElem (by omega)⟩
        obtain ⟨g, cap, rfl, hg1, hg2, c0, c1, hfz, hset⟩ := hown.setRun hr (z := (nextL ps x).1 - 1) ⟨by omega, by omega⟩
        have hfz1 := hfz ((outL.length - 1) * 2 + 1)
        have HBO : Hid (byOut outL x (nextL ps x).1 = if r.2 = x - 1 then outL.set (outL.length - 1) (r.1, (nextL ps x).1 - 1) else outL ++ [(x, (nextL ps x).1 - 1)]) := by
          unfold Hid byOut; rw [List.getLast?_eq_getElem?, hr]
        clear hr hfz
        by_cases hq : r.2 = x - 1
        · have HO : Hid (byOut outL x (nextL ps x).1 = outL.set (outL.length - 1) (r.1, (nextL ps x).1 - 1)) := by unfold Hid; rw [HBO.out, if_pos hq]
          have hq' : (r.2 == x - 1) = true := by simpa using hq
          have HQ := hid hq
          have HS := hid hset
          clear hq hset
          go_wp2_with fail
          go_roundg n
          case measure => omega
          case rel => exact ⟨outL.set (outL.length - 1) (r.1, (nextL ps x).1 - 1), _, _, HS.out, rfl, rfl, HBD.out x |>.1, HBD.out x |>.2, hbr.setCell (by exact hg1) _, by have := HI.out; rw [if_pos (by decide), HO.out] at this; exact this, HNX.out, by have := hlen.out; unfold Hid; rw [List.length_set]; omega⟩
        · have HO : Hid (byOut outL x (nextL ps x).1 = outL ++ [(x, (nextL ps x).1 - 1)]) := by unfold Hid; rw [HBO.out, if_neg hq]
          have hq' : (r.2 == x - 1) = false := by simpa using hq
          have HQ := hid hq
          clear hq hset
          go_wp2_with (at_builtin; with_reducible refine wpList_few rfl (.tmp 83) (.tmp 88) _ rfl eiPair (by decide) (by decide) (fun _ _ h => h.one) rfl (hown.alloc _) rfl (SlP.one (x := (x, (nextL ps x).1 - 1)) JN.out rfl _ rfl) HL.out (by rw [World.size_alloc]; omega) ?_; intro v1 w1 hown1 hb1 _)
          go_roundg n
          case measure => omega
          case rel => exact ⟨outL ++ [(x, (nextL ps x).1 - 1)], _, _, hown1, rfl, rfl, HBD.out x |>.1, HBD.out x |>.2, (hbr.alloc hsz _).trans hb1, by have := HI.out; rw [if_pos (by decide), HO.out] at this; exact this, HNX.out, by have := hlen.out; unfold Hid; simp; omega⟩
      · rcases Nat.eq_zero_or_pos outL.length with hz | hz
        · obtain rfl : outL = [] := List.eq_nil_of_length_eq_zero hz
          have HO : Hid (byOut [] x (nextL ps x).1 = [] ++ [(x, (nextL ps x).1 - 1)]) := rfl
          obtain ⟨A8, c8, rfl⟩ := hown.shape
          clear hz
          simp only [List.length_nil] at hown HL ⊢
          go_wp2_with (at_builtin; with_reducible refine wpList_few rfl (.tmp 83) (.tmp 88) _ rfl eiPair (by decide) (by decide) (fun _ _ h => h.one) rfl (hown.alloc _) rfl (SlP.one (x := (x, (nextL ps x).1 - 1)) JN.out rfl _ rfl) HL.out (by rw [World.size_alloc]; omega) ?_; intro v1 w1 hown1 hb1 _)
          go_roundg n
          case measure => omega
          case rel => exact ⟨[] ++ [(x, (nextL ps x).1 - 1)], _, _, hown1, rfl, rfl, HBD.out x |>.1, HBD.out x |>.2, (hbr.alloc hsz _).trans hb1, by have := HI.out; rw [if_pos (by decide), HO.out] at this; exact this, HNX.out, by have := hlen.out; unfold Hid; simp at this ⊢; omega⟩
        obtain ⟨r, hr⟩ : ∃ r, outL[outL.length - 1]? = some r := ⟨_, List.getElem?_eq_getElem (by omega)⟩
        obtain ⟨g, cap, rfl, hg1, hg2, c0, c1, hfz, hset⟩ := hown.setRun hr (z := (nextL ps x).1 - 1) ⟨by omega, by omega⟩
        have hfz1 := hfz ((outL.length - 1) * 2 + 1)
        have HBO : Hid (byOut outL x (nextL ps x).1 = if r.2 = x - 1 then outL.set (outL.length - 1) (r.1, (nextL ps x).1 - 1) else outL ++ [(x, (nextL ps x).1 - 1)]) := by
          unfold Hid byOut; rw [List.getLast?_eq_getElem?, hr]
        clear hr hfz
        by_cases hq : r.2 = x - 1
        · have HO : Hid (byOut outL x (nextL ps x).1 = outL.set (outL.length - 1) (r.1, (nextL ps x).1 - 1)) := by unfold Hid; rw [HBO.out, if_pos hq]
          have hq' : (r.2 == x - 1) = true := by simpa using hq
          have HQ := hid hq
          have HS := hid hset
          clear hq hset
          go_wp2_with fail
          go_roundg n
          case measure => omega
          case rel => exact ⟨outL.set (outL.length - 1) (r.1, (nextL ps x).1 - 1), _, _, HS.out, rfl, rfl, HBD.out x |>.1, HBD.out x |>.2, hbr.setCell (by exact hg1) _, by have := HI.out; rw [if_pos (by decide), HO.out] at this; exact this, HNX.out, by have := hlen.out; unfold Hid; rw [List.length_set]; omega⟩
        · have HO : Hid (byOut outL x (nextL ps x).1 = outL ++ [(x, (nextL ps x).1 - 1)]) := by unfold Hid; rw [HBO.out, if_neg hq]
          have hq' : (r.2 == x - 1) = false := by simpa using hq
          have HQ := hid hq
          clear hq hset
          go_wp2_with (at_builtin; with_reducible refine wpList_few rfl (.tmp 83) (.tmp 88) _ rfl eiPair (by decide) (by decide) (fun _ _ h => h.one) rfl (hown.alloc _) rfl (SlP.one (x := (x, (nextL ps x).1 - 1)) JN.out rfl _ rfl) HL.out (by rw [World.size_alloc]; omega) ?_; intro v1 w1 hown1 hb1 _)
          go_roundg n
          case measure => omega
          case rel => exact ⟨outL ++ [(x, (nextL ps x).1 - 1)], _, _, hown1, rfl, rfl, HBD.out x |>.1, HBD.out x |>.2, (hbr.alloc hsz _).trans hb1, by have := HI.out; rw [if_pos (by decide), HO.out] at this; exact this, HNX.out, by have := hlen.out; unfold Hid; simp; omega⟩
      · rcases Nat.eq_zero_or_pos outL.length with hz | hz
        · obtain rfl : outL = [] := List.eq_nil_of_length_eq_zero hz
          have HO : Hid (byOut [] x (nextL ps x).1 = [] ++ [(x, (nextL ps x).1 - 1)]) := rfl
          obtain ⟨A8, c8, rfl⟩ := hown.shape
          clear hz
          simp only [List.length_nil] at hown HL ⊢
          go_wp2_with (at_builtin; with_reducible refine wpList_few rfl (.tmp 83) (.tmp 88) _ rfl eiPair (by decide) (by decide) (fun _ _ h => h.one) rfl (hown.alloc _) rfl (SlP.one (x := (x, (nextL ps x).1 - 1)) JN.out rfl _ rfl) HL.out (by rw [World.size_alloc]; omega) ?_; intro v1 w1 hown1 hb1 _)
          go_roundg n
          case measure => omega
          case rel => exact ⟨[] ++ [(x, (nextL ps x).1 - 1)], _, _, hown1, rfl, rfl, HBD.out x |>.1, HBD.out x |>.2, (hbr.alloc hsz _).trans hb1, by have := HI.out; rw [if_pos (by decide), HO.out] at this; exact this, HNX.out, by have := hlen.out; unfold Hid; simp at this ⊢; omega⟩
        obtain ⟨r, hr⟩ : ∃ r, outL[outL.length - 1]? = some r := ⟨_, List.getElem?_eq_getElem (by omega)⟩
        obtain ⟨g, cap, rfl, hg1, hg2, c0, c1, hfz, hset⟩ := hown.setRun hr (z := (nextL ps x).1 - 1) ⟨by omega, by omega⟩
        have hfz1 := hfz ((outL.length - 1) * 2 + 1)
        have HBO : Hid (byOut outL x (nextL ps x).1 = if r.2 = x - 1 then outL.set (outL.length - 1) (r.1, (nextL ps x).1 - 1) else outL ++ [(x, (nextL ps x).1 - 1)]) := by
          unfold Hid byOut; rw [List.getLast?_eq_getElem?, hr]
        clear hr hfz
        by_cases hq : r.2 = x - 1
        · have HO : Hid (byOut outL x (nextL ps x).1 = outL.set (outL.length - 1) (r.1, (nextL ps x).1 - 1)) := by unfold Hid; rw [HBO.out, if_pos hq]
          have hq' : (r.2 == x - 1) = true := by simpa using hq
          have HQ := hid hq
          have HS := hid hset
          clear hq hset
          go_wp2_with fail
          go_roundg n
          case measure => omega
          case rel => exact ⟨outL.set (outL.length - 1) (r.1, (nextL ps x).1 - 1), _, _, HS.out, rfl, rfl, HBD.out x |>.1, HBD.out x |>.2, hbr.setCell (by exact hg1) _, by have := HI.out; rw [if_pos (by decide), HO.out] at this; exact this, HNX.out, by have := hlen.out; unfold Hid; rw [List.length_set]; omega⟩
        · have HO : Hid (byOut outL x (nextL ps x).1 = outL ++ [(x, (nextL ps x).1 - 1)]) := by unfold Hid; rw [HBO.out, if_neg hq]
          have hq' : (r.2 == x - 1) = false := by simpa using hq
          have HQ := hid hq
          clear hq hset
          go_wp2_with (at_builtin; with_reducible refine wpList_few rfl (.tmp 83) (.tmp 88) _ rfl eiPair (by decide) (by decide) (fun _ _ h => h.one) rfl (hown.alloc _) rfl (SlP.one (x := (x, (nextL ps x).1 - 1)) JN.out rfl _ rfl) HL.out (by rw [World.size_alloc]; omega) ?_; intro v1 w1 hown1 hb1 _)
          go_roundg n
          case measure => omega
          case rel => exact ⟨outL ++ [(x, (nextL ps x).1 - 1)], _, _, hown1, rfl, rfl, HBD.out x |>.1, HBD.out x |>.2, (hbr.alloc hsz _).trans hb1, by have := HI.out; rw [if_pos (by decide), HO.out] at this; exact this, HNX.out, by have := hlen.out; unfold Hid; simp; omega⟩
      · go_wp2_with fail
        go_roundg n
        case measure => omega
        case rel => exact ⟨outL, _, _, hown, rfl, rfl, HBD.out x |>.1, HBD.out x |>.2, hbr, by have := HI.out; rw [if_neg (by decide)] at this; exact this, HNX.out, by have := hlen.out; unfold Hid; omega⟩

end Go.Proofs.Ytililfcegeddaaa

namespace Go.Proofs.Ytililfcegeddaaa
open Go.RowKit
set_option maxRecDepth 100000

def ofOut (out : List (Int × Int)) (x : Int) : List (Int × Int) :=
  match out.getLast? with
  | some r => if r.2 = x - 1 then out.set (out.length - 1) (r.1, x) else out ++ [(x, x)]
  | none => [(x, x)]
def ofGo (ps : List Int) : Nat → Int × Bool → List (Int × Int) → List (Int × Int)
  | 0, _, out => out
  | n + 1, s, out => if s.2 then ofGo ps n (nextL ps s.1) (ofOut out s.1) else out
def ofL (ps : List Int) : List (Int × Int) := ofGo ps (ps.length + 1) (nextL ps 0) []
theorem ofGo_false (ps : List Int) (n : Nat) (x : Int) (out : List (Int × Int)) : ofGo ps n (x, false) out = out := by
  cases n <;> simp [ofGo]
theorem ofOut_len (out : List (Int × Int)) (x : Int) : (ofOut out x).length ≤ out.length + 1 := by
  unfold ofOut
  cases h : out.getLast? with
  | none => simp
  | some r => dsimp only; split <;> simp
theorem ofGo_len (ps : List Int) : ∀ (n : Nat) (s : Int × Bool) (out : List (Int × Int)), (ofGo ps n s out).length ≤ out.length + n
  | 0, s, out => by simp [ofGo]
  | n + 1, s, out => by
    rw [ofGo]
    split
    · have := ofGo_len ps n (nextL ps s.1) (ofOut out s.1); have := ofOut_len out s.1; omega
    · omega
theorem ofL_len (ps : List Int) : (ofL ps).length ≤ ps.length + 1 := by have := ofGo_len ps (ps.length + 1) (nextL ps 0) []; simpa [ofL] using this

set_option maxHeartbeats 4000000 in
theorem r06of_any (ps : List Int) (vp : Value) (w : World) (hsp : SlP w w.heap.size 1 InE vp ps) (hN : ps.length ≤ 400000) (hps : ∀ x ∈ ps, 0 ≤ x ∧ x ≤ 1099511627778) :
    Calls Try.prog 68 #[vp] w (RetO w 106 2 (fun _ => RuE) (ofL ps)) := by
  have HY : Hid (ofL ps = ofGo ps (ps.length + 1) (nextL ps 0) []) := rfl
  have HBD : Hid (∀ x, 0 ≤ (nextL ps x).1 ∧ (nextL ps x).1 ≤ 1099511627778) := fun x => nextL_bd hps (by omega) (by omega)
  have HMH : Hid (∀ x, x ∈ ps → ∀ n, (cnt ps x ≤ n + 1) → (nextL ps x).2 = true → (nextL ps x).1 ∈ ps ∧ cnt ps (nextL ps x).1 ≤ n) := fun x hx n hc h => ⟨(nextL_spec h).1, by have := cnt_lt hx (nextL_spec h).2; omega⟩
  have HM0H : Hid ((nextL ps 0).2 = true → (nextL ps 0).1 ∈ ps ∧ cnt ps (nextL ps 0).1 ≤ ps.length + 1) := fun h => ⟨(nextL_spec h).1, by have := cnt_le ps (nextL ps 0).1; omega⟩
  clear hps
  go_enter Try.func68, Try.ntmps68
  go_wp2_with (go_at_call 88; with_reducible refine (r06next_any ps 0 vp w _ hsp).mono ?_; rintro e wx ⟨rfl, rfl⟩)
  go_loopg [3, 4, 5] (ps.length + 1) (fun n vo vx vk wr => ∃ (outL : List (Int × Int)) (x : Int) (k : Bool), OwnP wr w.heap.size 106 2 RuE vo outL ∧ vx = .int .i64 x ∧ vk = .bool k ∧ 0 ≤ x ∧ x ≤ 1099511627778 ∧ Below w.heap.size w wr ∧
    Hid (ofGo ps n (x, k) outL = ofL ps) ∧ Hid (k = true → x ∈ ps ∧ cnt ps x ≤ n) ∧ Hid (outL.length + n ≤ ps.length + 1))
  case atStart => exact ⟨[], _, _, OwnP.nil, rfl, rfl, (HBD.out 0).1, (HBD.out 0).2, Below.refl _ _, HY.out.symm, HM0H.out, by unfold Hid; simp⟩
  case round =>
    obtain ⟨outL, x, k, hown, rfl, rfl, hx0, hx1, hbr, hrel, hmem, hlen⟩ := hrel
    have hsz := hbr.size
    cases k
    · have hr := hrel.out
      rw [ofGo_false] at hr
      have HR := hid hr
      clear hr
      go_wp2_with fail
      go_ret
      exact ⟨_, rfl, by rw [← HR.out]; exact hown, hbr⟩
    · obtain ⟨n, rfl⟩ : ∃ n, gk = n + 1 := ⟨gk - 1, by have := hmem.out rfl; have := cnt_pos this.1; omega⟩
      have HMM := hid (hmem.out rfl)
      have HI : Hid (ofGo ps n (nextL ps x) (ofOut outL x) = ofL ps) := hrel.out
      have HPR : Hid (∀ w', Below w.heap.size w w' → SlP w' w.heap.size 1 InE vp ps) := fun w' hb' => hsp.imp hb' (Nat.le_refl _) fun _ _ _ h => h
      have JN : Hid (RuE (x, x) [.int .i64 x, .int .i64 x]) := ⟨rfl, ⟨by omega, by omega⟩, ⟨by show _ ≤ x; omega, by show x ≤ _; omega⟩⟩
      have HNX : Hid ((nextL ps x).2 = true → (nextL ps x).1 ∈ ps ∧ cnt ps (nextL ps x).1 ≤ n) := fun h => HMH.out x HMM.out.1 n HMM.out.2 h
      have HL : Hid (outL.length + [(x, x)].length ≤ Few) := by have := hlen.out; unfold Hid Few; simp; omega
      have hob : outL.length ≤ 400001 := by have := hlen.out; omega
      rcases Nat.eq_zero_or_pos outL.length with hz | hz
      · obtain rfl : outL = [] := List.eq_nil_of_length_eq_zero hz
        have HO : Hid (ofOut [] x = [] ++ [(x, x)]) := rfl
        obtain ⟨A8, c8, rfl⟩ := hown.shape
        clear hz
        simp only [List.length_nil] at hown ⊢
        have HL : Hid (([] : List (Int × Int)).length + [(x, x)].length ≤ Few) := by unfold Hid Few; simp
        go_wp2_with (first | (at_builtin; with_reducible refine wpList_few rfl (.tmp 34) (.tmp 38) _ rfl eiPair (by decide) (by decide) (fun _ _ h => h.one) rfl (hown.alloc _) rfl (SlP.one (x := (x, x)) JN.out rfl _ rfl) HL.out (by rw [World.size_alloc]; omega) ?_; intro v1 w1 hown1 hb1 _) | (go_at_call 88; with_reducible refine (r06next_any ps x vp _ _ (HPR.out _ ((hbr.alloc hsz _).trans hb1))).mono ?_; rintro e wx ⟨rfl, rfl⟩))
        go_roundg n
        case measure => omega
        case rel => exact ⟨[] ++ [(x, x)], _, _, hown1, rfl, rfl, HBD.out x |>.1, HBD.out x |>.2, (hbr.alloc hsz _).trans hb1, by have := HI.out; rw [HO.out] at this; exact this, HNX.out, by have := hlen.out; unfold Hid; simp at this ⊢; omega⟩
      obtain ⟨r, hr⟩ : ∃ r, outL[outL.length - 1]? = some r := ⟨_, List.getElem?_eq_getElem (by omega)⟩
      obtain ⟨g, cap, rfl, hg1, hg2, c0, c1, hfz, hset⟩ := hown.setRun hr (z := x) ⟨by omega, by omega⟩
      have hfz1 := hfz ((outL.length - 1) * 2 + 1)
      have HBO : Hid (ofOut outL x = if r.2 = x - 1 then outL.set (outL.length - 1) (r.1, x) else outL ++ [(x, x)]) := by
        unfold Hid ofOut; rw [List.getLast?_eq_getElem?, hr]
      clear hr hfz
      by_cases hq : r.2 = x - 1
      · have HO : Hid (ofOut outL x = outL.set (outL.length - 1) (r.1, x)) := by unfold Hid; rw [HBO.out, if_pos hq]
        have hq' : (r.2 == x - 1) = true := by simpa using hq
        have HQ := hid hq
        have HS := hid hset
        clear hq hset
        go_wp2_with (go_at_call 88; with_reducible refine (r06next_any ps x vp _ _ (HPR.out _ (hbr.setCell (by exact hg1) _))).mono ?_; rintro e wx ⟨rfl, rfl⟩)
        go_roundg n
        case measure => omega
        case rel => exact ⟨outL.set (outL.length - 1) (r.1, x), _, _, HS.out, rfl, rfl, HBD.out x |>.1, HBD.out x |>.2, hbr.setCell (by exact hg1) _, by have := HI.out; rw [HO.out] at this; exact this, HNX.out, by have := hlen.out; unfold Hid; rw [List.length_set]; omega⟩
      · have HO : Hid (ofOut outL x = outL ++ [(x, x)]) := by unfold Hid; rw [HBO.out, if_neg hq]
        have hq' : (r.2 == x - 1) = false := by simpa using hq
        have HQ := hid hq
        clear hq hset
        go_wp2_with (first | (at_builtin; with_reducible refine wpList_few rfl (.tmp 34) (.tmp 38) _ rfl eiPair (by decide) (by decide) (fun _ _ h => h.one) rfl (hown.alloc _) rfl (SlP.one (x := (x, x)) JN.out rfl _ rfl) HL.out (by rw [World.size_alloc]; omega) ?_; intro v1 w1 hown1 hb1 _) | (go_at_call 88; with_reducible refine (r06next_any ps x vp _ _ (HPR.out _ ((hbr.alloc hsz _).trans hb1))).mono ?_; rintro e wx ⟨rfl, rfl⟩))
        go_roundg n
        case measure => omega
        case rel => exact ⟨outL ++ [(x, x)], _, _, hown1, rfl, rfl, HBD.out x |>.1, HBD.out x |>.2, (hbr.alloc hsz _).trans hb1, by have := HI.out; rw [HO.out] at this; exact this, HNX.out, by have := hlen.out; unfold Hid; simp at this ⊢; omega⟩

end Go.Proofs.Ytililfcegeddaaa

namespace Go.Proofs.Ytililfcegeddaaa
open Go.RowKit
set_option maxRecDepth 100000

/-- One run that may stand in a set. -/
def runOk (r : Int × Int) : Prop := 1 ≤ r.1 ∧ r.1 ≤ r.2 ∧ r.2 ≤ 1099511627776
theorem runsR_iff (p : Option Int) (r : Int × Int) (rs : List (Int × Int)) : runsR p (r :: rs) = true ↔ runOk r ∧ okR p r.1 = true ∧ runsR (some r.2) rs = true := by
  rw [runsR_cons]
  simp only [Bool.and_eq_true, numB, decide_eq_true_eq, runOk]
  constructor
  · rintro ⟨⟨⟨⟨h1, h2⟩, h3⟩, h4⟩, h5⟩; exact ⟨by omega, h4, h5⟩
  · rintro ⟨h1, h4, h5⟩; exact ⟨⟨⟨⟨by omega, by omega⟩, by omega⟩, h4⟩, h5⟩
theorem runsR_nil (p : Option Int) : runsR p [] = true := by cases p <;> rfl
theorem runsR_one (p : Option Int) (r : Int × Int) : runsR p [r] = true ↔ runOk r ∧ okR p r.1 = true := by rw [runsR_iff, runsR_nil]; simp
theorem runsR_snoc : ∀ (L : List (Int × Int)) (p : Option Int) (q r : Int × Int), runsR p (L ++ [q] ++ [r]) = true ↔ runsR p (L ++ [q]) = true ∧ runOk r ∧ q.2 + 1 < r.1
  | [], p, q, r => by
    rw [List.nil_append, runsR_one, List.cons_append, runsR_iff, List.nil_append, runsR_one]
    simp only [okR, decide_eq_true_eq, and_assoc]
  | x :: L, p, q, r => by
    rw [List.cons_append, List.cons_append, runsR_iff, runsR_iff, runsR_snoc L (some x.2) q r]
    simp only [and_assoc]
theorem runsR_last : ∀ (L : List (Int × Int)) (p : Option Int) (q : Int × Int), runsR p (L ++ [q]) = true → runOk q
  | [], p, q, h => ((runsR_one p q).1 h).1
  | x :: L, p, q, h => by
    rw [List.cons_append, runsR_iff] at h
    exact runsR_last L _ q h.2.2
theorem runsR_wide : ∀ (L : List (Int × Int)) (p : Option Int) (q : Int × Int) (m : Int), runsR p (L ++ [q]) = true → q.2 ≤ m → m ≤ 1099511627776 → runsR p (L ++ [(q.1, m)]) = true
  | [], p, q, m, h, h1, h2 => by
    rw [List.nil_append, runsR_one] at h ⊢
    obtain ⟨h, h'⟩ := h
    unfold runOk at *
    exact ⟨⟨h.1, by show q.1 ≤ m; omega, h2⟩, h'⟩
  | x :: L, p, q, m, h, h1, h2 => by
    rw [List.cons_append, runsR_iff] at h ⊢
    exact ⟨h.1, h.2.1, runsR_wide L _ q m h.2.2 h1 h2⟩
theorem hasL_app (a b : List (Int × Int)) (n : Int) : hasL (a ++ b) n = (hasL a n || hasL b n) := by simp [hasL]
/-- Two sets of the same numbers are the same. -/
theorem runs_lo : ∀ (l : List (Int × Int)) (p : Int), runsR (some p) l = true → ∀ n, hasL l n = true → p + 1 < n
  | [], p, _, n, h => by simp [hasL] at h
  | r :: l, p, hr, n, h => by
    rw [runsR_iff] at hr
    obtain ⟨h1, h2, h3⟩ := hr
    simp only [okR, decide_eq_true_eq] at h2
    simp only [hasL, List.any_cons, Bool.or_eq_true, inR, Bool.and_eq_true, decide_eq_true_eq] at h
    unfold runOk at h1
    rcases h with h | h
    · omega
    · have := runs_lo l r.2 h3 n (by simpa [hasL, inR] using h)
      omega
theorem runs_eq : ∀ (a b : List (Int × Int)) (p q : Option Int), runsR p a = true → runsR q b = true → (∀ n, hasL a n = hasL b n) → a = b
  | [], [], _, _, _, _, _ => rfl
  | [], r :: b, _, q, _, hb, h => by
    rw [runsR_iff] at hb
    have := h r.1
    simp [hasL, inR] at this
    have := hb.1
    unfold runOk at this
    omega
  | r :: a, [], p, _, ha, _, h => by
    rw [runsR_iff] at ha
    have := h r.1
    simp [hasL, inR] at this
    have := ha.1
    unfold runOk at this
    omega
  | r :: a, s :: b, p, q, ha, hb, h => by
    rw [runsR_iff] at ha hb
    obtain ⟨a1, a2, a3⟩ := ha
    obtain ⟨b1, b2, b3⟩ := hb
    have ha' := runs_lo a r.2 a3
    have hb' := runs_lo b s.2 b3
    have hc : ∀ (x : Int × Int) (l : List (Int × Int)) n, hasL (x :: l) n = (inR x n || hasL l n) := fun x l n => by simp [hasL]
    have hin : ∀ (x : Int × Int) n, inR x n = true ↔ x.1 ≤ n ∧ n ≤ x.2 := fun x n => by simp [inR]
    unfold runOk at a1 b1
    have key : ∀ n, (inR r n = true ∨ hasL a n = true) ↔ (inR s n = true ∨ hasL b n = true) := fun n => by
      have := h n; rw [hc, hc, Bool.eq_iff_iff] at this; simpa using this
    have e1 : r.1 = s.1 := by
      have k1 := (key r.1).1 (.inl ((hin r _).2 ⟨by omega, by omega⟩))
      have k2 := (key s.1).2 (.inl ((hin s _).2 ⟨by omega, by omega⟩))
      rw [hin] at k1 k2
      have := hb' r.1; have := ha' s.1
      rcases k1 with k1 | k1 <;> rcases k2 with k2 | k2
      · omega
      · have := ha' s.1 k2; omega
      · have := hb' r.1 k1; omega
      · have := hb' r.1 k1; have := ha' s.1 k2; omega
    have e2 : r.2 = s.2 := by
      have k1 := (key r.2).1 (.inl ((hin r _).2 ⟨by omega, by omega⟩))
      have k2 := (key s.2).2 (.inl ((hin s _).2 ⟨by omega, by omega⟩))
      have k3 := key (r.2 + 1)
      have k4 := key (s.2 + 1)
      rw [hin] at k1 k2
      rw [hin, hin] at k3 k4
      rcases Int.lt_trichotomy r.2 s.2 with hlt | heq | hgt
      · have := k3.2 (.inl ⟨by omega, by omega⟩)
        rcases this with h | h
        · omega
        · have := ha' _ h; omega
      · exact heq
      · have := k4.1 (.inl ⟨by omega, by omega⟩)
        rcases this with h | h
        · omega
        · have := hb' _ h; omega
    have e : r = s := Prod.ext e1 e2
    subst e
    congr 1
    refine runs_eq a b _ _ a3 b3 fun n => ?_
    by_cases hn : inR r n = true
    · rw [hin] at hn
      have x1 : hasL a n = false := by
        cases hx : hasL a n with
        | false => rfl
        | true => have := ha' n hx; omega
      have x2 : hasL b n = false := by
        cases hx : hasL b n with
        | false => rfl
        | true => have := hb' n hx; omega
      rw [x1, x2]
    · have := key n
      simp only [hn] at this
      rw [Bool.eq_iff_iff]
      simpa using this
theorem nextL_least : ∀ (l : List Int) (a : Int) (s : Int × Bool), (s.2 = true → a < s.1) → (∀ y, (y ∈ l ∧ a < y ∨ (s.2 = true ∧ y = s.1)) → (l.foldl (nextS a) s).2 = true ∧ (l.foldl (nextS a) s).1 ≤ y)
  | [], a, s, hs, y, h => by
    rcases h with h | h
    · cases h.1
    · exact ⟨h.1, by rw [h.2]; exact Int.le_refl _⟩
  | x :: l, a, s, hs, y, h => by
    rw [List.foldl_cons]
    by_cases hc : a < x ∧ (s.2 = false ∨ x < s.1)
    · have e : nextS a s x = (x, true) := by simp [nextS, hc]
      rw [e]
      have ih := nextL_least l a (x, true) (fun _ => hc.1)
      rcases h with ⟨h, hy⟩ | h
      · rcases List.mem_cons.1 h with rfl | h
        · exact ih y (.inr ⟨rfl, rfl⟩)
        · exact ih y (.inl ⟨h, hy⟩)
      · have := ih x (.inr ⟨rfl, rfl⟩)
        refine ⟨this.1, ?_⟩
        rcases hc.2 with h2 | h2
        · rw [h.1] at h2; cases h2
        · have h3 := this.2; rw [h.2]; omega
    · have e : nextS a s x = s := by simp only [nextS, if_neg hc]
      rw [e]
      have ih := nextL_least l a s hs
      rcases h with ⟨h, hy⟩ | h
      · rcases List.mem_cons.1 h with rfl | h
        · cases hs2 : s.2 with
          | false => exact absurd ⟨hy, .inl hs2⟩ hc
          | true =>
            have hle : s.1 ≤ y := by
              rcases Int.lt_or_le y s.1 with h | h
              · exact absurd ⟨hy, .inr h⟩ hc
              · exact h
            have := ih s.1 (.inr ⟨hs2, rfl⟩)
            exact ⟨this.1, by omega⟩
        · exact ih y (.inl ⟨h, hy⟩)
      · exact ih y (.inr h)
/-- The next one: the least of those above. -/
theorem nextL_min {l : List Int} {a y : Int} (h : y ∈ l) (hy : a < y) : (nextL l a).2 = true ∧ (nextL l a).1 ≤ y :=
  nextL_least l a (0, false) (fun h => by cases h) y (.inl ⟨h, hy⟩)
theorem cnt_next {l : List Int} {a : Int} (h : (nextL l a).2 = true) : (nextL l a).1 ∈ l ∧ a < (nextL l a).1 ∧ ∀ y ∈ l, a < y → (nextL l a).1 ≤ y :=
  ⟨(nextL_spec h).1, (nextL_spec h).2, fun _ hy hlt => (nextL_min hy hlt).2⟩
theorem none_next {l : List Int} {a : Int} (h : (nextL l a).2 = false) : ∀ y ∈ l, y ≤ a := fun y hy => by
  rcases Int.lt_or_le a y with hlt | hle
  · have := (nextL_min hy hlt).1; rw [h] at this; cases this
  · exact hle

theorem hasL_last {out : List (Int × Int)} {x : Int} (h : runsR none out = true) (hl : ∀ n, hasL out n = true → n ≤ x) : ∀ q, out.getLast? = some q → q.2 ≤ x := fun q hq => by
  obtain ⟨L, rfl⟩ : ∃ L, out = L ++ [q] := by
    rcases List.eq_nil_or_concat out with rfl | ⟨L, r, rfl⟩
    · simp at hq
    · rw [List.concat_eq_append, List.getLast?_concat] at hq; cases hq; exact ⟨L, List.concat_eq_append⟩
  have hqo := runsR_last L none q h
  refine hl q.2 ?_
  rw [hasL_app]
  unfold runOk at hqo
  simp [hasL, inR]
  right; omega
/-- A run behind a set, that may touch it. -/
theorem put_right {out : List (Int × Int)} {x y : Int} (h : runsR none out = true) (hr : runOk (x, y)) (ho : ∀ q, out.getLast? = some q → q.2 < x) (f : List (Int × Int))
    (hf : f = match out.getLast? with | some r => if r.2 = x - 1 then out.set (out.length - 1) (r.1, y) else out ++ [(x, y)] | none => [(x, y)]) :
    runsR none f = true ∧ ∀ n, hasL f n = (hasL out n || inR (x, y) n) := by
  subst hf
  rcases List.eq_nil_or_concat out with rfl | ⟨L, q, rfl⟩
  · exact ⟨(runsR_one none (x, y)).2 ⟨hr, rfl⟩, fun n => by simp [hasL]⟩
  · rw [List.concat_eq_append] at *
    have hq := ho q (by simp)
    have hqo := runsR_last L none q h
    unfold runOk at *
    simp only at hr
    rw [List.getLast?_concat]
    dsimp only
    split
    · rename_i hc
      have e : (L ++ [q]).set ((L ++ [q]).length - 1) (q.1, y) = L ++ [(q.1, y)] := by simp
      rw [e]
      refine ⟨runsR_wide L none q _ h (by omega) (by omega), fun n => ?_⟩
      rw [hasL_app, hasL_app, Bool.or_assoc]
      congr 1
      rw [Bool.eq_iff_iff]
      simp [hasL, inR]
      omega
    · rename_i hc
      refine ⟨(runsR_snoc L none q (x, y)).2 ⟨h, hr, by show q.2 + 1 < x; omega⟩, fun n => ?_⟩
      rw [hasL_app]; simp [hasL]
theorem ofGo_right (ps : List Int) (hps : ∀ x ∈ ps, 1 ≤ x ∧ x ≤ 1099511627776) : ∀ (n : Nat) (a : Int) (out : List (Int × Int)), cnt ps (a + 1) < n → runsR none out = true → (∀ m, hasL out m = true ↔ m ∈ ps ∧ m ≤ a) →
    runsR none (ofGo ps n (nextL ps a) out) = true ∧ ∀ m, hasL (ofGo ps n (nextL ps a) out) m = true ↔ m ∈ ps
  | 0, a, out, hn, _, _ => by omega
  | n + 1, a, out, hn, hr, ho => by
    rw [ofGo]
    split
    · rename_i hk
      obtain ⟨h1, h2, h3⟩ := cnt_next hk
      generalize (nextL ps a).1 = x at *
      have hb := hps x h1
      have hl := hasL_last hr (x := a) (fun m hm => ((ho m).1 hm).2)
      obtain ⟨k1, k2⟩ := put_right (x := x) (y := x) hr ⟨by exact hb.1, by show x ≤ x; omega, by exact hb.2⟩ (fun q hq => by have := hl q hq; omega) (ofOut out x) rfl
      refine ofGo_right ps hps n x (ofOut out x) ?_ k1 fun m => ?_
      · have := cnt_lt (y := x + 1) h1 (by omega)
        have h4 : cnt ps x ≤ cnt ps (a + 1) := by
          unfold cnt
          rw [← List.countP_eq_length_filter, ← List.countP_eq_length_filter]
          exact List.countP_mono_left fun z _ hz => by simp at hz ⊢; omega
        omega
      · rw [k2, Bool.or_eq_true, ho]
        simp only [inR, Bool.and_eq_true, decide_eq_true_eq]
        constructor
        · rintro (h | h)
          · exact ⟨h.1, by omega⟩
          · obtain rfl : m = x := by omega
            exact ⟨h1, by omega⟩
        · rintro ⟨hm, hle⟩
          by_cases hma : m ≤ a
          · exact .inl ⟨hm, hma⟩
          · have := h3 m hm (by omega)
            exact .inr ⟨by omega, by omega⟩
    · rename_i hk
      have hk' : (nextL ps a).2 = false := by simpa using hk
      exact ⟨hr, fun m => (ho m).trans ⟨fun h => h.1, fun h => ⟨h, none_next hk' m h⟩⟩⟩
/-- tributaryref06.Of is the set of the numbers. -/
theorem ofL_right {ps : List Int} (hps : ∀ x ∈ ps, 1 ≤ x ∧ x ≤ 1099511627776) : runsR none (ofL ps) = true ∧ ∀ m, hasL (ofL ps) m = true ↔ m ∈ ps := by
  unfold ofL
  refine ofGo_right ps hps (ps.length + 1) 0 [] (by have := cnt_le ps (0 + 1); omega) rfl fun m => ?_
  constructor
  · intro h; simp [hasL] at h
  · rintro ⟨h, h'⟩; have := hps m h; omega

theorem inR_step {r : Int × Int} {ps : List Int} {x y n : Int} (h1 : r.1 ∈ ps) (h2 : r.2 + 1 ∈ ps) (hn : ∀ z ∈ ps, x < z → y ≤ z) (hx : x ≤ n) (hy : n < y) : inR r n = inR r x := by
  rw [Bool.eq_iff_iff]
  simp only [inR, Bool.and_eq_true, decide_eq_true_eq]
  have a1 := hn _ h1
  have a2 := hn _ h2
  omega
theorem hasL_step {l : List (Int × Int)} {ps : List Int} {x y n : Int} (hl : ∀ r ∈ l, r.1 ∈ ps ∧ r.2 + 1 ∈ ps) (hn : ∀ z ∈ ps, x < z → y ≤ z) (hx : x ≤ n) (hy : n < y) : hasL l n = hasL l x := by
  unfold hasL
  rw [Bool.eq_iff_iff, List.any_eq_true, List.any_eq_true]
  constructor
  · rintro ⟨r, hr, h⟩; exact ⟨r, hr, by rw [← inR_step (hl r hr).1 (hl r hr).2 hn hx hy]; exact h⟩
  · rintro ⟨r, hr, h⟩; exact ⟨r, hr, by rw [inR_step (hl r hr).1 (hl r hr).2 hn hx hy]; exact h⟩
theorem hasL_end {l : List (Int × Int)} {ps : List Int} {x n : Int} (hl : ∀ r ∈ l, r.1 ∈ ps ∧ r.2 + 1 ∈ ps) (hn : ∀ z ∈ ps, z ≤ x) (hx : x ≤ n) : hasL l n = false := by
  unfold hasL
  rw [List.any_eq_false]
  intro r hr
  have := hn _ (hl r hr).2
  simp [inR]; omega
theorem hasL_ahead {l : List (Int × Int)} {ps : List Int} {x n : Int} (hl : ∀ r ∈ l, r.1 ∈ ps ∧ r.2 + 1 ∈ ps) (hn : ∀ z ∈ ps, x < z) (hx : n ≤ x) : hasL l n = false := by
  unfold hasL
  rw [List.any_eq_false]
  intro r hr
  have := hn _ (hl r hr).1
  simp [inR]; omega
theorem byGo_right (a b : List (Int × Int)) (how : Int) (ps : List Int) (ha : ∀ r ∈ a, r.1 ∈ ps ∧ r.2 + 1 ∈ ps) (hb : ∀ r ∈ b, r.1 ∈ ps ∧ r.2 + 1 ∈ ps) (hps : ∀ x ∈ ps, 1 ≤ x ∧ x ≤ 1099511627777) :
    ∀ (n : Nat) (x : Int) (out : List (Int × Int)), cnt ps x < n → x ∈ ps → runsR none out = true → (∀ m, hasL out m = true ↔ inn how (hasL a m) (hasL b m) = true ∧ m < x) →
    runsR none (byGo a b how ps n (x, true) out) = true ∧ ∀ m, hasL (byGo a b how ps n (x, true) out) m = inn how (hasL a m) (hasL b m)
  | 0, x, out, hn, _, _, _ => by omega
  | n + 1, x, out, hn, hx, hr, ho => by
    rw [byGo, if_pos rfl]
    have hxb := hps x hx
    have hl := hasL_last hr (x := x - 1) (fun m hm => by have := ((ho m).1 hm).2; omega)
    cases hk : (nextL ps x).2 with
    | true =>
      obtain ⟨h1, h2, h3⟩ := cnt_next hk
      have e : nextL ps x = ((nextL ps x).1, true) := by rw [← hk]
      rw [e]
      generalize (nextL ps x).1 = y at *
      dsimp only
      have hyb := hps y h1
      have hc := cnt_lt hx h2
      have sa := fun m (h1 : x ≤ m) (h2 : m < y) => hasL_step ha h3 h1 h2
      have sb := fun m (h1 : x ≤ m) (h2 : m < y) => hasL_step hb h3 h1 h2
      split
      · rename_i hi
        obtain ⟨k1, k2⟩ := put_right (x := x) (y := y - 1) hr ⟨by exact hxb.1, by show x ≤ y - 1; omega, by show y - 1 ≤ _; omega⟩ (fun q hq => by have := hl q hq; omega) (byOut out x y) rfl
        refine byGo_right a b how ps ha hb hps n y (byOut out x y) (by omega) h1 k1 fun m => ?_
        rw [k2, Bool.or_eq_true, ho]
        simp only [inR, Bool.and_eq_true, decide_eq_true_eq]
        constructor
        · rintro (h | h)
          · exact ⟨h.1, by omega⟩
          · exact ⟨by rw [sa m (by omega) (by omega), sb m (by omega) (by omega)]; exact hi, by omega⟩
        · rintro ⟨hm, hlt⟩
          by_cases h : m < x
          · exact .inl ⟨hm, h⟩
          · exact .inr ⟨by omega, by omega⟩
      · rename_i hi
        refine byGo_right a b how ps ha hb hps n y out (by omega) h1 hr fun m => ?_
        rw [ho]
        constructor
        · rintro ⟨h, h'⟩; exact ⟨h, by omega⟩
        · rintro ⟨h, h'⟩
          refine ⟨h, ?_⟩
          rcases Int.lt_or_le m x with hlt | hle
          · exact hlt
          · rw [sa m hle h', sb m hle h'] at h; exact absurd h hi
    | false =>
      have h3 := none_next hk
      have e : nextL ps x = ((nextL ps x).1, false) := by rw [← hk]
      have ea := fun m (h : x ≤ m) => hasL_end ha h3 h
      have eb := fun m (h : x ≤ m) => hasL_end hb h3 h
      have hi : inn how (hasL a x) (hasL b x) = false := by rw [ea x (Int.le_refl _), eb x (Int.le_refl _)]; simp [inn]
      dsimp only
      rw [hi, e, byGo_false, if_neg (by decide)]
      refine ⟨hr, fun m => ?_⟩
      rw [Bool.eq_iff_iff, ho]
      constructor
      · exact fun h => h.1
      · intro h
        refine ⟨h, ?_⟩
        rcases Int.lt_or_le m x with hlt | hle
        · exact hlt
        · rw [ea m hle, eb m hle] at h; simp [inn] at h
theorem endsL_mem {l : List (Int × Int)} {r : Int × Int} (h : r ∈ l) : r.1 ∈ endsL l ∧ r.2 + 1 ∈ endsL l := by
  unfold endsL
  exact ⟨List.mem_flatMap.2 ⟨r, h, by simp⟩, List.mem_flatMap.2 ⟨r, h, by simp⟩⟩
/-- tributaryref06.By is the set that its rule tells. -/
theorem byL_right {a b : List (Int × Int)} (how : Int) (ha : ∀ r ∈ a, runOk r) (hb : ∀ r ∈ b, runOk r) : runsR none (byL a b how) = true ∧ ∀ m, hasL (byL a b how) m = inn how (hasL a m) (hasL b m) := by
  have hps : ∀ x ∈ endsL a ++ endsL b, 1 ≤ x ∧ x ≤ 1099511627777 := fun x hx => by
    have : ∀ (l : List (Int × Int)), (∀ r ∈ l, runOk r) → x ∈ endsL l → 1 ≤ x ∧ x ≤ 1099511627777 := fun l hl hx => by
      obtain ⟨r, hr, hx⟩ := List.mem_flatMap.1 hx
      have := hl r hr
      unfold runOk at this
      simp at hx
      omega
    rcases List.mem_append.1 hx with h | h
    · exact this a ha h
    · exact this b hb h
  have ea : ∀ r ∈ a, r.1 ∈ endsL a ++ endsL b ∧ r.2 + 1 ∈ endsL a ++ endsL b := fun r hr => ⟨List.mem_append_left _ (endsL_mem hr).1, List.mem_append_left _ (endsL_mem hr).2⟩
  have eb : ∀ r ∈ b, r.1 ∈ endsL a ++ endsL b ∧ r.2 + 1 ∈ endsL a ++ endsL b := fun r hr => ⟨List.mem_append_right _ (endsL_mem hr).1, List.mem_append_right _ (endsL_mem hr).2⟩
  unfold byL
  generalize endsL a ++ endsL b = ps at *
  cases hk : (nextL ps 0).2 with
  | true =>
    obtain ⟨h1, h2, h3⟩ := cnt_next hk
    have e : nextL ps 0 = ((nextL ps 0).1, true) := by rw [← hk]
    rw [e]
    generalize (nextL ps 0).1 = x at *
    refine byGo_right a b how ps ea eb hps (ps.length + 1) x [] (by have := cnt_le ps x; omega) h1 rfl fun m => ?_
    constructor
    · intro h; simp [hasL] at h
    · rintro ⟨h, hlt⟩
      exfalso
      have hq : ∀ z ∈ ps, m < z := fun z hz => by have := h3 z hz (by have := hps z hz; omega); omega
      rw [hasL_ahead ea hq (Int.le_refl _), hasL_ahead eb hq (Int.le_refl _)] at h
      simp [inn] at h
  | false =>
    have h3 := none_next hk
    have e : nextL ps 0 = ((nextL ps 0).1, false) := by rw [← hk]
    rw [e, byGo_false]
    have hn : ps = [] := by
      cases ps with
      | nil => rfl
      | cons z zs => have := h3 z (by simp); have := hps z (by simp); omega
    subst hn
    have : ∀ (l : List (Int × Int)), (∀ r ∈ l, r.1 ∈ ([] : List Int) ∧ r.2 + 1 ∈ ([] : List Int)) → l = [] := fun l hl => by
      cases l with
      | nil => rfl
      | cons z zs => have := (hl z (by simp)).1; simp at this
    rw [this a ea, this b eb]
    exact ⟨rfl, fun m => by simp [hasL, inn]⟩
end Go.Proofs.Ytililfcegeddaaa

namespace Go.Proofs.Ytililfcegeddaaa
open Go.RowKit
set_option maxRecDepth 100000

theorem byOut_len (out : List (Int × Int)) (x y : Int) : (byOut out x y).length ≤ out.length + 1 := by
  unfold byOut
  cases h : out.getLast? with
  | none => simp
  | some r => dsimp only; split <;> simp
theorem byGo_len (a b : List (Int × Int)) (how : Int) (ps : List Int) : ∀ (n : Nat) (s : Int × Bool) (out : List (Int × Int)), (byGo a b how ps n s out).length ≤ out.length + n
  | 0, s, out => by simp [byGo]
  | n + 1, s, out => by
    rw [byGo]
    split
    · have h1 := byGo_len a b how ps n (nextL ps s.1) (if inn how (hasL a s.1) (hasL b s.1) then byOut out s.1 (nextL ps s.1).1 else out)
      have h2 := byOut_len out s.1 (nextL ps s.1).1
      split at h1 <;> rename_i hc
      · rw [if_pos hc]; omega
      · rw [if_neg hc]; omega
    · omega
theorem byL_len (a b : List (Int × Int)) (how : Int) : (byL a b how).length ≤ 2 * a.length + 2 * b.length + 1 := by
  have := byGo_len a b how (endsL a ++ endsL b) ((endsL a ++ endsL b).length + 1) (nextL (endsL a ++ endsL b) 0) []
  have h1 := endsL_len a
  have h2 := endsL_len b
  simp at this
  unfold byL
  simp
  omega

/-- All numbers of a context are right. -/
def SpsOk (c : List Sp) : Prop := ∀ s ∈ c, 0 ≤ s.fr ∧ s.fr ≤ 1099511627777 ∧ 0 ≤ s.hi ∧ s.hi ≤ 1099511627777
theorem partL_ok {c : List Sp} (h : SpsOk c) (dc : Int) : RunsOk (partL c dc) := fun r hr => by
  unfold partL at hr
  obtain ⟨s, hs, rfl⟩ := List.mem_map.1 hr
  exact h s (List.mem_filter.1 hs).1
def ctxByK (a b : List Sp) (how : Int) (k : Nat) : List Sp := (List.range k).flatMap fun (dc : Nat) => spansL (dc : Int) (byL (partL a dc) (partL b dc) how)
def ctxBy (a b : List Sp) (how : Int) : List Sp := ctxByK a b how 4
theorem ctxByK_len (a b : List Sp) (how : Int) : ∀ k, (ctxByK a b how k).length ≤ k * (2 * a.length + 2 * b.length + 1)
  | 0 => by simp [ctxByK]
  | k + 1 => by
    have h := ctxByK_len a b how k
    have h1 := byL_len (partL a k) (partL b k) how
    have h2 := partL_len a k
    have h3 := partL_len b k
    unfold ctxByK at *
    rw [List.range_succ, List.flatMap_append, List.length_append, Nat.add_mul]
    simp only [List.flatMap_cons, List.flatMap_nil, List.append_nil, spansL, List.length_map] at *
    omega

set_option maxHeartbeats 2000000 in
theorem r07by_any (a b : List Sp) (how : Int) (va vb : Value) (w : World) (ha : SlP w w.heap.size 3 SpE va a) (hb : SlP w w.heap.size 3 SpE vb b) (hN : a.length ≤ 50000) (hN' : b.length ≤ 50000) (hR : SpsOk a) (hR' : SpsOk b) (hh : how = 0 ∨ how = 1 ∨ how = 2) :
    Calls Try.prog 58 #[va, vb, .int .i64 how] w (RetO w 86 3 (fun _ => SpE) (ctxBy a b how)) := by
  go_enter Try.func58, Try.ntmps58
  go_wp2_with fail
  go_loopw [7, 9] (fun v i wr => ∃ k : Nat, k ≤ 4 ∧ i = .int .i64 k ∧ OwnP wr w.heap.size 86 3 SpE v (ctxByK a b how k) ∧ Below w.heap.size w wr) (fun _ i _ => 4 - (intOf i).toNat)
  case atStart => exact ⟨0, Nat.zero_le _, rfl, OwnP.nil, Below.refl _ _⟩
  case round =>
    obtain ⟨k, hk, rfl, hown, hbr⟩ := hrel
    have hsz := hbr.size
    by_cases hlt : k < 4
    · have hpa := partL_len a k
      have hpb := partL_len b k
      have hl := byL_len (partL a k) (partL b k) how
      have hcl := ctxByK_len a b how k
      have HL : Hid ((ctxByK a b how k).length + (spansL (k : Int) (byL (partL a k) (partL b k) how)).length ≤ Few) := by
        have : k * (2 * a.length + 2 * b.length + 1) ≤ 3 * (2 * a.length + 2 * b.length + 1) := Nat.mul_le_mul_right _ (by omega)
        unfold Hid Few spansL; rw [List.length_map]; omega
      have HX : Hid (ctxByK a b how (k + 1) = ctxByK a b how k ++ spansL (k : Int) (byL (partL a k) (partL b k) how)) := by
        unfold Hid ctxByK; rw [List.range_succ, List.flatMap_append]; simp
      have HLL := hid hl
      clear hcl hl
      go_wp2_with fail
      refine (r07part_any a k va wr (ha.imp hbr hsz fun _ _ _ h => h) (by omega)).mono ?_
      rintro e w1 ⟨v1, rfl, ho1, hb1⟩
      have hs1 := hb1.size
      go_wp2_with fail
      refine (r07part_any b k vb w1 (hb.imp (hbr.trans (hb1.mono hsz)) (by omega) fun _ _ _ h => h) (by omega)).mono ?_
      rintro e w2 ⟨v2, rfl, ho2, hb2⟩
      have hs2 := hb2.size
      have s1 := (ho1.grow hb2).sl (by unfold Big; omega)
      have s2 := ho2.sl (by unfold Big; omega)
      clear ho1 ho2
      go_wp2_with fail
      refine (r06by_any (partL a k) (partL b k) how v1 v2 w2 s1 s2 (by omega) (by omega) (partL_ok hR k) (partL_ok hR' k) hh).mono ?_
      rintro e w3 ⟨v3, rfl, ho3, hb3⟩
      have hs3 := hb3.size
      have s3 := ho3.sl (by have := HLL.out; unfold Big; omega)
      clear ho3
      go_wp2_with fail
      refine (r07spans_any _ k v3 w3 s3 (by have := HLL.out; omega) ⟨by omega, by omega⟩).mono ?_
      rintro e w4 ⟨v4, rfl, ho4, hb4⟩
      have hs4 := hb4.size
      have s4 := ho4.sl (by have := HL.out; unfold Few at this; unfold Big; omega)
      have hB4 : Below wr.heap.size wr w4 := ((hb1.trans (hb2.mono hs1)).trans (hb3.mono (by omega))).trans (hb4.mono (by omega))
      clear ho4
      go_wp2_with (at_builtin; with_reducible refine wpList_few rfl (.tmp 12) (.tmp 22) _ rfl eiSpan (by decide) (by decide) (fun _ _ h => h.one) rfl (hown.grow hB4) rfl s4 HL.out (by omega) ?_; intro v5 w5 hown5 hb5 _)
      go_roundw
      case rel => exact ⟨k + 1, by omega, by go_num, by rw [HX.out]; exact hown5, (hbr.trans (hB4.mono hsz)).trans hb5⟩
      case measure => simp [intOf]; omega
    · obtain rfl : k = 4 := by omega
      go_wp2_with fail
      go_ret
      exact ⟨_, rfl, hown, hbr⟩

theorem r07union_any (a b : List Sp) (va vb : Value) (w : World) (ha : SlP w w.heap.size 3 SpE va a) (hb : SlP w w.heap.size 3 SpE vb b) (hN : a.length ≤ 50000) (hN' : b.length ≤ 50000) (hR : SpsOk a) (hR' : SpsOk b) :
    Calls Try.prog 39 #[va, vb] w (RetO w 86 3 (fun _ => SpE) (ctxBy a b 0)) := by
  go_enter Try.func39, Try.ntmps39
  go_wp2_with fail
  refine (r07by_any a b 0 va vb w ha hb hN hN' hR hR' (.inl rfl)).mono ?_
  rintro e w1 ⟨v, rfl, h⟩
  go_wp2_with fail
  go_ret
  exact ⟨v, rfl, h⟩

def numsL (l : List Dt) (dc : Int) : List Int := (l.filter fun d => d.dc == dc).map fun d => d.n
def ctxOfK (l : List Dt) (k : Nat) : List Sp := (List.range k).flatMap fun (dc : Nat) => spansL (dc : Int) (ofL (numsL l dc))
def ctxOf (l : List Dt) : List Sp := ctxOfK l 4
theorem numsL_take {c : List Dt} {k : Nat} {x : Dt} (h : c[k]? = some x) (dc : Int) : numsL (c.take (k + 1)) dc = numsL (c.take k) dc ++ (if x.dc = dc then [x.n] else []) := by
  unfold numsL
  rw [List.take_add_one, h]
  by_cases hd : x.dc = dc <;> simp [hd]
theorem numsL_len (c : List Dt) (dc : Int) : (numsL c dc).length ≤ c.length := by
  unfold numsL; rw [List.length_map]; exact List.length_filter_le _ _
theorem ctxOfK_len (l : List Dt) : ∀ k, (ctxOfK l k).length ≤ k * (l.length + 1)
  | 0 => by simp [ctxOfK]
  | k + 1 => by
    have h := ctxOfK_len l k
    have h1 := ofL_len (numsL l k)
    have h2 := numsL_len l k
    unfold ctxOfK at *
    rw [List.range_succ, List.flatMap_append, List.length_append, Nat.add_mul]
    simp only [List.flatMap_cons, List.flatMap_nil, List.append_nil, spansL, List.length_map] at *
    omega

set_option maxHeartbeats 2000000 in
theorem r07of_any (l : List Dt) (vl : Value) (w : World) (hl : SlP w w.heap.size 2 DtE vl l) (hN : l.length ≤ 100000) (hR : ∀ d ∈ l, 0 ≤ d.n ∧ d.n ≤ 1099511627778) :
    Calls Try.prog 48 #[vl] w (RetO w 86 3 (fun _ => SpE) (ctxOf l)) := by
  obtain ⟨A, n, rfl, b1, b2, b3⟩ := hl
  unfold Big at b2
  go_enter Try.func48, Try.ntmps48
  go_wp2_with fail
  go_loopw [3, 7] (fun v i wr => ∃ k : Nat, k ≤ 4 ∧ i = .int .i64 k ∧ OwnP wr w.heap.size 86 3 SpE v (ctxOfK l k) ∧ Below w.heap.size w wr) (fun _ i _ => 4 - (intOf i).toNat)
  case atStart => exact ⟨0, Nat.zero_le _, rfl, OwnP.nil, Below.refl _ _⟩
  case round =>
    obtain ⟨k, hk, rfl, hown, hbr⟩ := hrel
    have hsz := hbr.size
    by_cases hlt : k < 4
    · have HL : Hid ((ctxOfK l k).length + (spansL (k : Int) (ofL (numsL l k))).length ≤ Few) := by
        have h1 := ofL_len (numsL l k)
        have h2 := numsL_len l k
        have hcl := ctxOfK_len l k
        have : k * (l.length + 1) ≤ 3 * (l.length + 1) := Nat.mul_le_mul_right _ (by omega)
        unfold Hid Few spansL; rw [List.length_map]; omega
      have HX : Hid (ctxOfK l (k + 1) = ctxOfK l k ++ spansL (k : Int) (ofL (numsL l k))) := by
        unfold Hid ctxOfK; rw [List.range_succ, List.flatMap_append]; simp
      have hlen := numsL_len l k
      have hlt' : decide ((k : Int) < 4) = true := by simp; omega
      go_wp2_with fail
      obtain ⟨wo, rfl⟩ : ∃ wo : World, wo = wr := ⟨_, rfl⟩
      go_loopw [5, 12] (fun v i wr => ∃ j : Nat, j ≤ l.length ∧ i = .int .i64 j ∧ OwnP wr wo.heap.size 2 1 InE v (numsL (l.take j) k) ∧ Below wo.heap.size wo wr) (fun _ i _ => l.length - (intOf i).toNat)
      case atStart => exact ⟨0, Nat.zero_le _, rfl, OwnP.nil, Below.refl _ _⟩
      case round =>
        obtain ⟨j, hj, rfl, hin, hbi⟩ := hrel
        have hsi := hbi.size
        by_cases hjl : j < l.length
        · obtain ⟨x, hx⟩ : ∃ x, l[j]? = some x := ⟨_, List.getElem?_eq_getElem hjl⟩
          obtain ⟨b, off, rfl, hbB, hc⟩ := b3 (by rintro rfl; simp at hjl)
          obtain ⟨cs, ⟨rfl, hok⟩, _, hu⟩ := hc j _ hx
          have e0 : wr.cell? ⟨b, off + j * 2, none⟩ = some (.int .i64 x.dc) := ((hbi.cell (by show b < _; omega)).trans (hbr.cell hbB)).trans (hu 0 _ rfl)
          have e1 : wr.cell? ⟨b, off + j * 2 + 1, none⟩ = some (.int .i64 x.n) := ((hbi.cell (by show b < _; omega)).trans (hbr.cell hbB)).trans (hu 1 _ rfl)
          have HT := hid (numsL_take hx k)
          have HLI : Hid ((numsL (l.take j) k).length + [x.n].length ≤ Few) := by
            have := numsL_len (l.take j) k
            unfold Hid Few; simp at this ⊢; omega
          have JN : Hid (InE x.n [.int .i64 x.n]) := ⟨rfl, hok.n⟩
          clear hu hx hc b3 hok
          by_cases hd : x.dc = k
          · have hd' : (x.dc == (k : Int)) = true := by simpa using hd
            have HD := hid hd
            clear hd
            go_wp2_with (at_builtin; with_reducible refine wpList_few rfl (.tmp 22) (.tmp 28) _ rfl eiInt64 (by decide) (by decide) (fun _ _ h => h.one) rfl (hin.alloc _) rfl (SlP.one JN.out rfl _ rfl) HLI.out (by rw [World.size_alloc]; omega) ?_; intro v1 w1 hown1 hb1 _)
            go_roundw
            case rel => exact ⟨j + 1, by omega, by go_num, by rw [HT.out, if_pos HD.out]; exact hown1, (hbi.alloc hsi _).trans hb1⟩
            case measure => simp [intOf]; omega
          · have hd' : (x.dc == (k : Int)) = false := by simpa using hd
            have HD := hid hd
            clear hd
            go_wp2_with fail
            go_roundw
            case rel => exact ⟨j + 1, by omega, by go_num, by rw [HT.out, if_neg HD.out, List.append_nil]; exact hin, hbi⟩
            case measure => simp [intOf]; omega
        · obtain rfl : j = l.length := by omega
          rw [List.take_of_length_le (Nat.le_refl _)] at hin
          have sin := hin.sl (by unfold Big; omega)
          have hnr : Hid (∀ x ∈ numsL l k, 0 ≤ x ∧ x ≤ 1099511627778) := fun x hx => by
            unfold numsL at hx
            obtain ⟨d, hd, rfl⟩ := List.mem_map.1 hx
            exact hR d (List.mem_filter.1 hd).1
          clear hin
          go_wp2_with fail
          refine (r06of_any (numsL l k) _ wr sin (by omega) hnr.out).mono ?_
          rintro e w1 ⟨v1, rfl, ho1, hb1⟩
          have hs1 := hb1.size
          have hol := ofL_len (numsL l k)
          have s1 := ho1.sl (by unfold Big; omega)
          clear ho1
          go_wp2_with fail
          refine (r07spans_any _ k v1 w1 s1 (by omega) ⟨by omega, by omega⟩).mono ?_
          rintro e w4 ⟨v4, rfl, ho4, hb4⟩
          have hs4 := hb4.size
          have s4 := ho4.sl (by have := HL.out; unfold Few at this; unfold Big; omega)
          have hB4 : Below wo.heap.size wo w4 := (hbi.trans (hb1.mono hsi)).trans (hb4.mono (by omega))
          clear ho4
          go_wp2_with (at_builtin; with_reducible refine wpList_few rfl (.tmp 31) (.tmp 35) _ rfl eiSpan (by decide) (by decide) (fun _ _ h => h.one) rfl (hown.grow hB4) rfl s4 HL.out (by omega) ?_; intro v5 w5 hown5 hb5 _)
          go_roundw
          case rel => exact ⟨k + 1, by omega, by go_num, by rw [HX.out]; exact hown5, (hbr.trans (hB4.mono hsz)).trans hb5⟩
          case measure => simp [intOf]; omega
    · obtain rfl : k = 4 := by omega
      go_wp2_with fail
      go_ret
      exact ⟨_, rfl, hown, hbr⟩

end Go.Proofs.Ytililfcegeddaaa

namespace Go.Proofs.Ytililfcegeddaaa
open Go.RowKit
set_option maxRecDepth 100000

theorem SlA.nil {α : Type} {w : World} {ok : Nat → Prop} {sz : Nat} {E : α → List Value → Prop} : SlA w ok sz E (.slice none 0 0) ([] : List α) := ⟨none, 0, rfl, Nat.le_refl _, by simp, fun h => absurd rfl h⟩

theorem r08leaves_any (t : Tr) (w : World) (ve vk : Value) (h : t.rd w w.heap.size ve vk) (hN : t.sz ≤ 100000) :
    Calls Try.prog 47 #[.agg #[ve, vk]] w (RetD w 60 5 LfA (fun _ => False) (t.lvs [])) := by
  obtain ⟨A3, n3, A4, n4, rfl, rfl⟩ := rd_shape h
  have hr := rd_below ((Below.refl _ w).alloc (Nat.le_refl _) (.cells #[.slice A3 t.es.length n3, .slice A4 t.ks.length n4] 25)) (by simp : w.heap.size ≤ (w.alloc (.cells #[.slice A3 t.es.length n3, .slice A4 t.ks.length n4] 25)).heap.size) _ _ _ h
  have HR := hid hr
  clear hr h
  go_enter Try.func47, Try.ntmps47
  go_wp2_with fail
  refine (r08below_any t [] (fun _ => False) _ _ _ _ HR.out SlA.nil (fun _ h => h.elim) (by simpa using hN)).mono ?_
  rintro e w1 ⟨v, rfl, hv, hb⟩
  have hs := hb.size
  simp only [World.size_alloc] at hs hb
  go_wp2_with fail
  go_ret
  refine ⟨v, rfl, (hv.mono (by simp)).weak LfA.mon fun b hb => ?_, ((Below.refl _ w).alloc (Nat.le_refl _) _).trans (hb.mono (by omega))⟩
  rcases hb with h | h
  · exact h.elim
  · refine .inr ?_; rw [World.size_alloc] at h; omega

mutual
theorem lvs_dots : ∀ (t : Tr) (p : List ByteArray), (t.lvs p).map (fun x => x.2.dot) = t.dots
  | .mk es ks, p => by rw [Tr.lvs, Tr.dots, List.map_append, lvsL_dots ks p, List.map_map]; rfl
theorem lvsL_dots : ∀ (ks : List (ByteArray × Tr)) (p : List ByteArray), (Tr.lvsL ks p).map (fun x => x.2.dot) = Tr.dotsL ks
  | [], p => by rw [Tr.lvsL, Tr.dotsL]; rfl
  | (k, t) :: ks, p => by rw [Tr.lvsL, Tr.dotsL, List.map_append, lvs_dots t, lvsL_dots ks]
end
theorem dots_len (t : Tr) : t.dots.length ≤ t.sz := by rw [← lvs_dots t [], List.length_map]; exact lvs_len t []

set_option maxHeartbeats 1000000 in
theorem r08dots_any (t : Tr) (w : World) (ve vk : Value) (h : t.rd w w.heap.size ve vk) (hN : t.sz ≤ 90000) (hR : ∀ d ∈ t.dots, 0 ≤ d.n ∧ d.n ≤ 1099511627778) :
    Calls Try.prog 23 #[.agg #[ve, vk]] w (RetO w 86 3 (fun _ => SpE) (ctxOf t.dots)) := by
  obtain ⟨A3, n3, A4, n4, rfl, rfl⟩ := rd_shape h
  have hr := rd_below ((Below.refl _ w).alloc (Nat.le_refl _) (.cells #[.slice A3 t.es.length n3, .slice A4 t.ks.length n4] 25)) (by simp : w.heap.size ≤ (w.alloc (.cells #[.slice A3 t.es.length n3, .slice A4 t.ks.length n4] 25)).heap.size) _ _ _ h
  have HR := hid hr
  have hll := lvs_len t []
  have hdl := dots_len t
  have hld := hid (lvs_dots t [])
  clear hr h
  go_enter Try.func23, Try.ntmps23
  go_wp2_with fail
  refine (r08leaves_any t _ _ _ HR.out (by omega)).mono ?_
  rintro e w1 ⟨v, rfl, hv, hb1⟩
  have hs1 := hb1.size
  simp only [World.size_alloc] at hs1 hb1
  have hB1 : Below w.heap.size w w1 := ((Below.refl _ w).alloc (Nat.le_refl _) _).trans (hb1.mono (by omega))
  obtain ⟨A, c, rfl, l1, l2, l3⟩ := hv.sl LfA.mon (by unfold Big; omega)
  unfold Big at l2
  clear hv
  go_wp2_with fail
  go_loopw [3, 10] (fun v i wr => ∃ k : Nat, k ≤ (t.lvs []).length ∧ i = .int .i64 k ∧ OwnP wr w1.heap.size 27 2 DtE v (((t.lvs []).take k).map (fun x => x.2.dot)) ∧ Below w1.heap.size w1 wr) (fun _ i _ => (t.lvs []).length - (intOf i).toNat)
  case atStart => exact ⟨0, Nat.zero_le _, rfl, OwnP.nil, Below.refl _ _⟩
  case round =>
    obtain ⟨k, hk, rfl, hown, hb⟩ := hrel
    have hsz := hb.size
    by_cases hlt : k < (t.lvs []).length
    · obtain ⟨x, hx⟩ : ∃ x, (t.lvs [])[k]? = some x := ⟨_, List.getElem?_eq_getElem hlt⟩
      obtain ⟨b, off, rfl, hbB, hc⟩ := l3 (by intro e; rw [e] at hlt; simp at hlt)
      obtain ⟨cs, ⟨A7, c7, rfl, _, hok⟩, _, hu⟩ := hc k _ hx
      have e0 : wr.cell? ⟨b, off + k * 5 + 1, none⟩ = some (.int .i64 x.2.dc) := (hb.cell hbB).trans (hu 1 _ rfl)
      have e1 : wr.cell? ⟨b, off + k * 5 + 2, none⟩ = some (.int .i64 x.2.n) := (hb.cell hbB).trans (hu 2 _ rfl)
      have HX : Hid (((t.lvs []).take (k + 1)).map (fun x => x.2.dot) = ((t.lvs []).take k).map (fun x => x.2.dot) ++ [x.2.dot]) := by
        unfold Hid; rw [List.take_add_one, hx]; simp
      have HL : Hid ((((t.lvs []).take k).map (fun x => x.2.dot)).length + [x.2.dot].length ≤ Few) := by unfold Hid Few; simp; omega
      have JN : Hid (DtE x.2.dot [.int .i64 x.2.dc, .int .i64 x.2.n]) := ⟨rfl, hok.dc, hok.n⟩
      clear hu hx hc l3 hok
      go_wp2_with (at_builtin; with_reducible refine wpList_few rfl (.tmp 13) (.tmp 20) _ rfl eiDot (by decide) (by decide) (fun _ _ h => h.one) rfl (hown.alloc _) rfl (SlP.one JN.out rfl _ rfl) HL.out (by rw [World.size_alloc]; omega) ?_; intro v1 w2 hown1 hb2 _)
      go_roundw
      case rel => exact ⟨k + 1, by omega, by go_num, by rw [HX.out]; exact hown1, (hb.alloc (by omega) _).trans hb2⟩
      case measure => simp [intOf]; omega
    · obtain rfl : k = (t.lvs []).length := by omega
      rw [List.take_of_length_le (Nat.le_refl _), hld.out] at hown
      have sown := hown.sl (by unfold Big; omega)
      clear hown
      go_wp2_with fail
      refine (r07of_any t.dots _ wr sown (by omega) hR).mono ?_
      rintro e w3 ⟨v3, rfl, hv3, hb3⟩
      go_wp2_with fail
      go_ret
      exact ⟨v3, rfl, hv3.mono (by omega), (hB1.trans (hb.mono (by omega))).trans (hb3.mono (by omega))⟩
end Go.Proofs.Ytililfcegeddaaa

namespace Go.Proofs.Ytililfcegeddaaa
open Go.RowKit
set_option maxRecDepth 100000

theorem entsB_mem : ∀ (es : List En) (p : Option Dt), entsB p es = true → ∀ e ∈ es, e.right = true
  | [], _, _, _, h => by cases h
  | e :: es, p, h, x, hx => by
    rw [entsB_cons] at h
    simp only [Bool.and_eq_true] at h
    rcases List.mem_cons.1 hx with rfl | hx
    · exact h.1.1
    · exact entsB_mem es _ h.2 x hx
theorem rightL_mem : ∀ (ks : List Kd) (p : Option ByteArray) (deep : Int), Tr.rightL p ks deep = true → ∀ k t, (k, t) ∈ ks → t.right (deep - 1) = true
  | [], _, _, _, _, _, h => by cases h
  | (k', t') :: ks, p, deep, h, k, t, hk => by
    rw [rightL_cons] at h
    simp only [Bool.and_eq_true] at h
    rcases List.mem_cons.1 hk with e | hk
    · cases e; exact h.1.2
    · exact rightL_mem ks _ deep h.2 k t hk
theorem dotsL_mem : ∀ (ks : List Kd) (x : Dt), x ∈ Tr.dotsL ks → ∃ k t, (k, t) ∈ ks ∧ x ∈ t.dots
  | [], x, h => by rw [Tr.dotsL] at h; cases h
  | (k, t) :: ks, x, h => by
    rw [Tr.dotsL] at h
    rcases List.mem_append.1 h with h | h
    · exact ⟨k, t, by simp, h⟩
    · obtain ⟨k', t', h1, h2⟩ := dotsL_mem ks x h
      exact ⟨k', t', by simp [h1], h2⟩
theorem right_dots (t : Tr) : ∀ (deep : Int), t.right deep = true → ∀ x ∈ t.dots, x.right = true := by
  induction t using Tr.ind with
  | h es ks ih =>
    intro deep h x hx
    rw [Tr.right] at h
    simp only [Bool.and_eq_true] at h
    rw [Tr.dots] at hx
    rcases List.mem_append.1 hx with hx | hx
    · obtain ⟨e, he, rfl⟩ := List.mem_map.1 hx
      have := entsB_mem es none h.1.2 e he
      simp [En.right] at this
      exact this.1
    · obtain ⟨k, t, hk, hx⟩ := dotsL_mem ks x hx
      exact ih k t hk (deep - 1) (rightL_mem ks none deep h.2 k t hk) x hx
theorem right_nums {t : Tr} {deep : Int} (h : t.right deep = true) : ∀ d ∈ t.dots, 0 ≤ d.n ∧ d.n ≤ 1099511627778 := fun d hd => by
  have := right_dots t deep h d hd
  simp [Dt.right] at this
  omega

def chkT (t : Tr) (d : Dt) : Bool := t.right 5 && d.right && !hasC (ctxOf t.dots) d
set_option maxHeartbeats 4000000 in
theorem r10check_any (t : Tr) (d : Dt) (ve vk : Value) (w : World) (h : t.rd w w.heap.size ve vk) (hN : t.sz ≤ 90000) :
    Calls Try.prog 13 #[.agg #[ve, vk], .agg #[.int .i64 d.dc, .int .i64 d.n]] w fun e w' => e = .returned (.bool (chkT t d)) ∧ Below w.heap.size w w' := by
  obtain ⟨A3, n3, A4, n4, rfl, rfl⟩ := rd_shape h
  have HB : Hid (∀ w', Below (w.heap.size + 1 + 1) ((w.alloc (.cells #[.slice A3 t.es.length n3, .slice A4 t.ks.length n4] 25)).alloc (.cells #[.int .i64 d.dc, .int .i64 d.n] 27)) w' → Below w.heap.size w w' ∧ (w'.cell? ⟨w.heap.size, 0, none⟩ = some (.slice A3 t.es.length n3) ∧ w'.cell? ⟨w.heap.size, 1, none⟩ = some (.slice A4 t.ks.length n4) ∧ w'.cell? ⟨w.heap.size + 1, 0, none⟩ = some (.int .i64 d.dc) ∧ w'.cell? ⟨w.heap.size + 1, 1, none⟩ = some (.int .i64 d.n)) ∧ t.rd w' w'.heap.size (.slice A3 t.es.length n3) (.slice A4 t.ks.length n4)) := fun w' hb => by
    have hB : Below w.heap.size w w' := (((Below.refl _ w).alloc (Nat.le_refl _) _).alloc (by simp) _).trans (hb.mono (by omega))
    refine ⟨hB, ⟨?_, ?_, ?_, ?_⟩, rd_below hB hB.size _ _ _ h⟩
    · rw [hb.cell (p := ⟨w.heap.size, 0, none⟩) (by simp; omega), World.cell?_alloc_past _ _ _ (by simp), World.cell?_alloc_new]; rfl
    · rw [hb.cell (p := ⟨w.heap.size, 1, none⟩) (by simp; omega), World.cell?_alloc_past _ _ _ (by simp), World.cell?_alloc_new]; rfl
    · rw [hb.cell (p := ⟨w.heap.size + 1, 0, none⟩) (by simp), World.cell?_alloc_at _ _ _ _ (by simp)]; rfl
    · rw [hb.cell (p := ⟨w.heap.size + 1, 1, none⟩) (by simp), World.cell?_alloc_at _ _ _ _ (by simp)]; rfl
  have hw0 := HB.out _ (Below.refl _ _)
  have f0 := far_cell (B := w.heap.size + 1 + 1) hw0.2.1.1 (by omega)
  have f1 := far_cell (B := w.heap.size + 1 + 1) hw0.2.1.2.1 (by omega)
  have f2 := far_cell (B := w.heap.size + 1 + 1) hw0.2.1.2.2.1 (by omega)
  have f3 := far_cell (B := w.heap.size + 1 + 1) hw0.2.1.2.2.2 (by omega)
  clear hw0
  go_enter Try.func13, Try.ntmps13
  rcases hr : t.right 5
  · go_upto_region 1 with (fail)
    refine wp_region_far (w.heap.size + 1 + 1) (by kernel_rfl) (by kernel_rfl) ?_
    repeat (go_big_quiet_step ((go_at_call 16; exact Calls.far_all (by simp) (fun w' hb' => hr ▸ r08Right_any t w' _ _ (HB.out w' hb').2.2))))
    refine wpQuiet_nil ?_
    intro wq hbq
    go_wp2_with fail
    go_ret
    exact ⟨ret_bool (by rw [chkT, hr]; rfl), (HB.out _ hbq).1⟩
  rcases hd : d.right
  · go_upto_region 1 with (fail)
    refine wp_region_far (w.heap.size + 1 + 1) (by kernel_rfl) (by kernel_rfl) ?_
    repeat (go_big_quiet_step (first | (go_at_call 16; exact Calls.far_all (by simp) (fun w' hb' => hr ▸ r08Right_any t w' _ _ (HB.out w' hb').2.2)) | (go_at_call 34; exact Calls.far_of (by simp) (hd ▸ r05right_any d _))))
    refine wpQuiet_nil ?_
    intro wq hbq
    go_wp2_with fail
    go_ret
    exact ⟨ret_bool (by rw [chkT, hr, hd]; rfl), (HB.out _ hbq).1⟩
  · have HR := hid (right_nums hr)
    have HLC : Hid ((ctxOf t.dots).length ≤ 999999) := by have := ctxOfK_len t.dots 4; have := dots_len t; unfold Hid ctxOf; omega
    go_upto_region 1 with (fail)
    go_region_held3 (fun w' => w'.cell? ⟨w.heap.size, 0, none⟩ = some (.slice A3 t.es.length n3) ∧ w'.cell? ⟨w.heap.size, 1, none⟩ = some (.slice A4 t.ks.length n4) ∧ w'.cell? ⟨w.heap.size + 1, 0, none⟩ = some (.int .i64 d.dc) ∧ w'.cell? ⟨w.heap.size + 1, 1, none⟩ = some (.int .i64 d.n))
      (first | go_keep | exact (HB.out _ hb4).2.1 | exact (HB.out _ hb3).2.1 | exact (HB.out _ hb2).2.1 | exact (HB.out _ hb1).2.1)
      (first | (go_at_call 16; go_loud ((refine (r08Right_any t _ _ _ (HB.out _ ((Below.refl _ _).drew)).2.2).mono ?_); rw [hr]; rintro e w1 ⟨rfl, hb⟩; have hb1 := ((Below.refl (w.heap.size + 1 + 1) ((w.alloc (.cells #[.slice A3 t.es.length n3, .slice A4 t.ks.length n4] 25)).alloc (.cells #[.int .i64 d.dc, .int .i64 d.n] 27))).drew).trans (hb.mono (by simp))))
             | (go_at_call 34; go_loud ((refine (r05right_any d w1).mono ?_); rw [hd]; rintro e w2 ⟨rfl, hb⟩; have hb2 := hb1.trans (hb.mono (by have := hb1.size; simpa using this))))
             | (go_at_call 23; go_loud ((refine (r08dots_any t w2 _ _ (HB.out _ hb2).2.2 hN HR.out).mono ?_); rintro e w3 ⟨vd, rfl, ho, hb⟩; have hb3 := hb2.trans (hb.mono (by have := hb2.size; simpa using this)); have hsl := ho.sl (by have := HLC.out; unfold Big; omega)))
             | (go_at_call 35; go_loud ((refine (r07has_any (ctxOf t.dots) d _ w3 hsl HLC.out).mono ?_); rintro e w4 ⟨rfl, hb⟩; have hb4 := hb3.trans (hb.mono (by have := hb3.size; simpa using this)))))
    go_wp2_with fail
    go_ret
    exact ⟨ret_bool (by rw [chkT, hr, hd]; rfl), (HB.out _ hb4).1⟩
end Go.Proofs.Ytililfcegeddaaa

namespace Go.Proofs.Ytililfcegeddaaa
open Go.RowKit
set_option maxRecDepth 100000

def joinS (out : List (Int × Int)) (r : Int × Int) : List (Int × Int) :=
  match out.getLast? with
  | some q => if r.1 ≤ q.2 + 1 then out.set (out.length - 1) (q.1, max q.2 r.2) else out ++ [r]
  | none => [r]
def joinL (l : List (Int × Int)) : List (Int × Int) := l.foldl joinS []
theorem joinL_take {l : List (Int × Int)} {k : Nat} {x : Int × Int} (h : l[k]? = some x) : joinL (l.take (k + 1)) = joinS (joinL (l.take k)) x := by
  unfold joinL; rw [List.take_add_one, h, List.foldl_append]; rfl
theorem joinS_len (out : List (Int × Int)) (r : Int × Int) : (joinS out r).length ≤ out.length + 1 := by
  unfold joinS; split
  · split <;> simp
  · simp
theorem joinL_len (l : List (Int × Int)) : ∀ k, (joinL (l.take k)).length ≤ k
  | 0 => by simp [joinL]
  | k + 1 => by
    cases h : l[k]? with
    | none =>
      have h1 := List.getElem?_eq_none_iff.1 h
      rw [List.take_of_length_le (by omega), ← List.take_of_length_le (i := k) h1]
      have := joinL_len l k
      rw [List.take_of_length_le h1] at this ⊢; omega
    | some x =>
      rw [joinL_take h]
      have := joinL_len l k
      have := joinS_len (joinL (l.take k)) x
      omega
theorem joinS_ok {out : List (Int × Int)} {r : Int × Int} (h : RunsOk out) (hr : 0 ≤ r.1 ∧ r.1 ≤ 1099511627777 ∧ 0 ≤ r.2 ∧ r.2 ≤ 1099511627777) : RunsOk (joinS out r) := by
  intro x hx
  unfold joinS at hx
  split at hx
  · rename_i q hq
    split at hx
    · rcases List.mem_or_eq_of_mem_set hx with hx | rfl
      · exact h x hx
      · have := h q (List.mem_of_getLast? hq)
        refine ⟨this.1, this.2.1, ?_, ?_⟩ <;> simp only [Int.max_def] <;> split <;> omega
    · rcases List.mem_append.1 hx with hx | hx
      · exact h x hx
      · simp at hx; subst hx; exact hr
  · simp at hx; subst hx; exact hr
theorem joinL_ok {l : List (Int × Int)} (h : RunsOk l) : RunsOk (joinL l) := by
  unfold joinL
  suffices ∀ (l out : List (Int × Int)), RunsOk l → RunsOk out → RunsOk (l.foldl joinS out) from this l [] h (fun _ h => by cases h)
  intro l
  induction l with
  | nil => intro out _ ho; exact ho
  | cons x l ih => intro out hl ho; exact ih _ (fun r hr => hl r (List.mem_cons_of_mem _ hr)) (joinS_ok ho (hl x (by simp)))

theorem joinS_snoc (L : List (Int × Int)) (q r : Int × Int) : joinS (L ++ [q]) r = if r.1 ≤ q.2 + 1 then L ++ [(q.1, max q.2 r.2)] else L ++ [q] ++ [r] := by
  unfold joinS
  rw [List.getLast?_concat]
  simp
/-- What is joined behind a set, in order, is a set: of the numbers of both. -/
theorem joinS_right {out : List (Int × Int)} {r : Int × Int} (h : runsR none out = true) (hr : runOk r) (ho : ∀ q, out.getLast? = some q → q.1 ≤ r.1) :
    runsR none (joinS out r) = true ∧ (∀ n, hasL (joinS out r) n = (hasL out n || inR r n)) ∧ (∀ q, (joinS out r).getLast? = some q → q.1 ≤ r.1) := by
  rcases List.eq_nil_or_concat out with rfl | ⟨L, q, rfl⟩
  · refine ⟨?_, fun n => ?_, fun q hq => ?_⟩
    · exact (runsR_one none r).2 ⟨hr, rfl⟩
    · simp [joinS, hasL]
    · simp [joinS] at hq; subst hq; exact Int.le_refl _
  · rw [List.concat_eq_append] at *
    have hq := ho q (by simp)
    have hqo := runsR_last L none q h
    rw [joinS_snoc]
    unfold runOk at *
    split
    · rename_i hc
      refine ⟨runsR_wide L none q _ h (by omega) (by omega), fun n => ?_, fun x hx => ?_⟩
      · rw [hasL_app, hasL_app, Bool.or_assoc]
        congr 1
        rw [Bool.eq_iff_iff]
        simp [hasL, inR]
        omega
      · simp at hx; subst hx; exact hq
    · rename_i hc
      refine ⟨(runsR_snoc L none q r).2 ⟨h, hr, by omega⟩, fun n => ?_, fun x hx => ?_⟩
      · rw [hasL_app]; simp [hasL]
      · simp at hx; subst hx; exact Int.le_refl _
theorem joinL_right {l : List (Int × Int)} (hl : ∀ r ∈ l, runOk r) (hs : l.Pairwise fun a b => a.1 ≤ b.1) : runsR none (joinL l) = true ∧ ∀ n, hasL (joinL l) n = hasL l n := by
  suffices ∀ (l out : List (Int × Int)), (∀ r ∈ l, runOk r) → l.Pairwise (fun a b => a.1 ≤ b.1) → runsR none out = true → (∀ q, out.getLast? = some q → ∀ r ∈ l, q.1 ≤ r.1) →
      runsR none (l.foldl joinS out) = true ∧ ∀ n, hasL (l.foldl joinS out) n = (hasL out n || hasL l n) by
    have := this l [] hl hs rfl (fun q h => by simp at h)
    exact ⟨this.1, fun n => by rw [joinL, this.2]; simp [hasL]⟩
  intro l
  induction l with
  | nil => intro out _ _ h _; exact ⟨h, fun n => by simp [hasL]⟩
  | cons r l ih =>
    intro out hl hs h ho
    rw [List.pairwise_cons] at hs
    obtain ⟨j1, j2, j3⟩ := joinS_right h (hl r (by simp)) (fun q hq => ho q hq r (by simp))
    obtain ⟨k1, k2⟩ := ih (joinS out r) (fun x hx => hl x (by simp [hx])) hs.2 j1 (fun q hq x hx => Int.le_trans (j3 q hq) (hs.1 x hx))
    refine ⟨k1, fun n => ?_⟩
    rw [List.foldl_cons, k2, j2, Bool.or_assoc]; simp [hasL]

theorem OwnP.drewN {α : Type} {w : World} {base : Nat} {e : TypeId} {sz : Nat} {E : α → List Value → Prop} {v : Value} {xs : List α} (h : OwnP w base e sz E v xs) (n : Nat) : OwnP (w.drewN n) base e sz E v xs := h.keep fun _ _ => rfl
theorem below_dn {B : Nat} {a w : World} (h : Below B a w) (n : Nat) : Below B a (w.drewN n) := h.trans ⟨rfl, rfl, rfl, Nat.le_refl _, fun _ _ => rfl⟩
set_option maxHeartbeats 4000000 in
theorem sjoined_any (l : List (Int × Int)) (v : Value) (w : World) (h : SlP w w.heap.size 2 RuE v l) (hN : l.length ≤ 900000) (hR : RunsOk l) :
    Calls Try.prog 79 #[v] w (RetO w 107 2 (fun _ => RuE) (joinL l)) := by
  obtain ⟨A, n, rfl, b1, b2, b3⟩ := h
  unfold Big at b2
  go_enter Try.func79, Try.ntmps79
  go_wp2_with fail
  go_loopw [3, 9] (fun v i wr => ∃ k : Nat, k ≤ l.length ∧ i = .int .i64 k ∧ OwnP wr w.heap.size 107 2 RuE v (joinL (l.take k)) ∧ Below w.heap.size w wr) (fun _ i _ => l.length - (intOf i).toNat)
  case atStart => exact ⟨0, Nat.zero_le _, rfl, OwnP.nil, Below.refl _ _⟩
  case round =>
    obtain ⟨k, hk, rfl, hown, hb⟩ := hrel
    have hsz := hb.size
    by_cases hlt : k < l.length
    · obtain ⟨r, hx⟩ : ∃ x, l[k]? = some x := ⟨_, List.getElem?_eq_getElem hlt⟩
      obtain ⟨b, off, rfl, hbB, hc⟩ := b3 (by rintro rfl; simp at hlt)
      obtain ⟨cs, ⟨rfl, hok⟩, _, hu⟩ := hc k _ hx
      have e0 : wr.cell? ⟨b, off + k * 2, none⟩ = some (.int .i64 r.1) := (hb.cell hbB).trans (hu 0 _ rfl)
      have e1 : wr.cell? ⟨b, off + k * 2 + 1, none⟩ = some (.int .i64 r.2) := (hb.cell hbB).trans (hu 1 _ rfl)
      have hr := hR r (List.mem_of_getElem? hx)
      have HJ : Hid (joinL (l.take (k + 1)) = joinS (joinL (l.take k)) r) := joinL_take hx
      have hol := joinL_len l k
      have hjo : RunsOk (joinL (l.take k)) := joinL_ok fun x hx => hR x (List.mem_of_mem_take hx)
      have HRE : Hid (RuE r [.int .i64 r.1, .int .i64 r.2]) := ⟨rfl, hok⟩
      generalize joinL (l.take k) = out at *
      have HL : Hid (out.length + [r].length ≤ Few) := by unfold Hid Few; simp; omega
      clear hu hc b3 hx hok
      rcases Nat.eq_zero_or_pos out.length with hz | hz
      · obtain rfl : out = [] := List.eq_nil_of_length_eq_zero hz
        have HX : Hid (joinL (l.take (k + 1)) = [] ++ [r]) := by unfold Hid; rw [HJ.out]; rfl
        obtain ⟨A8, c8, rfl⟩ := hown.shape
        clear hz hol
        simp only [List.length_nil] at hown ⊢
        go_wp2_with fail
        go_quiet (fail)
        go_wp2_with (at_builtin; go_loud ((refine wpList_few rfl (.tmp 43) (.tmp 45) _ rfl eiRun (by decide) (by decide) (fun _ _ h => h.one) rfl (((hown.alloc _).drewN _).alloc _) rfl (SlP.one (x := r) HRE.out rfl _ (by rw [World.heap_drewN, World.size_alloc])) HL.out (by rw [World.size_alloc, World.heap_drewN, World.size_alloc]; omega) ?_); intro v1 w1 hown1 hb1 _; have hb2 := (((below_dn ((Below.refl w.heap.size wr).alloc hsz _) _).alloc (by rw [World.heap_drewN, World.size_alloc]; omega) _).trans hb1)))
        go_roundw
        case rel => exact ⟨k + 1, by omega, by go_num, by rw [HX.out]; exact hown1, hb.trans hb2⟩
        case measure => simp [intOf]; omega
      · obtain ⟨q, hq⟩ : ∃ q, out[out.length - 1]? = some q := ⟨_, List.getElem?_eq_getElem (by omega)⟩
        have hqo := hjo q (List.mem_of_getElem? hq)
        obtain ⟨g, cap, rfl, hg1, hg2, c0, c1, hfz, _⟩ := hown.setRun hq (z := max q.2 r.2) ⟨by omega, by omega⟩
        have hmx : max q.2 r.2 = if q.2 < r.2 then r.2 else q.2 := by split <;> omega
        have hset : ∀ n, OwnP (((wr.alloc (.cells #[.int .i64 r.1, .int .i64 r.2] 107)).drewN n).setCell ⟨g, (out.length - 1) * 2 + 1, none⟩ (.int .i64 (if q.2 < r.2 then r.2 else q.2))) w.heap.size 107 2 RuE (.slice (some ⟨g, 0, none⟩) out.length cap) (out.set (out.length - 1) (q.1, max q.2 r.2)) := fun n => by
          rw [← hmx]
          obtain ⟨g', cap', e, _, _, _, _, _, h⟩ := ((hown.alloc (.cells #[.int .i64 r.1, .int .i64 r.2] 107)).drewN n).setRun hq (z := max q.2 r.2) ⟨by omega, by omega⟩
          cases e; exact h
        have hfz1 := hfz ((out.length - 1) * 2 + 1)
        have HJS : Hid (joinS out r = if r.1 ≤ q.2 + 1 then out.set (out.length - 1) (q.1, max q.2 r.2) else out ++ [r]) := by
          unfold Hid joinS; rw [List.getLast?_eq_getElem?, hq]
        have HMX := hid hmx
        clear hq hfz hjo hmx
        have h1l : (1 : Int) ≤ (out.length : Int) := by omega
        have h2l : (out.length : Int) - 1 < (out.length : Int) := by omega
        have h0' : decide (0 < out.length) = true := by simp; omega
        have h0'' : decide ((0 : Int) < (out.length : Int)) = true := by simp; omega
        have hwq : IntKind.i64.wrap (q.2 + 1) = q.2 + 1 := IntWalk.i64_in _ (by omega)
        have hwk : IntKind.i64.wrap ((out.length : Int) - 1) = (out.length : Int) - 1 := IntWalk.i64_in _ (by omega)
        rcases t5 : decide (r.1 ≤ q.2 + 1)
        · have HX : Hid (joinL (l.take (k + 1)) = out ++ [r]) := by unfold Hid; rw [HJ.out, HJS.out, if_neg (of_decide_eq_false t5)]
          clear hset HJS HJ
          go_wp2_with fail
          go_quiet (fail)
          go_wp2_with (at_builtin; go_loud ((refine wpList_few rfl (.tmp 43) (.tmp 45) _ rfl eiRun (by decide) (by decide) (fun _ _ h => h.one) rfl (((hown.alloc _).drewN _).alloc _) rfl (SlP.one (x := r) HRE.out rfl _ (by rw [World.heap_drewN, World.size_alloc])) HL.out (by rw [World.size_alloc, World.heap_drewN, World.size_alloc]; omega) ?_); intro v1 w1 hown1 hb1 _; have hb2 := (((below_dn ((Below.refl w.heap.size wr).alloc hsz _) _).alloc (by rw [World.heap_drewN, World.size_alloc]; omega) _).trans hb1)))
          go_roundw
          case rel => exact ⟨k + 1, by omega, by go_num, by rw [HX.out]; exact hown1, hb.trans hb2⟩
          case measure => simp [intOf]; omega
        · have HX : Hid (joinL (l.take (k + 1)) = out.set (out.length - 1) (q.1, max q.2 r.2)) := by unfold Hid; rw [HJ.out, HJS.out, if_pos (of_decide_eq_true t5)]
          have HS := hid hset
          clear hset HJS HJ
          go_wp2_with fail
          go_quiet (fail)
          go_wp2_with fail
          go_region
          all_goals
            go_wp2_with fail
            go_roundw
            case rel => exact ⟨k + 1, by omega, by go_num, by rw [HX.out]; first | exact HS.out _ | (rw [HMX.out]; exact HS.out _), hb.trans ((below_dn ((Below.refl w.heap.size wr).alloc hsz _) _).setCell (by exact hg1) _)⟩
            case measure => simp [intOf]; omega
    · obtain rfl : k = l.length := by omega
      rw [List.take_of_length_le (Nat.le_refl _)] at hown
      go_wp2_with fail
      go_ret
      exact ⟨_, rfl, hown, hb⟩
end Go.Proofs.Ytililfcegeddaaa
