/- What the laws need, part 2: The last operation of a region that waits for all others comes last. No condition. tributaryref08.below, Leaves. No condition but that there are not too many. tree.all, tree.Right. No condition but that there are not too many. tributaryref10.One. No condition. tree.deep: how many levels a tree has. Condition: not more than a thousand. context.parts.whole. No condition but that there are not too many. tributaryref07.Has. No condition but that there are not too many. A small tree has few entries and kids. No condition. tributarylaw14.small. No condition. '!=' at spans and entries; tributaryref07.Same, tributaryref10.Alike. No condition. tributaryref08.Under. No condition but that there are not too many. tributaryref08.Same. No condition. tributaryref09.Same. No condition. The plain twin of tributaryref08.Build. No condition. tributaryref08.Build. No condition but that there are not too many. -/
import Derived.Deep.RegionHeld3
import Derived.Deep.RegionLaw
import Derived.Laws.StructEq
import Derived.Sort.Walk0
import Derived.Test.YtmphgnjodangcaaGreatUa1
namespace Go.Proofs.YtmphgnjodangcaaGreat
open Go.RowKit

def PopQ (Q : Exit → Act → World → Prop) (R : Act → World → Prop) : Exit → Act → World → Prop
  | .normal, a, w => R a w
  | e, a, w => Q e a w
theorem PopQ.wp {P : Program} {o : Oper} {a : Act} {w : World} {K : Act → World → Prop} {Q : Exit → Act → World → Prop} {R : Act → World → Prop} (h : o.wp P a w K (PopQ Q R)) : o.wp P a w K Q := by
  unfold Oper.wp at *
  cases hr : (execOp a.eval o).run P w with
  | ok n w' =>
    rw [hr] at h
    cases n with
    | value v => exact h
    | skip => exact h
    | defer d => exact h
    | enter f args => exact Calls.mono h fun e w'' he => by cases e <;> exact he
    | row row args => exact h
    | _ => exact h
  | halt x w' =>
    rw [hr] at h
    cases x <;> exact h

section
variable {P : Program} {Q : Exit → Act → World → Prop} {md : Region.Mode} {ops' : Array Oper} {o : Oper}
theorem all_listed (hord : ∀ (j : Nat) (x : Oper), ops'[j]? = some x → ∀ e ∈ x.after, e.on < j) {listed : Array Bool} (hs : listed.size = ops'.size) (hr : Region.ready md ops' listed = []) : ∀ j, j < ops'.size → listed.getD j false = true := by
  intro j
  induction j using Nat.strongRecOn with
  | ind j ih =>
    intro hj
    cases hl : listed.getD j false with
    | true => rfl
    | false =>
      have hx : ops'[j]? = some ops'[j] := Array.getElem?_eq_getElem hj
      have : j ∈ Region.ready md ops' listed := mem_ready.2 ⟨by simp [Array.getElem?_eq_getElem (hs ▸ hj : j < listed.size)] at hl ⊢; exact hl, _, hx, fun e he _ => ih e.on (hord j _ hx e he) (Nat.lt_trans (hord j _ hx e he) hj)⟩
      rw [hr] at this; cases this
theorem wpOp_pop (hg : ∀ (j : Nat) (x : Oper), ops'[j]? = some x → x.guard = none) {i : Nat} {a : Act} {w : World} {K K' : Act → World → Prop} {R : Act → World → Prop} (hi : i < ops'.size) (hK : ∀ a w, K a w → K' a w) (h : wpOp P ops' (PopQ Q R) i K a w) :
    wpOp P (ops'.push o) Q i K' a w := by
  have hx : ops'[i]? = some ops'[i] := Array.getElem?_eq_getElem hi
  have hx' : (ops'.push o)[i]? = some ops'[i] := by rw [Array.getElem?_push, if_neg (by omega)]; exact hx
  have hw : ∀ ops : Array Oper, Region.wanted ops'[i] (yielded ops a.tmps) = true := fun ops => by simp [Region.wanted, hg i _ hx]
  unfold wpOp at *
  rw [hx'] ; rw [hx] at h
  simp only [hw, if_true] at *
  rcases h with h | h
  · exact .inl (Oper.wp_mono hK (PopQ.wp h))
  · exact .inr h
theorem wpAny_pop (hg : ∀ (j : Nat) (x : Oper), ops'[j]? = some x → x.guard = none) (hord : ∀ (j : Nat) (x : Oper), ops'[j]? = some x → ∀ e ∈ x.after, e.on < j) (hlast : ∀ j, j < ops'.size → ∃ e ∈ o.after, Region.binds md e = true ∧ e.on = j) (hon : ∀ e ∈ o.after, e.on < ops'.size) (hgo : o.guard = none) :
    ∀ (fuel : Nat) (listed : Array Bool) (a : Act) (w : World), listed.size = ops'.size → wpAny P md ops' (PopQ Q (wpList P (ops'.push o) Q [o])) fuel listed a w → wpAny P md (ops'.push o) Q (fuel + 1) (listed.push false) a w := by
  have hin : ∀ (listed : Array Bool), listed.size = ops'.size → ∀ i, i ∈ Region.ready md (ops'.push o) (listed.push false) → (i < ops'.size ∧ i ∈ Region.ready md ops' listed) ∨ (i = ops'.size ∧ Region.ready md ops' listed = []) := by
    intro listed hs i hi
    obtain ⟨h1, x, hx, h2⟩ := mem_ready.1 hi
    have hlt : i < ops'.size + 1 := by have := (Array.getElem?_eq_some_iff.1 hx).1; simpa using this
    by_cases he : i < ops'.size
    · refine .inl ⟨he, mem_ready.2 ⟨?_, x, ?_, fun e hee hb => ?_⟩⟩
      · simp only [Array.getD_eq_getD_getElem?, Array.getElem?_push, if_neg (show ¬ i = listed.size by omega)] at h1 ⊢; exact h1
      · rw [Array.getElem?_push, if_neg (by omega)] at hx; exact hx
      · have hx2 : ops'[i]? = some x := by rw [Array.getElem?_push, if_neg (by omega)] at hx; exact hx
        have h3 := h2 e hee hb
        have h4 := hord i x hx2 e hee
        simp only [Array.getD_eq_getD_getElem?, Array.getElem?_push, if_neg (show ¬ e.on = listed.size by omega)] at h3 ⊢; exact h3
    · obtain rfl : i = ops'.size := by omega
      refine .inr ⟨rfl, ?_⟩
      have hxo : x = o := by rw [Array.getElem?_push, if_pos rfl] at hx; exact (Option.some.inj hx).symm
      subst hxo
      rw [List.eq_nil_iff_forall_not_mem]
      intro j hj
      obtain ⟨g1, y, hy, _⟩ := mem_ready.1 hj
      have hj' := (Array.getElem?_eq_some_iff.1 hy).1
      obtain ⟨e, he1, he2, he3⟩ := hlast j hj'
      have h3 := h2 e he1 he2
      rw [he3] at h3
      simp only [Array.getD_eq_getD_getElem?, Array.getElem?_push, if_neg (show ¬ j = listed.size by omega)] at h3 g1
      rw [Array.getElem?_eq_getElem (show j < listed.size by omega)] at h3 g1
      simp at h3 g1; rw [h3] at g1; cases g1
  have hfin : ∀ (listed : Array Bool), listed.size = ops'.size → Region.ready md ops' listed = [] → Region.ready md (ops'.push o) ((listed.push false).setIfInBounds ops'.size true) = [] := by
    intro listed hs hr
    rw [List.eq_nil_iff_forall_not_mem]
    intro j hj
    obtain ⟨g1, y, hy, _⟩ := mem_ready.1 hj
    have hj' : j < ops'.size + 1 := by have := (Array.getElem?_eq_some_iff.1 hy).1; simpa using this
    by_cases he : j < ops'.size
    · have := all_listed hord hs hr j he
      simp only [Array.getD_eq_getD_getElem?, Array.getElem?_setIfInBounds, Array.getElem?_push, if_neg (show ¬ ops'.size = j by omega), if_neg (show ¬ j = listed.size by omega)] at g1 this
      rw [Array.getElem?_eq_getElem (show j < listed.size by omega)] at g1 this
      simp at g1 this; rw [this] at g1; cases g1
    · obtain rfl : j = ops'.size := by omega
      simp [hs] at g1
  have hstep : ∀ (fuel : Nat) (listed : Array Bool) (a : Act) (w : World), listed.size = ops'.size → Region.ready md ops' listed = [] → wpList P (ops'.push o) Q [o] a w → wpOp P (ops'.push o) Q ops'.size (wpAny P md (ops'.push o) Q fuel ((listed.push false).setIfInBounds ops'.size true)) a w := by
    intro fuel listed a w hs hr h
    unfold wpOp
    rw [Array.getElem?_push, if_pos rfl]
    have hw : Region.wanted o (yielded (ops'.push o) a.tmps) = true := by simp [Region.wanted, hgo]
    unfold wpList at h
    simp only [hw, if_true] at *
    have hK : ∀ a w, wpList P (ops'.push o) Q [] a w → wpAny P md (ops'.push o) Q fuel ((listed.push false).setIfInBounds ops'.size true) a w := fun a w hq => by
      have := hfin listed hs hr
      cases fuel with
      | zero => exact ⟨this, hq⟩
      | succ fuel => exact ⟨fun _ => hq, by rw [this]; simp⟩
    rcases h with h | h
    · exact .inl (Oper.wp_mono hK h)
    · exact .inr h
  intro fuel
  induction fuel with
  | zero =>
    intro listed a w hs h
    obtain ⟨h1, h2⟩ := h
    refine ⟨fun h0 => ?_, fun i hi => ?_⟩
    · exfalso
      have : ops'.size ∈ Region.ready md (ops'.push o) (listed.push false) := mem_ready.2 ⟨by simp [← hs], o, by simp, fun e he _ => by
        have := all_listed hord hs h1 e.on (hon e he)
        simp only [Array.getD_eq_getD_getElem?, Array.getElem?_push, if_neg (show ¬ e.on = listed.size by have := hon e he; omega)] at this ⊢; exact this⟩
      rw [h0] at this; cases this
    · rcases hin listed hs i hi with ⟨_, h3⟩ | ⟨rfl, _⟩
      · rw [h1] at h3; cases h3
      · exact hstep 0 listed a w hs h1 h2
  | succ fuel ih =>
    intro listed a w hs h
    obtain ⟨h1, h2⟩ := h
    refine ⟨fun h0 => ?_, fun i hi => ?_⟩
    · exfalso
      by_cases hr : Region.ready md ops' listed = []
      · have : ops'.size ∈ Region.ready md (ops'.push o) (listed.push false) := mem_ready.2 ⟨by simp [← hs], o, by simp, fun e he _ => by
          have := all_listed hord hs hr e.on (hon e he)
          simp only [Array.getD_eq_getD_getElem?, Array.getElem?_push, if_neg (show ¬ e.on = listed.size by have := hon e he; omega)] at this ⊢; exact this⟩
        rw [h0] at this; cases this
      · obtain ⟨i, hi⟩ := List.exists_mem_of_ne_nil _ hr
        obtain ⟨g1, x, hx, g2⟩ := mem_ready.1 hi
        have hlt := (Array.getElem?_eq_some_iff.1 hx).1
        have : i ∈ Region.ready md (ops'.push o) (listed.push false) := mem_ready.2 ⟨by
          simp only [Array.getD_eq_getD_getElem?, Array.getElem?_push, if_neg (show ¬ i = listed.size by omega)] at g1 ⊢; exact g1, x, by rw [Array.getElem?_push, if_neg (by omega)]; exact hx, fun e he hb => by
          have h3 := g2 e he hb
          have h4 := hord i x hx e he
          simp only [Array.getD_eq_getD_getElem?, Array.getElem?_push, if_neg (show ¬ e.on = listed.size by omega)] at h3 ⊢; exact h3⟩
        rw [h0] at this; cases this
    · rcases hin listed hs i hi with ⟨hlt, h3⟩ | ⟨rfl, hr⟩
      · refine wpOp_pop hg hlt (fun a w hk => ?_) (h2 i h3)
        have := ih (listed.setIfInBounds i true) a w (by simpa using hs) hk
        rw [show (listed.push false).setIfInBounds i true = (listed.setIfInBounds i true).push false from ?_]
        · exact this
        · apply Array.ext_getElem?
          intro j
          simp only [Array.getElem?_setIfInBounds, Array.getElem?_push, Array.size_setIfInBounds, Array.size_push]
          by_cases e1 : i = j
          · subst e1
            simp [show i < listed.size by omega, show ¬ i = listed.size by omega, show i < listed.size + 1 by omega]
          · simp [e1]
      · exact hstep (fuel + 1) listed a w hs hr (h1 hr)
end

/-- The checks, as Bools for the kernel. -/
def popB (ops' : List Oper) (o : Oper) : Bool :=
  ops'.all (fun x => x.guard.isNone) && o.guard.isNone && ((List.range ops'.length).all fun j => match ops'[j]? with | some x => x.after.all fun e => decide (e.on < j) | none => true) &&
    ((List.range ops'.length).all fun j => o.after.any fun e => Region.binds .any e && (e.on == j)) && (o.after.all fun e => decide (e.on < ops'.length))
theorem wp_region_pop {P : Program} {Q : Exit → Act → World → Prop} {S : World → Prop} {id : Nat} (ops' : List Oper) (o : Oper) {ops : Array Oper} {a : Act} {w : World} (hm : P.follows .mixedOrders = true) (ho : ops = (ops' ++ [o]).toArray) (hc : popB ops' o = true)
    (h : wpAnyH P .any ops'.toArray (PopQ Q (wpList P ops Q [o])) S ops'.length (List.replicate ops'.length false).toArray a w.drew) : (Code.region id ops true).wp P Q a w := by
  unfold popB at hc
  simp only [Bool.and_eq_true, List.all_eq_true, List.mem_range, Array.all_eq_true_iff_forall_mem, Array.any_eq_true', decide_eq_true_eq, beq_iff_eq, Option.isNone_iff_eq_none] at hc
  obtain ⟨⟨⟨⟨c1, c2⟩, c3⟩, c4⟩, c5⟩ := hc
  have ho' : ops = ops'.toArray.push o := by rw [ho]; simp
  have h' := wpAny_of_held _ _ _ _ h
  rw [ho'] at h'
  have := wpAny_pop (md := .any) (ops' := ops'.toArray) (o := o) (P := P) (Q := Q) (fun j x hx => c1 x (by simpa using List.mem_of_getElem? (by simpa using hx)))
    (fun j x hx e he => by
      have hx' : ops'[j]? = some x := by simpa using hx
      have := c3 j (List.getElem?_eq_some_iff.1 hx').1
      rw [hx'] at this
      simp only [Array.all_eq_true_iff_forall_mem, decide_eq_true_eq] at this
      exact this e he)
    (fun j hj => by
      obtain ⟨e, h1, h2⟩ := c4 j (by simpa using hj)
      exact ⟨e, h1, h2.1, h2.2⟩)
    (fun e he => by simpa using c5 e he) c2 ops'.length (List.replicate ops'.length false).toArray a w.drew (by simp) h'
  refine wp_region_any hm ?_
  rw [ho']
  have e1 : (ops'.toArray.push o).size = ops'.length + 1 := by simp
  have e2 : Array.replicate (ops'.toArray.push o).size false = (List.replicate ops'.length false).toArray.push false := by
    apply Array.ext'
    rw [e1]; simp [List.replicate_succ']
  rw [e2, e1]
  exact this
def popL (n : Nat) (l : List Oper) : Bool := match l.drop n with | [o] => ((l.take n).length == n) && popB (l.take n) o | _ => false
theorem wp_region_pop_n {P : Program} {Q : Exit → Act → World → Prop} {S : World → Prop} {id : Nat} (n : Nat) {l : List Oper} {a : Act} {w : World} (hm : P.follows .mixedOrders = true) (hc : popL n l = true)
    (h : wpAnyH P .any (l.take n).toArray (PopQ Q (wpList P l.toArray Q (l.drop n))) S n (List.replicate n false).toArray a w.drew) : (Code.region id l.toArray true).wp P Q a w := by
  unfold popL at hc
  split at hc
  · rename_i o ho
    simp only [Bool.and_eq_true, beq_iff_eq] at hc
    refine wp_region_pop (S := S) (l.take n) o hm (by rw [← ho, List.take_append_drop]) hc.2 ?_
    rw [hc.1, ← ho]
    exact h
  · cases hc
end Go.Proofs.YtmphgnjodangcaaGreat

namespace Go.Proofs.YtmphgnjodangcaaGreat
open Go.RowKit
set_option maxRecDepth 100000

mutual
def Tr.lvs : Tr → List ByteArray → List Lf
  | .mk es ks, p => es.map (fun e => (p, e)) ++ Tr.lvsL ks p
def Tr.lvsL : List (ByteArray × Tr) → List ByteArray → List Lf
  | [], _ => []
  | (k, t) :: ks, p => t.lvs (p ++ [k]) ++ Tr.lvsL ks p
end
mutual
theorem lvs_len : ∀ (t : Tr) (p : List ByteArray), (t.lvs p).length ≤ t.sz
  | .mk es ks, p => by rw [Tr.lvs, Tr.sz]; have := lvsL_len ks p; simp; omega
theorem lvsL_len : ∀ (ks : List (ByteArray × Tr)) (p : List ByteArray), (Tr.lvsL ks p).length ≤ Tr.szL ks
  | [], p => by simp [Tr.lvsL]
  | (k, t) :: ks, p => by rw [Tr.lvsL, Tr.szL]; have := lvs_len t (p ++ [k]); have := lvsL_len ks p; simp; omega
end
theorem lvsL_take {ks : List Kd} {k : Nat} {x : Kd} (h : ks[k]? = some x) (p : List ByteArray) : Tr.lvsL (ks.take (k + 1)) p = Tr.lvsL (ks.take k) p ++ x.2.lvs (p ++ [x.1]) := by
  induction ks generalizing k with
  | nil => simp at h
  | cons y ks ih =>
    obtain ⟨yk, yt⟩ := y
    cases k with
    | zero => simp at h; subst h; simp [Tr.lvsL]
    | succ k => simp only [List.take_succ_cons]; rw [Tr.lvsL, Tr.lvsL, ih (by simpa using h), List.append_assoc]

set_option maxHeartbeats 4000000 in
theorem r08below_any (t : Tr) : ∀ (p : List ByteArray) (okp : Nat → Prop) (w : World) (ve vk vp : Value), t.rd w w.heap.size ve vk → SlA w okp 1 StE vp p → (∀ b, okp b → b < w.heap.size) → p.length + t.sz ≤ 100000 →
    Calls Tryz.prog 174 #[.agg #[ve, vk], vp] w (RetD w 147 5 LfA okp (t.lvs p)) := by
  induction t using Tr.ind with
  | h es ks ih =>
  intro p okp w ve vk vp h hp hok0 hN
  rw [rd_iff] at h
  obtain ⟨⟨A1, n, rfl, b1, b2, b3⟩, ⟨A2, m, rfl, c1, c2, c3⟩⟩ := h
  obtain ⟨A5, n5, rfl, p1, p2, p3⟩ := hp
  have hp : SlA w okp 1 StE (.slice A5 p.length n5) p := ⟨A5, n5, rfl, p1, p2, p3⟩
  have hpP : SlP w w.heap.size 1 StE (.slice A5 p.length n5) p := hp.up (fun _ _ => rfl) hok0 fun _ _ _ h => h
  unfold Big at b2 c2
  rw [Tr.sz] at hN
  have hkl := szL_len ks
  clear p3 p2
  go_enter Tryz.func174, Tryz.ntmps174
  go_wp2_with fail
  go_loopw [5, 12] (fun v i wr => ∃ k : Nat, k ≤ es.length ∧ i = .int .i64 k ∧ OwnD wr (w.heap.size + 1) 147 5 LfA (fun b => okp b ∨ w.heap.size ≤ b) v ((es.take k).map fun e => (p, e)) ∧
      Below (w.heap.size + 1) (w.alloc (.cells #[.slice A1 es.length n, .slice A2 ks.length m] 27)) wr) (fun _ i _ => es.length - (intOf i).toNat)
  case atStart => exact ⟨0, Nat.zero_le _, rfl, OwnD.nil, Below.refl _ _⟩
  case round =>
    obtain ⟨k, hk, rfl, hown, hb⟩ := hrel
    have hsz := hb.size
    simp only [World.size_alloc] at hsz
    have hB0 : Below w.heap.size w wr := ((Below.refl _ w).alloc (Nat.le_refl _) _).trans (hb.mono (by omega))
    have hw0 : wr.cell? ⟨w.heap.size, 0, none⟩ = some (.slice A1 es.length n) := by rw [hb.cell (p := ⟨w.heap.size, 0, none⟩) (by simp)]; simp
    have hw1 : wr.cell? ⟨w.heap.size, 1, none⟩ = some (.slice A2 ks.length m) := by rw [hb.cell (p := ⟨w.heap.size, 1, none⟩) (by simp)]; simp
    by_cases hlt : k < es.length
    · obtain ⟨x, hx⟩ : ∃ x, es[k]? = some x := ⟨_, List.getElem?_eq_getElem hlt⟩
      obtain ⟨b, off, rfl, hbB, hc⟩ := b3 (by rintro rfl; simp at hlt)
      obtain ⟨cs, ⟨rfl, hok⟩, _, hu⟩ := hc k _ hx
      have e0 : wr.cell? ⟨b, off + k * 4, none⟩ = some (.int .i64 x.dc) := (hB0.cell hbB).trans (hu 0 _ rfl)
      have e1 : wr.cell? ⟨b, off + k * 4 + 1, none⟩ = some (.int .i64 x.n) := (hB0.cell hbB).trans (hu 1 _ rfl)
      have e2 : wr.cell? ⟨b, off + k * 4 + 2, none⟩ = some (.string x.s) := (hB0.cell hbB).trans (hu 2 _ rfl)
      have e3 : wr.cell? ⟨b, off + k * 4 + 3, none⟩ = some (.int .i64 x.v) := (hB0.cell hbB).trans (hu 3 _ rfl)
      have HX : Hid (((es.take (k + 1)).map fun e => (p, e)) = ((es.take k).map fun e => (p, e)) ++ [(p, x)]) := by
        unfold Hid; rw [List.take_add_one, hx]; simp
      have HL : Hid (((es.take k).map fun e => (p, e)).length + [(p, x)].length ≤ Few) := by unfold Hid Few; simp; omega
      have HO : Hid (∀ o, SlP (wr.alloc (.cells [.slice A5 p.length n5, .int .i64 x.dc, .int .i64 x.n, .string x.s, .int .i64 x.v].toArray o)) (wr.alloc (.cells [.slice A5 p.length n5, .int .i64 x.dc, .int .i64 x.n, .string x.s, .int .i64 x.v].toArray o)).heap.size 5 (LfA (wr.alloc (.cells [.slice A5 p.length n5, .int .i64 x.dc, .int .i64 x.n, .string x.s, .int .i64 x.v].toArray o)) (fun b => (okp b ∨ w.heap.size ≤ b) ∧ b < (wr.alloc (.cells [.slice A5 p.length n5, .int .i64 x.dc, .int .i64 x.n, .string x.s, .int .i64 x.v].toArray o)).heap.size ∧ u5.ownBlock ≠ some b)) (.slice (some ⟨wr.heap.size, 0, none⟩) 1 1) [(p, x)]) := fun o => by
        rw [World.size_alloc]
        refine SlP.one (E := LfA _ _) (x := (p, x)) ⟨A5, n5, rfl, ?_, hok⟩ rfl o rfl
        refine (hp.up (fun b hb' => ((hB0.alloc (by omega) _).block b (hok0 b hb'))) (fun b hb' => ⟨.inl hb', by have h1 := hok0 b hb'; omega, fun e => ?_⟩) fun _ _ _ h => h)
        have := (OwnP.lt hown b e).1; have h1 := hok0 b hb'; omega
      clear hu hx hc b3 hok
      go_wp2_with (at_builtin; with_reducible refine wpList_d rfl (.tmp 15) (.tmp 23) _ rfl LfA.mon eiLeaf (by decide) (by decide) rfl (hown.grow LfA.mon ((Below.refl _ _).alloc (Nat.le_refl _) _)) rfl (HO.out _) HL.out (by rw [World.size_alloc]; omega) ?_; intro v1 w1 hown1 hb1 _ _)
      go_roundw
      case rel => exact ⟨k + 1, by omega, by go_num, by rw [HX.out]; exact hown1, (hb.alloc (by omega) _).trans hb1⟩
      case measure => simp [intOf]; omega
    · obtain rfl : k = es.length := by omega
      rw [List.take_of_length_le (Nat.le_refl _)] at hown
      go_wp2_with fail
      clear hw0 hw1 hB0 hsz
      obtain ⟨wo, rfl⟩ : ∃ wo : World, wo = wr := ⟨_, rfl⟩
      go_loopw [5, 29] (fun v i wr => ∃ k : Nat, k ≤ ks.length ∧ i = .int .i64 k ∧ OwnD wr (w.heap.size + 1) 147 5 LfA (fun b => okp b ∨ w.heap.size ≤ b) v (es.map (fun e => (p, e)) ++ Tr.lvsL (ks.take k) p) ∧
          Below (w.heap.size + 1) (w.alloc (.cells #[.slice A1 es.length n, .slice A2 ks.length m] 27)) wr) (fun _ i _ => ks.length - (intOf i).toNat)
      case atStart => exact ⟨0, Nat.zero_le _, rfl, by simpa [Tr.lvsL] using hown, hb⟩
      case round =>
        clear hown hb
        obtain ⟨k, hk, rfl, hown, hb⟩ := hrel
        have hsz := hb.size
        simp only [World.size_alloc] at hsz
        have hB0 : Below w.heap.size w wr := ((Below.refl _ w).alloc (Nat.le_refl _) _).trans (hb.mono (by omega))
        have hw1 : wr.cell? ⟨w.heap.size, 1, none⟩ = some (.slice A2 ks.length m) := by rw [hb.cell (p := ⟨w.heap.size, 1, none⟩) (by simp)]; simp
        by_cases hlt : k < ks.length
        · obtain ⟨⟨key, t⟩, hx⟩ : ∃ x, ks[k]? = some x := ⟨_, List.getElem?_eq_getElem hlt⟩
          obtain ⟨b, off, rfl, hbB, hc⟩ := c3 (by rintro rfl; simp at hlt)
          obtain ⟨cs, ⟨ve', vk', rfl, hkb, hrd⟩, _, hu⟩ := hc k _ hx
          obtain ⟨A3, n3, A4, n4, rfl, rfl⟩ := rd_shape hrd
          have e0 : wr.cell? ⟨b, off + k * 3, none⟩ = some (.string key) := (hB0.cell hbB).trans (hu 0 _ rfl)
          have hmem : (key, t) ∈ ks := List.mem_of_getElem? hx
          have hsm := szL_mem hmem
          have hst := szL_take hx
          have hsl := szL_le (ks := ks) (k + 1)
          have HX : Hid (es.map (fun e => (p, e)) ++ Tr.lvsL (ks.take (k + 1)) p = es.map (fun e => (p, e)) ++ Tr.lvsL (ks.take k) p ++ t.lvs (p ++ [key])) := by unfold Hid; rw [lvsL_take hx, List.append_assoc]
          have HL : Hid ((es.map (fun e => (p, e)) ++ Tr.lvsL (ks.take k) p).length + (t.lvs (p ++ [key])).length ≤ Few) := by
            have h1 := lvsL_len (ks.take k) p
            have h2 := lvs_len t (p ++ [key])
            unfold Hid Few; simp; simp at hst; omega
          have HC1 : Hid (∀ w', Below w.heap.size w w' → w'.cell? ⟨b, off + k * 3 + 1, none⟩ = some (.slice A3 t.es.length n3) ∧ w'.cell? ⟨b, off + k * 3 + 2, none⟩ = some (.slice A4 t.ks.length n4)) := fun w' hb' => ⟨(hb'.cell hbB).trans (hu 1 _ rfl), (hb'.cell hbB).trans (hu 2 _ rfl)⟩
          have HR : Hid (∀ w', Below w.heap.size w w' → t.rd w' w'.heap.size (.slice A3 t.es.length n3) (.slice A4 t.ks.length n4)) := fun w' hb' => rd_below hb' hb'.size _ _ _ hrd
          have HP : Hid (SlP wr wr.heap.size 1 StE (.slice A5 p.length n5) p) := hpP.imp hB0 (by omega) fun _ _ _ h => h
          have HS : Hid (∀ w', Below wr.heap.size wr w' → w'.cell? ⟨w.heap.size, 1, none⟩ = some (.slice (some ⟨b, off, none⟩) ks.length m) ∧ w'.cell? ⟨b, off + k * 3, none⟩ = some (.string key)) := fun w' hb' => ⟨(hb'.cell (p := ⟨w.heap.size, 1, none⟩) (by exact hsz)).trans hw1, (hb'.cell (p := ⟨b, off + k * 3, none⟩) (by show b < _; omega)).trans e0⟩
          have hpl : p.length ≤ 100000 := by omega
          have hts : p.length + 1 + t.sz ≤ 100000 := by omega
          clear hu hx hc c3 hrd hst hsl
          go_upto_region 10 with (fail)
          go_cut [8] (fun vq wc => OwnP wc wr.heap.size 9 1 StE vq (p ++ [key]) ∧ Below wr.heap.size wr wc)
          case first =>
            go_region_held3 (fun w' => w'.cell? ⟨w.heap.size, 1, none⟩ = some (.slice (some ⟨b, off, none⟩) ks.length m) ∧ w'.cell? ⟨b, off + k * 3, none⟩ = some (.string key))
              (first | go_keep | exact HS.out _ hq42 | exact HS.out _ hq34 | exact HS.out _ (hq34.alloc (by omega) _))
              (first
                | (refine step_few (v := .slice (some ⟨_, 0, none⟩) 0 0) rfl (.tmp 32) (.tmp 33) _ rfl eiStr (by decide) (by decide) (fun _ _ h => StE.one h) rfl (OwnP.empty (base := wr.heap.size) (by first | exact heap_new rfl | exact (heap_old (by simp)).trans (heap_new rfl) | exact heap_new (by simp)) (by omega)) rfl (HP.out.imp (by go_grown) (Nat.le_refl _) fun _ _ _ h => h) (by unfold Few; simp; omega) (by first | (simp; done) | (simp; omega)) ?_; intro v34 w34 hown34 hb34 hg34; have hs34 := hb34.size; simp only [World.size_drew, World.size_alloc] at hs34; have hq34 : Below wr.heap.size wr w34 := Below.trans (by go_grown) hb34)
                | (refine step_few rfl (.tmp 34) (.tmp 41) _ rfl eiStr (by decide) (by decide) (fun _ _ h => StE.one h) rfl (by first | exact hown34.alloc _ | exact hown34) rfl (by first | exact SlP.one (x := key) (cs := [.string key]) ⟨rfl, hkb⟩ rfl _ rfl | exact SlP.at1 (B := w34.heap.size) ((World.cell?_of_block (hg34.block _ (by simp only [World.size_drew, World.size_alloc]; omega) (by simp [Value.ownBlock]))).trans (by first | (simp; done) | (rw [World.cell?_drew, World.cell?_alloc_at _ _ _ _ (by simp)]; rfl))) hkb (by omega)) (by unfold Few; simp; omega) (by first | (simp; omega) | omega) ?_; intro v42 w42 hown42 hb42 hg42; have hq42 : Below wr.heap.size wr w42 := (by first | exact hq34.trans hb42 | exact (hq34.alloc (by omega) _).trans hb42)))
            all_goals
              go_wp2_with fail
              go_meet
              case rel => exact ⟨by simpa using hown42, hq42⟩
          case rest =>
            obtain ⟨hvq, hbq⟩ := hcut
            have hsq := hbq.size
            have hBq : Below w.heap.size w wc := hB0.trans (hbq.mono (by omega))
            obtain ⟨hw2, _⟩ := HS.out wc hbq
            obtain ⟨e1, e2⟩ := HC1.out wc hBq
            have HRq := hid (HR.out wc hBq)
            have HVq : Hid (SlA wc (fun b => wr.heap.size ≤ b ∧ b < wc.heap.size) 1 StE u8 (p ++ [key])) := (hvq.sla (by unfold Big; simp; omega)).up (fun _ _ => rfl) (fun _ h => ⟨h.1, h.2.1⟩) fun _ _ _ h => h
            clear hvq hw1 e0
            go_wp2_with fail
            refine (ih key t hmem (p ++ [key]) _ wc _ _ u8 HRq.out HVq.out (fun _ h => h.2) (by simp; omega)).mono ?_
            rintro e w2 ⟨v2, rfl, hv2, hb2⟩
            have hs2 := hb2.size
            have HO2 : Hid (SlP w2 w2.heap.size 5 (LfA w2 (fun b => (okp b ∨ w.heap.size ≤ b) ∧ b < w2.heap.size ∧ u5.ownBlock ≠ some b)) v2 (t.lvs (p ++ [key]))) := by
              refine (hv2.sl LfA.mon (by have := lvs_len t (p ++ [key]); unfold Big; omega)).imp (Below.refl _ _) (Nat.le_refl _) fun x _ cs hx => LfA.mon.up (fun _ _ => rfl) (fun b hb => ?_) hx
              have h1 : wr.heap.size ≤ b := by rcases hb.1 with h | h <;> omega
              refine ⟨.inr (by omega), hb.2, fun e => ?_⟩
              have := (OwnD.lt hown b e).2
              omega
            clear hv2
            go_wp2_with (at_builtin; go_loud (refine wpList_d rfl (.tmp 43) (.tmp 51) _ rfl LfA.mon eiLeaf (by decide) (by decide) rfl (hown.grow LfA.mon (hbq.trans (hb2.mono hsq))) rfl HO2.out HL.out (by omega) ?_); intro v1 w1 hown1 hb1 _ _)
            go_roundw
            case rel => exact ⟨k + 1, by omega, by go_num, by rw [HX.out]; exact hown1, ((hb.trans (hbq.mono (by omega))).trans (hb2.mono (by omega))).trans hb1⟩
            case measure => simp [intOf]; omega
        · obtain rfl : k = ks.length := by omega
          rw [List.take_of_length_le (Nat.le_refl _)] at hown
          go_wp2_with fail
          go_ret
          exact ⟨_, rfl, by rw [Tr.lvs]; exact hown.mono (by omega), ((Below.refl _ w).alloc (Nat.le_refl _) _).trans (hb.mono (by omega))⟩

end Go.Proofs.YtmphgnjodangcaaGreat

namespace Go.Proofs.YtmphgnjodangcaaGreat
open Go.RowKit
set_option maxRecDepth 100000

mutual
def Tr.dots : Tr → List Dt
  | .mk es ks => es.map En.dot ++ Tr.dotsL ks
def Tr.dotsL : List (ByteArray × Tr) → List Dt
  | [] => []
  | (_, t) :: ks => t.dots ++ Tr.dotsL ks
end
theorem dotsL_take {ks : List Kd} {k : Nat} {x : Kd} (h : ks[k]? = some x) : Tr.dotsL (ks.take (k + 1)) = Tr.dotsL (ks.take k) ++ x.2.dots := by
  induction ks generalizing k with
  | nil => simp at h
  | cons y ks ih =>
    obtain ⟨yk, yt⟩ := y
    cases k with
    | zero => simp at h; subst h; simp [Tr.dotsL]
    | succ k => simp only [List.take_succ_cons]; rw [Tr.dotsL, Tr.dotsL, ih (by simpa using h), List.append_assoc]
theorem dotsL_len {ks : List Kd} (k : Nat) : (Tr.dotsL (ks.take k)).length ≤ (Tr.dotsL ks).length := by
  induction ks generalizing k with
  | nil => simp
  | cons y ks ih =>
    obtain ⟨yk, yt⟩ := y
    cases k with
    | zero => simp [Tr.dotsL]
    | succ k => simp only [List.take_succ_cons]; rw [Tr.dotsL, Tr.dotsL]; have := ih k; simp; omega

set_option maxHeartbeats 1000000 in
theorem tall_any (t : Tr) : ∀ (w : World) (ve vk : Value), t.rd w w.heap.size ve vk → t.dots.length ≤ 1000000 →
    Calls Tryz.prog 216 #[.agg #[ve, vk]] w (RetO w 54 2 (fun _ => DtE) t.dots) := by
  induction t using Tr.ind with
  | h es ks ih =>
  intro w ve vk h hN
  rw [rd_iff] at h
  obtain ⟨⟨A1, n, rfl, b1, b2, b3⟩, ⟨A2, m, rfl, c1, c2, c3⟩⟩ := h
  unfold Big at b2 c2
  rw [Tr.dots, List.length_append, List.length_map] at hN
  go_enter Tryz.func216, Tryz.ntmps216
  go_wp2_with fail
  go_loopw [3, 11] (fun v i wr => ∃ k : Nat, k ≤ es.length ∧ i = .int .i64 k ∧ OwnP wr (w.heap.size + 1) 54 2 DtE v ((es.take k).map En.dot) ∧
      Below (w.heap.size + 1) (w.alloc (.cells #[.slice A1 es.length n, .slice A2 ks.length m] 27)) wr) (fun _ i _ => es.length - (intOf i).toNat)
  case atStart => exact ⟨0, Nat.zero_le _, rfl, OwnP.nil, Below.refl _ _⟩
  case round =>
    obtain ⟨k, hk, rfl, hown, hb⟩ := hrel
    have hsz := hb.size
    simp only [World.size_alloc] at hsz
    have hl1 : ((es.take k).map En.dot).length = k := by simp; omega
    by_cases hlt : k < es.length
    · obtain ⟨x, hx⟩ : ∃ x, es[k]? = some x := ⟨_, List.getElem?_eq_getElem hlt⟩
      obtain ⟨b, off, rfl, hbB, hc⟩ := b3 (by rintro rfl; simp at hlt)
      obtain ⟨cs, ⟨rfl, hok⟩, _, hu⟩ := hc k _ hx
      have hbo : ∀ o, wr.cell? ⟨b, o, none⟩ = w.cell? ⟨b, o, none⟩ := fun o => (hb.cell (p := ⟨b, o, none⟩) (by simp; omega)).trans (World.cell?_alloc_lt _ _ _ hbB)
      have e0 : wr.cell? ⟨b, off + k * 4, none⟩ = some (.int .i64 x.dc) := (hbo _).trans (hu 0 _ rfl)
      have e1 : wr.cell? ⟨b, off + k * 4 + 1, none⟩ = some (.int .i64 x.n) := (hbo _).trans (hu 1 _ rfl)
      have e2 : wr.cell? ⟨b, off + k * 4 + 2, none⟩ = some (.string x.s) := (hbo _).trans (hu 2 _ rfl)
      have e3 : wr.cell? ⟨b, off + k * 4 + 3, none⟩ = some (.int .i64 x.v) := (hbo _).trans (hu 3 _ rfl)
      have hd : x.dot.Ok := ⟨hok.dc, hok.n⟩
      have HX : Hid ((es.take (k + 1)).map En.dot = (es.take k).map En.dot ++ [x.dot]) := by
        unfold Hid; rw [List.take_add_one, hx]; simp
      have HL : Hid (((es.take k).map En.dot).length + [x.dot].length ≤ Few) := by unfold Hid Few; rw [hl1]; simp; omega
      clear hu hbo hx hc b3 hok hl1
      have HB : Hid (w.heap.size + 1 ≤ wr.heap.size + 1 + 1) := by unfold Hid; omega
      go_wp2_with (at_builtin; go_loud (refine wpList_few rfl (.tmp 15) (.tmp 18) _ rfl eiDot (by decide) (by decide) (fun _ _ h => h.one) rfl ((hown.alloc _).alloc _) rfl (SlP.one (x := x.dot) (cs := [.int .i64 x.dc, .int .i64 x.n]) ⟨rfl, hd⟩ rfl _ (World.size_alloc _ _).symm) HL.out (by rw [World.size_alloc, World.size_alloc]; exact HB.out) ?_); intro v1 w1 hown1 hb1 _)
      go_roundw
      case rel =>
        refine ⟨k + 1, by omega, by go_num, by rw [HX.out]; exact hown1, ((hb.alloc (by omega) _).alloc (by simp; omega) _).trans hb1⟩
      case measure => simp [intOf]; omega
    · obtain rfl : k = es.length := by omega
      clear hl1
      rw [List.take_of_length_le (Nat.le_refl _)] at hown
      have hw1 : wr.cell? ⟨w.heap.size, 1, none⟩ = some (.slice A2 ks.length m) := by rw [hb.cell (p := ⟨w.heap.size, 1, none⟩) (by simp)]; simp
      go_wp2_with fail
      obtain ⟨wo, rfl⟩ : ∃ wo : World, wo = wr := ⟨_, rfl⟩
      go_loopw [3, 24] (fun v i wr => ∃ k : Nat, k ≤ ks.length ∧ i = .int .i64 k ∧ OwnP wr (w.heap.size + 1) 54 2 DtE v (es.map En.dot ++ Tr.dotsL (ks.take k)) ∧
          Below (w.heap.size + 1) (w.alloc (.cells #[.slice A1 es.length n, .slice A2 ks.length m] 27)) wr) (fun _ i _ => ks.length - (intOf i).toNat)
      case atStart => exact ⟨0, Nat.zero_le _, rfl, by simpa [Tr.dotsL] using hown, hb⟩
      case round =>
        obtain ⟨k, hk, rfl, hown, hb⟩ := hrel
        clear hw1
        have hsz := hb.size
        simp only [World.size_alloc] at hsz
        by_cases hlt : k < ks.length
        · obtain ⟨⟨key, t⟩, hx⟩ : ∃ x, ks[k]? = some x := ⟨_, List.getElem?_eq_getElem hlt⟩
          obtain ⟨b, off, rfl, hbB, hc⟩ := c3 (by rintro rfl; simp at hlt)
          obtain ⟨cs, ⟨ve', vk', rfl, hkb, hrd⟩, _, hu⟩ := hc k _ hx
          obtain ⟨A3, n3, A4, n4, rfl, rfl⟩ := rd_shape hrd
          have hbo : ∀ o, wr.cell? ⟨b, o, none⟩ = w.cell? ⟨b, o, none⟩ := fun o => (hb.cell (p := ⟨b, o, none⟩) (by simp; omega)).trans (World.cell?_alloc_lt _ _ _ hbB)
          have e0 : wr.cell? ⟨b, off + k * 3, none⟩ = some (.string key) := (hbo _).trans (hu 0 _ rfl)
          have e1 : wr.cell? ⟨b, off + k * 3 + 1, none⟩ = some (.slice A3 t.es.length n3) := (hbo _).trans (hu 1 _ rfl)
          have e2 : wr.cell? ⟨b, off + k * 3 + 2, none⟩ = some (.slice A4 t.ks.length n4) := (hbo _).trans (hu 2 _ rfl)
          have hmem : (key, t) ∈ ks := List.mem_of_getElem? hx
          have hB0 : Below w.heap.size w wr := ((Below.refl _ w).alloc (Nat.le_refl _) _).trans (hb.mono (by omega))
          have HR : Hid (∀ o, t.rd (wr.alloc o) (wr.alloc o).heap.size (.slice A3 t.es.length n3) (.slice A4 t.ks.length n4)) := fun o => rd_below (hB0.alloc (by omega) _) (by simp; omega) _ _ _ hrd
          have hdl := dotsL_take hx
          have hln := dotsL_len (ks := ks) (k + 1)
          have HX : Hid (es.map En.dot ++ Tr.dotsL (ks.take (k + 1)) = es.map En.dot ++ Tr.dotsL (ks.take k) ++ t.dots) := by unfold Hid; rw [hdl, List.append_assoc]
          have HL : Hid ((es.map En.dot ++ Tr.dotsL (ks.take k)).length + t.dots.length ≤ Few) := by
            unfold Hid Few; rw [hdl] at hln; simp at hln ⊢; omega
          have hu1 : t.dots.length ≤ 1000000 := by have := HL.out; unfold Few at this; omega
          clear hu hbo hx hc c3 hrd hdl hln
          go_wp2_with (first
            | (go_at_call 216; refine (ih key t hmem _ _ _ (HR.out _) hu1).mono ?_; rintro e w2 ⟨v2, rfl, hv2, hb2⟩; have hs2 := hb2.size; simp only [World.size_alloc] at hs2)
            | (at_builtin; refine wpList_few rfl (.tmp 28) (.tmp 31) _ rfl eiDot (by decide) (by decide) (fun _ _ h => h.one) rfl ((hown.alloc _).grow hb2) rfl (hv2.sl (by unfold Big; omega)) HL.out (by omega) ?_; intro v1 w1 hown1 hb3 _))
          go_roundw
          case rel =>
            refine ⟨k + 1, by omega, by go_num, by rw [HX.out]; exact hown1, ((hb.alloc (by omega) _).trans (hb2.mono (by simp; omega))).trans hb3⟩
          case measure => simp [intOf]; omega
        · obtain rfl : k = ks.length := by omega
          rw [List.take_of_length_le (Nat.le_refl _)] at hown
          go_wp2_with fail
          go_ret
          have hz := hown.mono (Nat.le_succ w.heap.size)
          refine ⟨_, rfl, by rw [Tr.dots]; exact hz, ((Below.refl _ w).alloc (Nat.le_refl _) _).trans (hb.mono (by omega))⟩
end Go.Proofs.YtmphgnjodangcaaGreat

namespace Go.Proofs.YtmphgnjodangcaaGreat
open Go.RowKit
set_option maxRecDepth 100000

/-- A row of one element, just laid. -/
theorem OwnP.fresh1 {α : Type} {w : World} {base n : Nat} {e : TypeId} {sz : Nat} {E : α → List Value → Prop} {x : α} {cs : List Value} (hE : E x cs) (hl : cs.length = sz) (h : w.heap[n]? = some (.cells cs.toArray e (0, 0))) (hb : base ≤ n) : OwnP w base e sz E (.slice (some ⟨n, 0, none⟩) 1 1) [x] := by
  subst hl
  refine ⟨[cs], ⟨rfl, fun j y hy => ?_⟩, by simp, .inr ⟨n, 1, cs.toArray, rfl, hb, h, Nat.le_refl _, by simp [maxLen], by simp, by simp⟩⟩
  match j, hy with
  | 0, hy => simp at hy; subst hy; exact ⟨cs, rfl, hE, rfl⟩
theorem r10one_any (d : Dt) (w : World) (h : d.Ok) :
    Calls Tryz.prog 180 #[.agg #[.int .i64 d.dc, .int .i64 d.n]] w (RetO w 47 3 (fun _ => SpE) [⟨d.dc, d.n, d.n⟩]) := by
  go_enter Tryz.func180, Tryz.ntmps180
  go_wp2_with fail
  go_ret
  exact ⟨_, rfl, OwnP.fresh1 (cs := [.int .i64 d.dc, .int .i64 d.n, .int .i64 d.n]) ⟨rfl, h.dc, h.n, h.n⟩ rfl (heap_new (by simp)) (by omega), ((Below.refl _ w).alloc (Nat.le_refl _) _).alloc (by simp) _⟩
end Go.Proofs.YtmphgnjodangcaaGreat

namespace Go.Proofs.YtmphgnjodangcaaGreat
open Go.RowKit
set_option maxRecDepth 100000

mutual
/-- How many levels a tree has. -/
def Tr.dep : Tr → Nat | .mk _ ks => Tr.depL ks + 1
def Tr.depL : List (ByteArray × Tr) → Nat | [] => 0 | (_, t) :: ks => max t.dep (Tr.depL ks)
end
theorem depL_le : ∀ {ks : List Kd} {k : ByteArray} {t : Tr}, (k, t) ∈ ks → t.dep ≤ Tr.depL ks
  | (k', t') :: ks, k, t, h => by
    rw [Tr.depL]
    rcases List.mem_cons.1 h with e | e
    · cases e; exact Nat.le_max_left _ _
    · exact Nat.le_trans (depL_le e) (Nat.le_max_right _ _)
theorem depL_take : ∀ {ks : List Kd} {n : Nat} {k : ByteArray} {t : Tr}, ks[n]? = some (k, t) → Tr.depL (ks.take (n + 1)) = max (Tr.depL (ks.take n)) t.dep
  | (k', t') :: ks, 0, k, t, h => by simp at h; obtain ⟨rfl, rfl⟩ := h; simp [Tr.depL]
  | (k', t') :: ks, n + 1, k, t, h => by
    simp only [List.take_succ_cons]
    rw [Tr.depL, Tr.depL, depL_take (ks := ks) (n := n) (by simpa using h), Nat.max_assoc]
theorem depL_take_le (ks : List Kd) : ∀ n, Tr.depL (ks.take n) ≤ Tr.depL ks := by
  induction ks with
  | nil => intro n; simp
  | cons x ks ih =>
    obtain ⟨k, t⟩ := x
    intro n
    cases n with
    | zero => simp [Tr.depL]
    | succ n => simp only [List.take_succ_cons]; rw [Tr.depL, Tr.depL]; have := ih n; omega
theorem max_int (a b : Nat) : max (a : Int) (b : Int) = ((max a b : Nat) : Int) := by omega

set_option maxHeartbeats 1000000 in
theorem tdeep_any (t : Tr) : ∀ (w : World) (ve vk : Value), t.rd w w.heap.size ve vk → t.dep ≤ 1000 →
    Calls Tryz.prog 197 #[.agg #[ve, vk]] w fun e w' => e = .returned (.int .i64 (t.dep : Nat)) ∧ Below w.heap.size w w' := by
  induction t using Tr.ind with
  | h es ks ih =>
  intro w ve vk h hN
  rw [rd_iff] at h
  obtain ⟨⟨A1, n, rfl, b1, b2, b3⟩, ⟨A2, m, rfl, c1, c2, c3⟩⟩ := h
  clear b3
  unfold Big at b2 c2
  rw [Tr.dep] at hN
  go_enter Tryz.func197, Tryz.ntmps197
  go_wp2_with fail
  go_loopw [3, 9] (fun v i wr => ∃ k : Nat, k ≤ ks.length ∧ i = .int .i64 k ∧ v = .int .i64 (Tr.depL (ks.take k) : Nat) ∧
      Below (w.heap.size + 1) (w.alloc (.cells #[.slice A1 es.length n, .slice A2 ks.length m] 27)) wr) (fun _ i _ => ks.length - (intOf i).toNat)
  case atStart => exact ⟨0, Nat.zero_le _, rfl, by simp [Tr.depL], Below.refl _ _⟩
  case round =>
    obtain ⟨k, hk, rfl, rfl, hb⟩ := hrel
    have hsz := hb.size
    simp only [World.size_alloc] at hsz
    have hdk := depL_take_le ks k
    by_cases hlt : k < ks.length
    · obtain ⟨⟨key, t⟩, hx⟩ : ∃ x, ks[k]? = some x := ⟨_, List.getElem?_eq_getElem hlt⟩
      obtain ⟨b, off, rfl, hbB, hc⟩ := c3 (by rintro rfl; simp at hlt)
      obtain ⟨cs, ⟨ve', vk', rfl, hkb, hrd⟩, _, hu⟩ := hc k _ hx
      obtain ⟨A3, n3, A4, n4, rfl, rfl⟩ := rd_shape hrd
      have hbo : ∀ o, wr.cell? ⟨b, o, none⟩ = w.cell? ⟨b, o, none⟩ := fun o => (hb.cell (p := ⟨b, o, none⟩) (by simp; omega)).trans (World.cell?_alloc_lt _ _ _ hbB)
      have e0 : wr.cell? ⟨b, off + k * 3, none⟩ = some (.string key) := (hbo _).trans (hu 0 _ rfl)
      have e1 : wr.cell? ⟨b, off + k * 3 + 1, none⟩ = some (.slice A3 t.es.length n3) := (hbo _).trans (hu 1 _ rfl)
      have e2 : wr.cell? ⟨b, off + k * 3 + 2, none⟩ = some (.slice A4 t.ks.length n4) := (hbo _).trans (hu 2 _ rfl)
      have hmem : (key, t) ∈ ks := List.mem_of_getElem? hx
      have hB0 : Below w.heap.size w wr := ((Below.refl _ w).alloc (Nat.le_refl _) _).trans (hb.mono (by omega))
      have HR : Hid (∀ o, t.rd (wr.alloc o) (wr.alloc o).heap.size (.slice A3 t.es.length n3) (.slice A4 t.ks.length n4)) := fun o => rd_below (hB0.alloc (by omega) _) (by simp; omega) _ _ _ hrd
      have HX := hid (depL_take hx)
      have hdt : t.dep ≤ 1000 := by have := depL_le hmem; omega
      clear hu hbo hx hc c3 hrd
      go_wp2_with (go_at_call 197; go_loud (refine (ih key t hmem _ _ _ (HR.out _) hdt).mono ?_); rintro e w2 ⟨rfl, hb2⟩; have hs2 := hb2.size; simp only [World.size_alloc] at hs2)
      go_roundw
      case rel =>
        refine ⟨k + 1, by omega, by go_num, by (rw [HX.out, ← max_int]); try (congr 1; first | omega | (split <;> omega)), (hb.alloc (by omega) _).trans (hb2.mono (by simp; omega))⟩
      case measure => simp [intOf]; omega
    · obtain rfl : k = ks.length := by omega
      rw [List.take_of_length_le (Nat.le_refl _)] at hdk ⊢
      go_wp2_with fail
      go_ret
      exact ⟨by rw [Tr.dep]; go_num, ((Below.refl _ w).alloc (Nat.le_refl _) _).trans (hb.mono (by omega))⟩
end Go.Proofs.YtmphgnjodangcaaGreat

namespace Go.Proofs.YtmphgnjodangcaaGreat
open Go.RowKit
set_option maxRecDepth 100000

def wholeK (ls : Nat → List (Int × Int)) (k : Nat) : List Sp := (List.range k).flatMap fun (dc : Nat) => spansL (dc : Int) (ls dc)
theorem wholeK_succ (ls : Nat → List (Int × Int)) (k : Nat) : wholeK ls (k + 1) = wholeK ls k ++ spansL (k : Int) (ls k) := by
  unfold wholeK; rw [List.range_succ, List.flatMap_append]; simp
theorem wholeK_len (ls : Nat → List (Int × Int)) (n : Nat) (h : ∀ i, i < 4 → (ls i).length ≤ n) : ∀ k, k ≤ 4 → (wholeK ls k).length ≤ k * n
  | 0, _ => by simp [wholeK]
  | k + 1, hk => by
    rw [wholeK_succ, List.length_append, Nat.add_mul]
    have := wholeK_len ls n h k (by omega)
    have h2 := h k (by omega)
    unfold spansL; rw [List.length_map]; omega

set_option maxHeartbeats 4000000 in
theorem whole_any (ls : Nat → List (Int × Int)) (vs : Nat → Value) (w : World) (h : ∀ i, i < 4 → SlP w w.heap.size 2 RuE (vs i) (ls i)) (hN : ∀ i, i < 4 → (ls i).length ≤ 200000) :
    Calls Tryz.prog 186 #[.agg #[vs 0, vs 1, vs 2, vs 3]] w (RetO w 47 3 (fun _ => SpE) (wholeK ls 4)) := by
  obtain ⟨A0, m0, g0, _⟩ := h 0 (by omega)
  obtain ⟨A1, m1, g1, _⟩ := h 1 (by omega)
  obtain ⟨A2, m2, g2, _⟩ := h 2 (by omega)
  obtain ⟨A3, m3, g3, _⟩ := h 3 (by omega)
  have G0 := hid g0
  have G1 := hid g1
  have G2 := hid g2
  have G3 := hid g3
  have H := hid h
  simp only [g0, g1, g2, g3]
  clear g0 g1 g2 g3 h
  go_enter Tryz.func186, Tryz.ntmps186
  go_wp2_with fail
  go_loopw [3, 9] (fun v i wr => ∃ k : Nat, k ≤ 4 ∧ i = .int .i64 k ∧ OwnP wr (w.heap.size + 1) 47 3 SpE v (wholeK ls k) ∧ Below w.heap.size w wr) (fun _ i _ => 4 - (intOf i).toNat)
  case atStart => exact ⟨0, Nat.zero_le _, rfl, OwnP.nil, (Below.refl _ _).alloc (Nat.le_refl _) _⟩
  case round =>
    obtain ⟨k, hk, rfl, hown, hb⟩ := hrel
    have hsz := hb.size
    by_cases hlt : k < 4
    · obtain ⟨A, n, gv, b1, b2, b3⟩ := H.out k hlt
      have hNk := hN k hlt
      have hidx : ∀ w, (Instr.index 205 (.agg #[.slice A0 (ls 0).length m0, .slice A1 (ls 1).length m1, .slice A2 (ls 2).length m2, .slice A3 (ls 3).length m3]) (.int .i64 (k : Int))).run Tryz.prog w = .ok (.slice A (ls k).length n) w := fun w => by
        rw [← gv]
        match k, hlt with
        | 0, _ => rw [G0.out]; rfl
        | 1, _ => rw [G1.out]; rfl
        | 2, _ => rw [G2.out]; rfl
        | 3, _ => rw [G3.out]; rfl
      have hkl : decide ((k : Int) < 4) = true := by simp; omega
      have HK := hid (wholeK_succ ls k)
      have hwl := wholeK_len ls 200000 hN k hk
      have hwl2 : (wholeK ls k).length ≤ 600000 := by omega
      clear gv hwl
      unfold Big at b2
      go_wp2_with fail
      obtain ⟨wo, rfl⟩ : ∃ wo : World, wo = wr := ⟨_, rfl⟩
      go_loopw [3, 15] (fun v i wr => ∃ j : Nat, j ≤ (ls k).length ∧ i = .int .i64 j ∧ OwnP wr (w.heap.size + 1) 47 3 SpE v (wholeK ls k ++ spansL (k : Int) ((ls k).take j)) ∧ Below w.heap.size w wr) (fun _ i _ => (ls k).length - (intOf i).toNat)
      case atStart => exact ⟨0, Nat.zero_le _, rfl, by simpa [spansL] using hown, hb⟩
      case round =>
        obtain ⟨j, hj, rfl, hown, hb⟩ := hrel
        have hsz := hb.size
        have hsz1 : w.heap.size + 1 ≤ wr.heap.size + 1 := by omega
        by_cases hjl : j < (ls k).length
        · obtain ⟨x, hx⟩ : ∃ x, (ls k)[j]? = some x := ⟨_, List.getElem?_eq_getElem hjl⟩
          obtain ⟨b, off, rfl, hbB, hc⟩ := b3 (by intro e; rw [e] at hjl; simp at hjl)
          obtain ⟨cs, ⟨rfl, hok⟩, _, hu⟩ := hc j _ hx
          have e0 : wr.cell? ⟨b, off + j * 2, none⟩ = some (.int .i64 x.1) := (hb.cell hbB).trans (hu 0 _ rfl)
          have e1 : wr.cell? ⟨b, off + j * 2 + 1, none⟩ = some (.int .i64 x.2) := (hb.cell hbB).trans (hu 1 _ rfl)
          have HX : Hid (wholeK ls k ++ spansL (k : Int) ((ls k).take (j + 1)) = (wholeK ls k ++ spansL (k : Int) ((ls k).take j)) ++ [⟨k, x.1, x.2⟩]) := by unfold Hid spansL; rw [take_succ' hx, List.map_append, List.append_assoc]; rfl
          have HL : Hid ((wholeK ls k ++ spansL (k : Int) ((ls k).take j)).length + [(⟨k, x.1, x.2⟩ : Sp)].length ≤ Few) := by
            unfold Hid Few spansL; simp; omega
          have J0 : Hid (SpE ⟨k, x.1, x.2⟩ [.int .i64 (k : Int), .int .i64 x.1, .int .i64 x.2]) := ⟨rfl, ⟨by show _ ≤ (k : Int); omega, by show (k : Int) ≤ _; omega⟩, hok.1, hok.2⟩
          clear hu hx hc b3 hok
          go_wp2_with (at_builtin; go_loud ((refine wpList_few rfl (.tmp 19) (.tmp 26) _ rfl eiSpan (by decide) (by decide) (fun _ _ h => h.one) rfl ((hown.alloc _).alloc _) rfl (SlP.one J0.out rfl _ (by simp)) HL.out (by rw [World.size_alloc, World.size_alloc]; omega) ?_); intro v1 w1 hown1 hb1 _))
          go_roundw
          case rel => exact ⟨j + 1, by omega, by go_num, by rw [HX.out]; exact hown1, (((hb.alloc hsz _).alloc (by rw [World.size_alloc]; omega) _).trans (hb1.mono (by omega)))⟩
          case measure => simp [intOf]; omega
        · obtain rfl : j = (ls k).length := by omega
          rw [List.take_of_length_le (Nat.le_refl _)] at hown
          go_wp2_with fail
          go_roundw
          case rel => exact ⟨k + 1, by omega, by go_num, by rw [HK.out]; exact hown, hb⟩
          case measure => simp [intOf]; omega
    · obtain rfl : k = 4 := by omega
      go_wp2_with fail
      go_ret
      exact ⟨_, rfl, hown.mono (by omega), hb⟩
end Go.Proofs.YtmphgnjodangcaaGreat

namespace Go.Proofs.YtmphgnjodangcaaGreat
open Go.RowKit
set_option maxRecDepth 100000

def hasC (c : List Sp) (d : Dt) : Bool := d.right && hasL (partL c d.dc) d.n
set_option maxHeartbeats 4000000 in
theorem r07has_any (c : List Sp) (d : Dt) (vc : Value) (w : World) (h : SlP w w.heap.size 3 SpE vc c) (hN : c.length ≤ 999999) :
    Calls Tryz.prog 92 #[vc, .agg #[.int .i64 d.dc, .int .i64 d.n]] w fun e w' => e = .returned (.bool (hasC c d)) ∧ Below w.heap.size w w' := by
  have HB : Hid (∀ w', Below (w.heap.size + 1) (w.alloc (.cells #[.int .i64 d.dc, .int .i64 d.n] 54)) w' → Below w.heap.size w w' ∧ w'.cell? ⟨w.heap.size, 0, none⟩ = some (.int .i64 d.dc) ∧ w'.cell? ⟨w.heap.size, 1, none⟩ = some (.int .i64 d.n)) := fun w' hb =>
    ⟨((Below.refl _ w).alloc (Nat.le_refl _) _).trans (hb.mono (by omega)), by rw [hb.cell (p := ⟨w.heap.size, 0, none⟩) (by simp)]; simp, by rw [hb.cell (p := ⟨w.heap.size, 1, none⟩) (by simp)]; simp⟩
  have HC : Hid (∀ w', Below w.heap.size w w' → SlP w' w'.heap.size 3 SpE vc c) := fun w' hb => h.imp hb hb.size (fun _ _ _ h => h)
  obtain ⟨A, n, rfl, _, _, _⟩ := h
  go_enter Tryz.func92, Tryz.ntmps92
  rcases hr : d.right
  · have f0 := far_cell (B := w.heap.size + 1) (HB.out _ (Below.refl _ _)).2.1 (by omega)
    have f1 := far_cell (B := w.heap.size + 1) (HB.out _ (Below.refl _ _)).2.2 (by omega)
    go_upto_region 1 with (fail)
    refine wp_region_far (w.heap.size + 1) (by kernel_rfl) (by kernel_rfl) ?_
    repeat (go_big_quiet_step ((go_at_call 124; exact Calls.far_of (by simp) (hr ▸ r05right_any d _))))
    refine wpQuiet_nil ?_
    intro wq hbq
    go_wp2_with fail
    go_ret
    exact ⟨ret_bool (by rw [hasC, hr]; rfl), (HB.out _ hbq).1⟩
  · go_upto_region 1 with (fail)
    go_region_held3 (fun w' => w'.cell? ⟨w.heap.size, 0, none⟩ = some (.int .i64 d.dc) ∧ w'.cell? ⟨w.heap.size, 1, none⟩ = some (.int .i64 d.n))
      (first | go_keep | exact (HB.out _ hb2).2 | exact (HB.out _ hb1).2)
      (first | (go_at_call 124; refine (r05right_any d _).mono ?_; rw [hr]; rintro e w1 ⟨rfl, hb⟩; have hb1 : Below (w.heap.size + 1) (w.alloc (.cells #[.int .i64 d.dc, .int .i64 d.n] 54)) w1 := ((Below.refl _ _).drew).trans (hb.mono (by simp)))
             | (go_at_call 164; go_loud ((refine (r07part_any c d.dc _ w1 (HC.out _ (HB.out _ hb1).1) hN).mono ?_); rintro e w2 ⟨vp, rfl, ho, hb'⟩; have hb2 := hb1.trans (hb'.mono (by have := hb1.size; simpa using this)); have hsl := ho.sl (by have := partL_len c d.dc; unfold Big; omega)))
             | (go_at_call 163; go_loud ((refine (r06has_any (partL c d.dc) d.n _ w2 _ hsl).mono ?_); rintro e w3 ⟨rfl, rfl⟩)))
    go_wp2_with fail
    go_ret
    exact ⟨ret_bool (by rw [hasC, hr]; rfl), (HB.out _ hb2).1⟩
end Go.Proofs.YtmphgnjodangcaaGreat

namespace Go.Proofs.YtmphgnjodangcaaGreat
open Go.RowKit

mutual
theorem room_sz : ∀ (t : Tr) (left deep : Int), 0 ≤ t.room left deep → (t.sz : Int) + t.room left deep ≤ left
  | .mk es ks, left, deep, h => by
    rw [Tr.room] at h ⊢
    have := roomL_sz ks _ deep h
    rw [Tr.sz]
    push_cast
    omega
theorem roomL_sz : ∀ (ks : List (ByteArray × Tr)) (left deep : Int), 0 ≤ Tr.roomL ks left deep → (Tr.szL ks : Int) - ks.length + Tr.roomL ks left deep ≤ left
  | [], left, deep, h => by rw [Tr.roomL] at h ⊢; simp [Tr.szL]
  | (k, t) :: ks, left, deep, h => by
    rw [Tr.roomL] at h ⊢
    split at h
    · omega
    · rename_i hc
      rw [if_neg hc]
      have h1 := roomL_sz ks _ deep h
      have hs := szL_len ks
      by_cases h2 : 0 ≤ t.room left (deep - 1)
      · have h3 := room_sz t left (deep - 1) h2
        rw [Tr.szL]; simp only [List.length_cons]; push_cast; omega
      · omega
end
/-- A small tree. -/
def smlB (t : Tr) (n : Int) : Bool := decide (0 ≤ t.room n 8)
theorem sml_sz {t : Tr} {n : Int} (h : smlB t n = true) : (t.sz : Int) ≤ n := by
  have h := of_decide_eq_true h
  have := room_sz t n 8 h
  omega
end Go.Proofs.YtmphgnjodangcaaGreat

namespace Go.Proofs.YtmphgnjodangcaaGreat
open Go.RowKit
set_option maxRecDepth 100000

theorem small14_any (t : Tr) (w : World) (ve vk : Value) (h : t.rd w w.heap.size ve vk) :
    Calls Tryz.prog 56 #[.agg #[ve, vk]] w fun e w' => e = .returned (.bool (smlB t 60)) ∧ Below w.heap.size w w' := by
  have HC : Hid (∀ w', Below w.heap.size w w' → t.rd w' w'.heap.size ve vk) := fun w' hb => rd_below hb hb.size _ _ _ h
  obtain ⟨A3, n3, A4, n4, rfl, rfl⟩ := rd_shape h
  have hb0 := (Below.refl w.heap.size w).alloc (Nat.le_refl _) (.cells #[.slice A3 t.es.length n3, .slice A4 t.ks.length n4] 27)
  clear h
  go_enter Tryz.func56, Tryz.ntmps56
  go_wp2_with fail
  refine (r08small_any t _ _ _ 60 (HC.out _ hb0) (by omega) (by omega)).mono ?_
  rintro e w1 ⟨rfl, hb1⟩
  rw [show decide (0 ≤ t.room 60 8) = smlB t 60 from rfl]
  go_wp2_with fail
  go_ret
  exact ⟨rfl, hb0.trans (hb1.mono (by simp))⟩
theorem ks_sz (t : Tr) : t.ks.length ≤ t.sz := by
  obtain ⟨es, ks⟩ := t
  have := szL_len ks
  rw [Tr.sz]; simp only [Tr.ks]; omega
end Go.Proofs.YtmphgnjodangcaaGreat

namespace Go.Proofs.YtmphgnjodangcaaGreat
open Go.RowKit
set_option maxRecDepth 100000

theorem guardSpan : Tryz.prog.eqGuardType Tryz.prog.depth 47 = false := by kernel_rfl
theorem guardEntry : Tryz.prog.eqGuardType Tryz.prog.depth 142 = false := by kernel_rfl
theorem guardDot : Tryz.prog.eqGuardType Tryz.prog.depth 54 = false := by kernel_rfl
theorem neqSpan (x y : Sp) (w : World) : (binOp .neq 47 (.agg #[.int .i64 x.dc, .int .i64 x.fr, .int .i64 x.hi]) (.agg #[.int .i64 y.dc, .int .i64 y.fr, .int .i64 y.hi])).run Tryz.prog w = .ok (.bool (!decide (x = y))) w := by
  have u3 := Tryz.underlying3
  have u2 := Tryz.underlying2
  have hS : Tryz.prog.underlying 47 = some (.struct (Tryz.prog.fieldsOf 47)) := by kernel_rfl
  have hp : Tryz.prog.stoodInHeld 47 = false := by kernel_rfl
  rw [run_neq_struct, show (10000 : Nat) = 9999 + 1 from rfl, run_equalIn_agg w 9999 47 _ _ hS hp]
  simp only [Program.fieldsOf, Tryz.underlying47]
  go_simp
  obtain ⟨a, b, c⟩ := x; obtain ⟨d, e, f⟩ := y
  by_cases h1 : a = d <;> by_cases h2 : b = e <;> by_cases h3 : c = f <;> simp [h1, h2, h3]
theorem eqlDot (x y : Dt) (w : World) : (binOp .eql 54 (.agg #[.int .i64 x.dc, .int .i64 x.n]) (.agg #[.int .i64 y.dc, .int .i64 y.n])).run Tryz.prog w = .ok (.bool (decide (x = y))) w := by
  have u3 := Tryz.underlying3
  have u2 := Tryz.underlying2
  have hS : Tryz.prog.underlying 54 = some (.struct (Tryz.prog.fieldsOf 54)) := by kernel_rfl
  have hp : Tryz.prog.stoodInHeld 54 = false := by kernel_rfl
  rw [run_eql_struct, show (10000 : Nat) = 9999 + 1 from rfl, run_equalIn_agg w 9999 54 _ _ hS hp]
  simp only [Program.fieldsOf, Tryz.underlying54]
  go_simp
  obtain ⟨a, b⟩ := x; obtain ⟨d, e⟩ := y
  by_cases h1 : a = d <;> by_cases h2 : b = e <;> simp [h1, h2]
theorem bytes_inj (a b : ByteArray) : a.toList = b.toList ↔ a = b := by
  rw [ByteArray.toList_eq, ByteArray.toList_eq]
  obtain ⟨⟨x⟩⟩ := a; obtain ⟨⟨y⟩⟩ := b
  simp
theorem neqEntry (x y : En) (w : World) : (binOp .neq 142 (.agg #[.int .i64 x.dc, .int .i64 x.n, .string x.s, .int .i64 x.v]) (.agg #[.int .i64 y.dc, .int .i64 y.n, .string y.s, .int .i64 y.v])).run Tryz.prog w = .ok (.bool (!decide (x = y))) w := by
  have u3 := Tryz.underlying3
  have u2 := Tryz.underlying2
  have u9 := Tryz.underlying9
  have u27 := Tryz.underlying54
  have hS : Tryz.prog.underlying 142 = some (.struct (Tryz.prog.fieldsOf 142)) := by kernel_rfl
  have hp : Tryz.prog.stoodInHeld 142 = false := by kernel_rfl
  have hS2 : Tryz.prog.underlying 54 = some (.struct (Tryz.prog.fieldsOf 54)) := by kernel_rfl
  have hp2 : Tryz.prog.stoodInHeld 54 = false := by kernel_rfl
  rw [run_neq_struct, show (10000 : Nat) = 9999 + 1 from rfl, run_equalIn_agg w 9999 142 _ _ hS hp]
  simp only [Program.fieldsOf, Tryz.underlying142]
  go_simp
  have hq := fun (a b c d : Int) (w : World) => run_equalIn_agg (P := Tryz.prog) w 9998 54 #[.int .i64 a, .int .i64 b] #[.int .i64 c, .int .i64 d] hS2 hp2
  try simp only [hq, Program.fieldsOf, u27]
  go_simp
  obtain ⟨a, b, s, c⟩ := x; obtain ⟨d, e, u, f⟩ := y
  by_cases h1 : a = d <;> by_cases h2 : b = e <;> by_cases h3 : c = f <;> by_cases h4 : s = u <;> simp [h1, h2, h3, h4, bytes_inj]

/-- A loop that holds two lists against one another has come so far. -/
theorem take_eq_succ {α : Type} {xs ys : List α} {k : Nat} {x y : α} (hx : xs[k]? = some x) (hy : ys[k]? = some y) (h : xs.take k = ys.take k) : xs.take (k + 1) = ys.take (k + 1) ↔ x = y := by
  rw [List.take_add_one, List.take_add_one, hx, hy, h]
  simp

set_option maxHeartbeats 1000000 in
theorem r07same_any (a b : List Sp) (va vb : Value) (w : World) (B : Nat) (ha : SlP w B 3 SpE va a) (hb : SlP w B 3 SpE vb b) :
    Calls Tryz.prog 93 #[va, vb] w fun e w' => e = .returned (.bool (decide (a = b))) ∧ ∃ n, w' = w.drewN n := by
  obtain ⟨A1, n1, rfl, b1, b2, b3⟩ := ha
  obtain ⟨A2, n2, rfl, c1, c2, c3⟩ := hb
  unfold Big at b2 c2
  by_cases hl : a.length = b.length
  · have hl' : ((a.length : Int) != (b.length : Int)) = false := by simp [hl]
    have HL := hid hl
    clear hl
    have gg := guardSpan
    have nn := neqSpan
    go_enter Tryz.func93, Tryz.ntmps93
    go_wp2_with fail
    go_loopw [13] (fun i wr => ∃ k : Nat, k ≤ a.length ∧ i = .int .i64 k ∧ Hid (a.take k = b.take k) ∧ ∃ n, wr = w.drewN n) (fun i _ => a.length - (intOf i).toNat)
    case atStart => exact ⟨0, Nat.zero_le _, rfl, rfl, 0, rfl⟩
    case round =>
      obtain ⟨k, hk, rfl, hrel, q, rfl⟩ := hrel
      by_cases hlt : k < a.length
      · have hlt2 : k < b.length := by have := HL.out; omega
        obtain ⟨x, hx⟩ : ∃ x, a[k]? = some x := ⟨_, List.getElem?_eq_getElem hlt⟩
        obtain ⟨y, hy⟩ : ∃ y, b[k]? = some y := ⟨_, List.getElem?_eq_getElem hlt2⟩
        obtain ⟨ba, oa, rfl, hbA, hc⟩ := b3 (by rintro rfl; simp at hlt)
        obtain ⟨bb, ob, rfl, hbB, hd⟩ := c3 (by rintro rfl; simp at hlt2)
        obtain ⟨cs, ⟨rfl, hok⟩, _, hu⟩ := hc k _ hx
        obtain ⟨ds, ⟨rfl, hok2⟩, _, hv⟩ := hd k _ hy
        have e0 : w.cell? ⟨ba, oa + k * 3, none⟩ = some (.int .i64 x.dc) := hu 0 _ rfl
        have e1 : w.cell? ⟨ba, oa + k * 3 + 1, none⟩ = some (.int .i64 x.fr) := hu 1 _ rfl
        have e2 : w.cell? ⟨ba, oa + k * 3 + 2, none⟩ = some (.int .i64 x.hi) := hu 2 _ rfl
        have g0 : w.cell? ⟨bb, ob + k * 3, none⟩ = some (.int .i64 y.dc) := hv 0 _ rfl
        have g1 : w.cell? ⟨bb, ob + k * 3 + 1, none⟩ = some (.int .i64 y.fr) := hv 1 _ rfl
        have g2 : w.cell? ⟨bb, ob + k * 3 + 2, none⟩ = some (.int .i64 y.hi) := hv 2 _ rfl
        have HT := hid (take_eq_succ hx hy hrel.out)
        have HXY : Hid (a = b → x = y) := fun e => by subst e; rw [hx] at hy; exact Option.some.inj hy
        have hi1 : ((k : Int)) < (a.length : Int) := by omega
        have hi2 : ((k : Int)) < (b.length : Int) := by omega
        clear hu hv hc hd b3 c3 hx hy hok hok2
        rcases hxy : decide (x = y)
        · have hne : x ≠ y := by simpa using hxy
          go_wp2_with fail
          go_quiet (fail)
          go_wp2_with fail
          go_ret
          exact ⟨ret_bool (by simpa using fun e => hne (HXY.out e)), q + nq, by first | rfl | exact World.drewN_drewN _ _ _⟩
        · have hE := hid (of_decide_eq_true hxy)
          go_wp2_with fail
          go_quiet (fail)
          go_wp2_with fail
          go_roundw
          case rel => exact ⟨k + 1, by omega, by go_num, HT.out.2 hE.out, q + nq, by first | rfl | exact World.drewN_drewN _ _ _⟩
          case measure => simp [intOf]; omega
      · obtain rfl : k = a.length := by omega
        have HR := hid hrel.out
        clear hrel
        go_wp2_with fail
        go_ret
        refine ⟨ret_bool ?_, q, rfl⟩
        have h1 := HR.out
        rw [List.take_of_length_le (Nat.le_refl _), List.take_of_length_le (by rw [HL.out]; exact Nat.le_refl _)] at h1
        simp [h1]
  · have hl' : ((a.length : Int) != (b.length : Int)) = true := by simp; omega
    have HL := hid hl
    clear hl
    go_enter Tryz.func93, Tryz.ntmps93
    go_wp2_with fail
    go_ret
    refine ⟨ret_bool ?_, 0, rfl⟩
    have : a ≠ b := fun e => HL.out (by rw [e])
    simp [this]
set_option maxHeartbeats 1000000 in
theorem r10alike_any (a b : List ByteArray) (va vb : Value) (w : World) (B : Nat) (ha : SlP w B 1 StE va a) (hb : SlP w B 1 StE vb b) :
    Calls Tryz.prog 52 #[va, vb] w fun e w' => e = .returned (.bool (decide (a = b))) ∧ ∃ n, w' = w.drewN n := by
  obtain ⟨A1, n1, rfl, b1, b2, b3⟩ := ha
  obtain ⟨A2, n2, rfl, c1, c2, c3⟩ := hb
  unfold Big at b2 c2
  by_cases hl : a.length = b.length
  · have hl' : ((a.length : Int) != (b.length : Int)) = false := by simp [hl]
    have HL := hid hl
    clear hl
    go_enter Tryz.func52, Tryz.ntmps52
    go_wp2_with fail
    go_loopw [13] (fun i wr => ∃ k : Nat, k ≤ a.length ∧ i = .int .i64 k ∧ Hid (a.take k = b.take k) ∧ ∃ n, wr = w.drewN n) (fun i _ => a.length - (intOf i).toNat)
    case atStart => exact ⟨0, Nat.zero_le _, rfl, rfl, 0, rfl⟩
    case round =>
      obtain ⟨k, hk, rfl, hrel, q, rfl⟩ := hrel
      by_cases hlt : k < a.length
      · have hlt2 : k < b.length := by have := HL.out; omega
        obtain ⟨x, hx⟩ : ∃ x, a[k]? = some x := ⟨_, List.getElem?_eq_getElem hlt⟩
        obtain ⟨y, hy⟩ : ∃ y, b[k]? = some y := ⟨_, List.getElem?_eq_getElem hlt2⟩
        obtain ⟨ba, oa, rfl, hbA, hc⟩ := b3 (by rintro rfl; simp at hlt)
        obtain ⟨bb, ob, rfl, hbB, hd⟩ := c3 (by rintro rfl; simp at hlt2)
        obtain ⟨cs, ⟨rfl, hok⟩, _, hu⟩ := hc k _ hx
        obtain ⟨ds, ⟨rfl, hok2⟩, _, hv⟩ := hd k _ hy
        have e0 : w.cell? ⟨ba, oa + k, none⟩ = some (.string x) := by simpa using hu 0 _ rfl
        have g0 : w.cell? ⟨bb, ob + k, none⟩ = some (.string y) := by simpa using hv 0 _ rfl
        have HT := hid (take_eq_succ hx hy hrel.out)
        have HXY : Hid (a = b → x = y) := fun e => by subst e; rw [hx] at hy; exact Option.some.inj hy
        have hi1 : ((k : Int)) < (a.length : Int) := by omega
        have hi2 : ((k : Int)) < (b.length : Int) := by omega
        clear hu hv hc hd b3 c3 hx hy hok hok2
        rcases hxy : (x.toList == y.toList)
        · have hne : x ≠ y := fun e => by rw [e] at hxy; simp at hxy
          have hxy2 : (x.toList != y.toList) = true := by simp [bne, hxy]
          go_wp2_with fail
          go_quiet (fail)
          go_wp2_with fail
          go_ret
          exact ⟨ret_bool (by simpa using fun e => hne (HXY.out e)), q + nq, by first | rfl | exact World.drewN_drewN _ _ _⟩
        · have hE := hid ((bytes_inj x y).1 (by simpa using hxy))
          have hxy2 : (x.toList != y.toList) = false := by simp [bne, hxy]
          go_wp2_with fail
          go_quiet (fail)
          go_wp2_with fail
          go_roundw
          case rel => exact ⟨k + 1, by omega, by go_num, HT.out.2 hE.out, q + nq, by first | rfl | exact World.drewN_drewN _ _ _⟩
          case measure => simp [intOf]; omega
      · obtain rfl : k = a.length := by omega
        have HR := hid hrel.out
        clear hrel
        go_wp2_with fail
        go_ret
        refine ⟨ret_bool ?_, q, rfl⟩
        have h1 := HR.out
        rw [List.take_of_length_le (Nat.le_refl _), List.take_of_length_le (by rw [HL.out]; exact Nat.le_refl _)] at h1
        simp [h1]
  · have hl' : ((a.length : Int) != (b.length : Int)) = true := by simp; omega
    have HL := hid hl
    clear hl
    go_enter Tryz.func52, Tryz.ntmps52
    go_wp2_with fail
    go_ret
    refine ⟨ret_bool ?_, 0, rfl⟩
    have : a ≠ b := fun e => HL.out (by rw [e])
    simp [this]
end Go.Proofs.YtmphgnjodangcaaGreat

namespace Go.Proofs.YtmphgnjodangcaaGreat
open Go.RowKit
set_option maxRecDepth 100000

def underF (key : ByteArray) (x : Lf) : Option Lf := match x.1 with | [] => none | q :: qs => if q = key then some (qs, x.2) else none
def underL (l : List Lf) (key : ByteArray) : List Lf := l.filterMap (underF key)
theorem underL_take {l : List Lf} {k : Nat} {x : Lf} (h : l[k]? = some x) (key : ByteArray) : underL (l.take (k + 1)) key = underL (l.take k) key ++ (underF key x).toList := by
  unfold underL
  rw [List.take_add_one, h, List.filterMap_append]
  cases hx : underF key x <;> simp [hx]
theorem underL_len (l : List Lf) (key : ByteArray) : (underL l key).length ≤ l.length := List.length_filterMap_le _ _

set_option maxHeartbeats 4000000 in
theorem r08under_any (l : List Lf) (key : ByteArray) (okp : Nat → Prop) (vl : Value) (w : World) (h : SlP w w.heap.size 5 (LfA w (fun b => okp b ∧ b < w.heap.size)) vl l) (hN : l.length ≤ 900000) :
    Calls Tryz.prog 137 #[vl, .string key] w (RetD w 147 5 LfA okp (underL l key)) := by
  obtain ⟨A, c, rfl, l1, l2, l3⟩ := h
  unfold Big at l2
  go_enter Tryz.func137, Tryz.ntmps137
  go_wp2_with fail
  go_loopw [5, 9] (fun v i wr => ∃ k : Nat, k ≤ l.length ∧ i = .int .i64 k ∧ OwnD wr w.heap.size 147 5 LfA (fun b => okp b ∨ w.heap.size ≤ b) v (underL (l.take k) key) ∧ Below w.heap.size w wr) (fun _ i _ => l.length - (intOf i).toNat)
  case atStart => exact ⟨0, Nat.zero_le _, rfl, OwnD.nil, Below.refl _ _⟩
  case round =>
    obtain ⟨k, hk, rfl, hown, hb⟩ := hrel
    have hsz := hb.size
    by_cases hlt : k < l.length
    · obtain ⟨⟨p, x⟩, hx⟩ : ∃ x, l[k]? = some x := ⟨_, List.getElem?_eq_getElem hlt⟩
      obtain ⟨b, off, rfl, hbB, hc⟩ := l3 (by rintro rfl; simp at hlt)
      obtain ⟨cs, ⟨A7, c7, rfl, hp, hok⟩, _, hu⟩ := hc k _ hx
      have hut := underL_take hx key
      have e0 : wr.cell? ⟨b, off + k * 5, none⟩ = some (.slice A7 p.length c7) := (hb.cell hbB).trans (hu 0 _ rfl)
      have hlen := underL_len (l.take k) key
      have HLe : Hid ((underL (l.take k) key).length ≤ 900000) := by unfold Hid; simp at hlen; omega
      clear hlen
      cases p with
      | nil =>
        have HX : Hid (underL (l.take (k + 1)) key = underL (l.take k) key) := by unfold Hid; rw [hut]; simp [underF]
        simp only [List.length_nil] at e0
        clear hu hx hc l3 hok hp hut
        go_wp2_with fail
        go_roundw
        case rel => exact ⟨k + 1, by omega, by go_num, by rw [HX.out]; exact hown, hb⟩
        case measure => simp [intOf]; omega
      | cons q qs =>
        obtain ⟨A7', c7', hv7, m1, m2, m3⟩ := hp
        simp only [Value.slice.injEq] at hv7
        obtain ⟨rfl, _, rfl⟩ := hv7
        obtain ⟨b7, o7, rfl, hb7, hc7⟩ := m3 (by simp)
        unfold Big at m2
        simp only [List.length_cons] at e0 m1 m2
        have hb7' : b7 < wr.heap.size := by have := hb7.2; omega
        obtain ⟨cs7, ⟨rfl, hq7⟩, _, hu7⟩ := hc7 0 q rfl
        have e7 : wr.cell? ⟨b7, o7, none⟩ = some (.string q) := (hb.cell (p := ⟨b7, o7, none⟩) hb7.2).trans (by simpa using hu7 0 _ rfl)
        have e1 : wr.cell? ⟨b, off + k * 5 + 1, none⟩ = some (.int .i64 x.dc) := (hb.cell hbB).trans (hu 1 _ rfl)
        have e2 : wr.cell? ⟨b, off + k * 5 + 2, none⟩ = some (.int .i64 x.n) := (hb.cell hbB).trans (hu 2 _ rfl)
        have e3 : wr.cell? ⟨b, off + k * 5 + 3, none⟩ = some (.string x.s) := (hb.cell hbB).trans (hu 3 _ rfl)
        have e4 : wr.cell? ⟨b, off + k * 5 + 4, none⟩ = some (.int .i64 x.v) := (hb.cell hbB).trans (hu 4 _ rfl)
        by_cases h71 : c7 = 1
        · subst h71
          obtain rfl : qs = [] := List.eq_nil_of_length_eq_zero (by omega)
          simp only [List.length_nil, Nat.zero_add] at e0 m1 m2
          by_cases hqk : q = key
          · have hqk' : (q.toList == key.toList) = true := by rw [hqk]; simp
            have HX : Hid (underL (l.take (k + 1)) key = underL (l.take k) key ++ [(([] : List ByteArray), x)]) := by unfold Hid; rw [hut]; simp [underF, hqk]
            have HL : Hid ((underL (l.take k) key).length + [(([] : List ByteArray), x)].length ≤ Few) := by have := HLe.out; unfold Hid Few; simp; omega
            have HS : Hid (∀ w', Below w.heap.size wr w' → w'.cell? ⟨b, off + k * 5, none⟩ = some (.slice (some ⟨b7, o7, none⟩) 1 1) ∧ w'.cell? ⟨b, off + k * 5 + 1, none⟩ = some (.int .i64 x.dc) ∧ w'.cell? ⟨b, off + k * 5 + 2, none⟩ = some (.int .i64 x.n) ∧ w'.cell? ⟨b, off + k * 5 + 3, none⟩ = some (.string x.s) ∧ w'.cell? ⟨b, off + k * 5 + 4, none⟩ = some (.int .i64 x.v)) := fun w' hb' => ⟨(hb'.cell hbB).trans e0, (hb'.cell hbB).trans e1, (hb'.cell hbB).trans e2, (hb'.cell hbB).trans e3, (hb'.cell hbB).trans e4⟩
            have HQ := hid hqk
            have hsl : Hid (∀ (A : Option Addr), (([] : List ByteArray) ≠ [] → A = some ⟨b7, o7 + 1, none⟩) → ∀ (cq : Nat), 0 ≤ cq → ∀ (W : World), Below w.heap.size wr W → wr.heap.size ≤ W.heap.size → SlA W (fun b => (okp b ∨ w.heap.size ≤ b) ∧ b < W.heap.size ∧ u5.ownBlock ≠ some b) 1 StE (.slice A 0 cq) ([] : List ByteArray)) := fun A hA cq hcq W hW hWs =>
              ⟨A, cq, rfl, hcq, by first | (unfold Big; omega) | simp [Big], fun hn => ⟨b7, o7 + 1, hA hn, ⟨.inl hb7.1, by omega, fun e => by have := (OwnD.lt hown b7 e).1; have := hb7.2; omega⟩, fun j s hs => by
                obtain ⟨cs, h1, h2, h3⟩ := hc7 (j + 1) s hs
                refine ⟨cs, h1, h2, fun i u hi => ?_⟩
                rw [← h3 i u hi]
                rw [show o7 + 1 + j * 1 + i = o7 + (j + 1) * 1 + i by omega]
                exact (hW.cell (p := ⟨b7, o7 + (j + 1) * 1 + i, none⟩) hb7.2).trans (hb.cell (p := ⟨b7, o7 + (j + 1) * 1 + i, none⟩) hb7.2)⟩⟩
            clear hu hx hc l3 hut hc7 hu7 m3 hqk
            go_upto_region 6 with (fail)
            go_region_held3 (fun w' => w'.cell? ⟨b, off + k * 5, none⟩ = some (.slice (some ⟨b7, o7, none⟩) 1 1) ∧ w'.cell? ⟨b, off + k * 5 + 1, none⟩ = some (.int .i64 x.dc) ∧ w'.cell? ⟨b, off + k * 5 + 2, none⟩ = some (.int .i64 x.n) ∧ w'.cell? ⟨b, off + k * 5 + 3, none⟩ = some (.string x.s) ∧ w'.cell? ⟨b, off + k * 5 + 4, none⟩ = some (.int .i64 x.v))
              (first | go_keep | exact HS.out _ hq1)
              (first | (go_loud (refine step_d rfl (.tmp 30) (.tmp 43) _ rfl LfA.mon eiLeaf (by decide) (by decide) rfl (hown.grow LfA.mon (((Below.refl _ wr).alloc (Nat.le_refl _) _).drew)) rfl (SlP.oneB (w := wr.drew) (E := LfA _ _) (x := (([] : List ByteArray), x)) ⟨_, _, rfl, hsl.out _ (by first | exact fun hn => absurd rfl hn | exact fun _ => rfl) _ (by omega) _ (((Below.refl _ wr).alloc hsz _).drew) (by simp), hok⟩ rfl _ rfl (by rw [World.size_drew, World.size_alloc]; exact Nat.lt_succ_self _)) HL.out (by rw [World.size_drew, World.size_alloc]; omega) ?_); intro v1 w1 hown1 hb1 hg1 _; have hq1 : Below w.heap.size wr w1 := (((Below.refl _ wr).alloc hsz _).drew).trans hb1))
            go_wp2_with fail
            go_roundw
            case rel => exact ⟨k + 1, by omega, by go_num, by rw [HX.out]; exact hown1, hb.trans hq1⟩
            case measure => simp [intOf]; omega
          · have hqk' : (q.toList == key.toList) = false := by simpa [bytes_inj] using hqk
            have HX : Hid (underL (l.take (k + 1)) key = underL (l.take k) key) := by unfold Hid; rw [hut]; simp [underF, hqk]
            clear hu hx hc l3 hok hut hc7 hu7 m3 hqk
            go_wp2_with fail
            go_roundw
            case rel => exact ⟨k + 1, by omega, by go_num, by rw [HX.out]; exact hown, hb⟩
            case measure => simp [intOf]; omega
        · have hi1 : (1 : Int) ≤ (qs.length : Int) + 1 := by omega
          have hi2 : (qs.length : Int) + 1 ≤ (c7 : Int) := by omega
          by_cases hqk : q = key
          · have hqk' : (q.toList == key.toList) = true := by rw [hqk]; simp
            have HX : Hid (underL (l.take (k + 1)) key = underL (l.take k) key ++ [(qs, x)]) := by unfold Hid; rw [hut]; simp [underF, hqk]
            have HL : Hid ((underL (l.take k) key).length + [(qs, x)].length ≤ Few) := by have := HLe.out; unfold Hid Few; simp; omega
            have HS : Hid (∀ w', Below w.heap.size wr w' → w'.cell? ⟨b, off + k * 5, none⟩ = some (.slice (some ⟨b7, o7, none⟩) (qs.length + 1) c7) ∧ w'.cell? ⟨b, off + k * 5 + 1, none⟩ = some (.int .i64 x.dc) ∧ w'.cell? ⟨b, off + k * 5 + 2, none⟩ = some (.int .i64 x.n) ∧ w'.cell? ⟨b, off + k * 5 + 3, none⟩ = some (.string x.s) ∧ w'.cell? ⟨b, off + k * 5 + 4, none⟩ = some (.int .i64 x.v)) := fun w' hb' => ⟨(hb'.cell hbB).trans e0, (hb'.cell hbB).trans e1, (hb'.cell hbB).trans e2, (hb'.cell hbB).trans e3, (hb'.cell hbB).trans e4⟩
            have HQ := hid hqk
            have hsl : Hid (∀ (A : Option Addr), (qs ≠ [] → A = some ⟨b7, o7 + 1, none⟩) → ∀ (cq : Nat), qs.length ≤ cq → ∀ (W : World), Below w.heap.size wr W → wr.heap.size ≤ W.heap.size → SlA W (fun b => (okp b ∨ w.heap.size ≤ b) ∧ b < W.heap.size ∧ u5.ownBlock ≠ some b) 1 StE (.slice A qs.length cq) qs) := fun A hA cq hcq W hW hWs =>
              ⟨A, cq, rfl, hcq, by first | (unfold Big; omega) | simp [Big], fun hn => ⟨b7, o7 + 1, hA hn, ⟨.inl hb7.1, by omega, fun e => by have := (OwnD.lt hown b7 e).1; have := hb7.2; omega⟩, fun j s hs => by
                obtain ⟨cs, h1, h2, h3⟩ := hc7 (j + 1) s hs
                refine ⟨cs, h1, h2, fun i u hi => ?_⟩
                rw [← h3 i u hi]
                rw [show o7 + 1 + j * 1 + i = o7 + (j + 1) * 1 + i by omega]
                exact (hW.cell (p := ⟨b7, o7 + (j + 1) * 1 + i, none⟩) hb7.2).trans (hb.cell (p := ⟨b7, o7 + (j + 1) * 1 + i, none⟩) hb7.2)⟩⟩
            clear hu hx hc l3 hut hc7 hu7 m3 hqk
            go_upto_region 6 with (fail)
            go_region_held3 (fun w' => w'.cell? ⟨b, off + k * 5, none⟩ = some (.slice (some ⟨b7, o7, none⟩) (qs.length + 1) c7) ∧ w'.cell? ⟨b, off + k * 5 + 1, none⟩ = some (.int .i64 x.dc) ∧ w'.cell? ⟨b, off + k * 5 + 2, none⟩ = some (.int .i64 x.n) ∧ w'.cell? ⟨b, off + k * 5 + 3, none⟩ = some (.string x.s) ∧ w'.cell? ⟨b, off + k * 5 + 4, none⟩ = some (.int .i64 x.v))
              (first | go_keep | exact HS.out _ hq1)
              (first | (go_loud (refine step_d rfl (.tmp 30) (.tmp 43) _ rfl LfA.mon eiLeaf (by decide) (by decide) rfl (hown.grow LfA.mon (((Below.refl _ wr).alloc (Nat.le_refl _) _).drew)) rfl (SlP.oneB (w := wr.drew) (E := LfA _ _) (x := (qs, x)) ⟨_, _, rfl, hsl.out _ (by first | exact fun hn => absurd rfl hn | exact fun _ => rfl) _ (by omega) _ (((Below.refl _ wr).alloc hsz _).drew) (by simp), hok⟩ rfl _ rfl (by rw [World.size_drew, World.size_alloc]; exact Nat.lt_succ_self _)) HL.out (by rw [World.size_drew, World.size_alloc]; omega) ?_); intro v1 w1 hown1 hb1 hg1 _; have hq1 : Below w.heap.size wr w1 := (((Below.refl _ wr).alloc hsz _).drew).trans hb1))
            go_wp2_with fail
            go_roundw
            case rel => exact ⟨k + 1, by omega, by go_num, by rw [HX.out]; exact hown1, hb.trans hq1⟩
            case measure => simp [intOf]; omega
          · have hqk' : (q.toList == key.toList) = false := by simpa [bytes_inj] using hqk
            have HX : Hid (underL (l.take (k + 1)) key = underL (l.take k) key) := by unfold Hid; rw [hut]; simp [underF, hqk]
            clear hu hx hc l3 hok hut hc7 hu7 m3 hqk
            go_wp2_with fail
            go_roundw
            case rel => exact ⟨k + 1, by omega, by go_num, by rw [HX.out]; exact hown, hb⟩
            case measure => simp [intOf]; omega
    · obtain rfl : k = l.length := by omega
      rw [List.take_of_length_le (Nat.le_refl _)] at hown
      go_wp2_with fail
      go_ret
      exact ⟨_, rfl, hown, hb⟩
end Go.Proofs.YtmphgnjodangcaaGreat

namespace Go.Proofs.YtmphgnjodangcaaGreat
open Go.RowKit
set_option maxRecDepth 100000
open Classical in
noncomputable def trEq (s t : Tr) : Bool := decide (s = t)
theorem trEq_iff {s t : Tr} : trEq s t = true ↔ s = t := by simp [trEq]
theorem trEq_no {s t : Tr} : trEq s t = false ↔ s ≠ t := by simp [trEq]

set_option maxHeartbeats 4000000 in
theorem r08same_any (s : Tr) : ∀ (t : Tr) (w : World) (ve vk ue uk : Value), s.rd w w.heap.size ve vk → t.rd w w.heap.size ue uk →
    Calls Tryz.prog 114 #[.agg #[ve, vk], .agg #[ue, uk]] w fun e w' => e = .returned (.bool (trEq s t)) ∧ Below w.heap.size w w' := by
  induction s using Tr.ind with
  | h es ks ih =>
  rintro ⟨es', ks'⟩ w ve vk ue uk h h'
  rw [rd_iff] at h h'
  obtain ⟨⟨A1, n1, rfl, b1, b2, b3⟩, ⟨A2, n2, rfl, c1, c2, c3⟩⟩ := h
  obtain ⟨⟨A3, n3, rfl, d1, d2, d3⟩, ⟨A4, n4, rfl, f1, f2, f3⟩⟩ := h'
  unfold Big at b2 c2 d2 f2
  by_cases hl : es.length = es'.length
  case neg =>
    have hl' : ((es.length : Int) != (es'.length : Int)) = true := by simp; omega
    have HL := hid hl
    clear hl
    go_enter Tryz.func114, Tryz.ntmps114
    go_wp2_with fail
    go_ret
    refine ⟨ret_bool ?_, by go_grown⟩
    rw [eq_comm, trEq_no]
    rintro e; cases e; exact HL.out rfl
  by_cases hm : ks.length = ks'.length
  case neg =>
    have hl' : ((es.length : Int) != (es'.length : Int)) = false := by simp [hl]
    have hm' : ((ks.length : Int) != (ks'.length : Int)) = true := by simp; omega
    have HL := hid hm
    clear hl hm
    go_enter Tryz.func114, Tryz.ntmps114
    go_wp2_with fail
    go_ret
    refine ⟨ret_bool ?_, by go_grown⟩
    rw [eq_comm, trEq_no]
    rintro e; cases e; exact HL.out rfl
  have hl' : ((es.length : Int) != (es'.length : Int)) = false := by simp [hl]
  have hm' : ((ks.length : Int) != (ks'.length : Int)) = false := by simp [hm]
  have HL := hid hl
  have HM := hid hm
  clear hl hm
  go_enter Tryz.func114, Tryz.ntmps114
  go_wp2_with fail
  go_loopw [26] (fun i wr => ∃ k : Nat, k ≤ es.length ∧ i = .int .i64 k ∧ Hid (es.take k = es'.take k) ∧
      Below (w.heap.size + 1 + 1) ((w.alloc (.cells #[.slice A1 es.length n1, .slice A2 ks.length n2] 27)).alloc (.cells #[.slice A3 es'.length n3, .slice A4 ks'.length n4] 27)) wr) (fun i _ => es.length - (intOf i).toNat)
  case atStart => exact ⟨0, Nat.zero_le _, rfl, rfl, Below.refl _ _⟩
  case round =>
    obtain ⟨k, hk, rfl, hrel, hb⟩ := hrel
    have hsz := hb.size
    simp only [World.size_alloc] at hsz
    have hB0 : Below w.heap.size w wr := (((Below.refl _ w).alloc (Nat.le_refl _) _).alloc (by simp) _).trans (hb.mono (by omega))
    have hs0 : wr.cell? ⟨w.heap.size, 0, none⟩ = some (.slice A1 es.length n1) := by rw [hb.cell (p := ⟨w.heap.size, 0, none⟩) (by simp; omega)]; rw [World.cell?_alloc_past _ _ _ (by simp), World.cell?_alloc_new]; rfl
    have hs1 : wr.cell? ⟨w.heap.size, 1, none⟩ = some (.slice A2 ks.length n2) := by rw [hb.cell (p := ⟨w.heap.size, 1, none⟩) (by simp; omega)]; rw [World.cell?_alloc_past _ _ _ (by simp), World.cell?_alloc_new]; rfl
    have ht0 : wr.cell? ⟨w.heap.size + 1, 0, none⟩ = some (.slice A3 es'.length n3) := by rw [hb.cell (p := ⟨w.heap.size + 1, 0, none⟩) (by simp), World.cell?_alloc_at _ _ _ _ (by simp)]; rfl
    have ht1 : wr.cell? ⟨w.heap.size + 1, 1, none⟩ = some (.slice A4 ks'.length n4) := by rw [hb.cell (p := ⟨w.heap.size + 1, 1, none⟩) (by simp), World.cell?_alloc_at _ _ _ _ (by simp)]; rfl
    by_cases hlt : k < es.length
    · have hlt2 : k < es'.length := by have := HL.out; omega
      obtain ⟨x, hx⟩ : ∃ x, es[k]? = some x := ⟨_, List.getElem?_eq_getElem hlt⟩
      obtain ⟨y, hy⟩ : ∃ y, es'[k]? = some y := ⟨_, List.getElem?_eq_getElem hlt2⟩
      obtain ⟨ba, oa, rfl, hbA, hc⟩ := b3 (by rintro rfl; simp at hlt)
      obtain ⟨bb, ob, rfl, hbB, hd⟩ := d3 (by rintro rfl; simp at hlt2)
      obtain ⟨cs, ⟨rfl, hok⟩, _, hu⟩ := hc k _ hx
      obtain ⟨ds, ⟨rfl, hok2⟩, _, hv⟩ := hd k _ hy
      have q0 := far_cell (B := wr.heap.size) ((hB0.cell hbA).trans (hu 0 _ rfl)) (by omega)
      have q1 := far_cell (B := wr.heap.size) ((hB0.cell hbA).trans (hu 1 _ rfl)) (by omega)
      have q2 := far_cell (B := wr.heap.size) ((hB0.cell hbA).trans (hu 2 _ rfl)) (by omega)
      have q3 := far_cell (B := wr.heap.size) ((hB0.cell hbA).trans (hu 3 _ rfl)) (by omega)
      have p0 := far_cell (B := wr.heap.size) ((hB0.cell hbB).trans (hv 0 _ rfl)) (by omega)
      have p1 := far_cell (B := wr.heap.size) ((hB0.cell hbB).trans (hv 1 _ rfl)) (by omega)
      have p2 := far_cell (B := wr.heap.size) ((hB0.cell hbB).trans (hv 2 _ rfl)) (by omega)
      have p3 := far_cell (B := wr.heap.size) ((hB0.cell hbB).trans (hv 3 _ rfl)) (by omega)
      simp only [Nat.add_zero] at q0 p0
      have r0 := far_cell (B := wr.heap.size) hs0 (by omega)
      have r1 := far_cell (B := wr.heap.size) ht0 (by omega)
      have HT := hid (take_eq_succ hx hy hrel.out)
      have HXY : Hid (es = es' → x = y) := fun e => by subst e; rw [hx] at hy; exact Option.some.inj hy
      have gg := guardEntry
      have nn := neqEntry x y
      have hi1 : ((k : Int)) < (es.length : Int) := by omega
      have hi2 : ((k : Int)) < (es'.length : Int) := by omega
      clear hu hv hc hd b3 d3 hx hy hok hok2
      rcases hxy : decide (x = y)
      · have hne : x ≠ y := by simpa using hxy
        go_upto_region 6 with (fail)
        refine wp_region_far wr.heap.size (by kernel_rfl) (by kernel_rfl) ?_
        repeat (go_big_quiet_step (fail))
        refine wpQuiet_nil ?_
        intro wq hbq
        go_wp2_with fail
        go_ret
        refine ⟨ret_bool ?_, hB0.trans (hbq.mono (by omega))⟩
        rw [eq_comm, trEq_no]
        rintro e; cases e; exact hne (HXY.out rfl)
      · have hE := hid (of_decide_eq_true hxy)
        go_upto_region 6 with (fail)
        refine wp_region_far wr.heap.size (by kernel_rfl) (by kernel_rfl) ?_
        repeat (go_big_quiet_step (fail))
        refine wpQuiet_nil ?_
        intro wq hbq
        go_wp2_with fail
        go_roundw
        case rel => exact ⟨k + 1, by omega, by go_num, HT.out.2 hE.out, hb.trans (hbq.mono (by omega))⟩
        case measure => simp [intOf]; omega
    · obtain rfl : k = es.length := by omega
      have HE : Hid (es = es') := by
        have h1 := hrel.out
        rw [List.take_of_length_le (Nat.le_refl _), List.take_of_length_le (by rw [HL.out]; exact Nat.le_refl _)] at h1
        exact h1
      clear hrel hs0 ht0 hB0 b3 d3 hlt
      go_wp2_with fail
      clear hs1 ht1 hsz
      obtain ⟨wo, rfl⟩ : ∃ wo : World, wo = wr := ⟨_, rfl⟩
      go_loopw [44] (fun i wr => ∃ k : Nat, k ≤ ks.length ∧ i = .int .i64 k ∧ Hid (ks.take k = ks'.take k) ∧
        Below (w.heap.size + 1 + 1) ((w.alloc (.cells #[.slice A1 es.length n1, .slice A2 ks.length n2] 27)).alloc (.cells #[.slice A3 es'.length n3, .slice A4 ks'.length n4] 27)) wr) (fun i _ => ks.length - (intOf i).toNat)
      case atStart => exact ⟨0, Nat.zero_le _, rfl, rfl, hb⟩
      case round =>
        clear hb
        obtain ⟨k, hk, rfl, hrel, hb⟩ := hrel
        have hsz := hb.size
        simp only [World.size_alloc] at hsz
        have hB0 : Below w.heap.size w wr := (((Below.refl _ w).alloc (Nat.le_refl _) _).alloc (by simp) _).trans (hb.mono (by omega))
        by_cases hlt : k < ks.length
        · have hlt2 : k < ks'.length := by have := HM.out; omega
          obtain ⟨⟨key, s1⟩, hx⟩ : ∃ x, ks[k]? = some x := ⟨_, List.getElem?_eq_getElem hlt⟩
          obtain ⟨⟨key', t1⟩, hy⟩ : ∃ y, ks'[k]? = some y := ⟨_, List.getElem?_eq_getElem hlt2⟩
          obtain ⟨ba, oa, rfl, hbA, hc⟩ := c3 (by rintro rfl; simp at hlt)
          obtain ⟨bb, ob, rfl, hbB, hd⟩ := f3 (by rintro rfl; simp at hlt2)
          obtain ⟨cs, ⟨v1, v2, rfl, _, hrs⟩, _, hu⟩ := hc k _ hx
          obtain ⟨ds, ⟨u1, u2, rfl, _, hrt⟩, _, hv⟩ := hd k _ hy
          have hs1 : wr.cell? ⟨w.heap.size, 1, none⟩ = some (.slice (some ⟨ba, oa, none⟩) ks.length n2) := by rw [hb.cell (p := ⟨w.heap.size, 1, none⟩) (by simp; omega)]; rw [World.cell?_alloc_past _ _ _ (by simp), World.cell?_alloc_new]; rfl
          have ht1 : wr.cell? ⟨w.heap.size + 1, 1, none⟩ = some (.slice (some ⟨bb, ob, none⟩) ks'.length n4) := by rw [hb.cell (p := ⟨w.heap.size + 1, 1, none⟩) (by simp), World.cell?_alloc_at _ _ _ _ (by simp)]; rfl
          have q0 := far_cell (B := wr.heap.size) ((hB0.cell hbA).trans (hu 0 _ rfl)) (by omega)
          have q1 := far_cell (B := wr.heap.size) ((hB0.cell hbA).trans (hu 1 _ rfl)) (by omega)
          have q2 := far_cell (B := wr.heap.size) ((hB0.cell hbA).trans (hu 2 _ rfl)) (by omega)
          have p0 := far_cell (B := wr.heap.size) ((hB0.cell hbB).trans (hv 0 _ rfl)) (by omega)
          have p1 := far_cell (B := wr.heap.size) ((hB0.cell hbB).trans (hv 1 _ rfl)) (by omega)
          have p2 := far_cell (B := wr.heap.size) ((hB0.cell hbB).trans (hv 2 _ rfl)) (by omega)
          simp only [Nat.add_zero] at q0 p0
          have r0 := far_cell (B := wr.heap.size) hs1 (by omega)
          have r1 := far_cell (B := wr.heap.size) ht1 (by omega)
          have HT := hid (take_eq_succ hx hy hrel.out)
          have HXY : Hid (ks = ks' → (key, s1) = (key', t1)) := fun e => by subst e; rw [hx] at hy; exact Option.some.inj hy
          have hmem : (key, s1) ∈ ks := List.mem_of_getElem? hx
          have HRS : Hid (∀ w', Below wr.heap.size wr w' → s1.rd w' w'.heap.size v1 v2) := fun w' hb' => rd_below (hB0.trans (hb'.mono (by omega))) (by have := hb'.size; omega) _ _ _ hrs
          have HRT : Hid (∀ w', Below wr.heap.size wr w' → t1.rd w' w'.heap.size u1 u2) := fun w' hb' => rd_below (hB0.trans (hb'.mono (by omega))) (by have := hb'.size; omega) _ _ _ hrt
          have hi1 : ((k : Int)) < (ks.length : Int) := by omega
          have hi2 : ((k : Int)) < (ks'.length : Int) := by omega
          clear hu hv hc hd c3 f3 hx hy hs1 ht1 hrs hrt
          rcases hxy : (key.toList == key'.toList)
          · have hne : key ≠ key' := fun e => by rw [e] at hxy; simp at hxy
            have hxy2 : (key.toList != key'.toList) = true := by simp [bne, hxy]
            go_upto_region 12 with (fail)
            refine wp_region_far wr.heap.size (by kernel_rfl) (by kernel_rfl) ?_
            repeat (go_big_quiet_step (fail))
            refine wpQuiet_nil ?_
            intro wq hbq
            go_wp2_with fail
            go_ret
            refine ⟨ret_bool ?_, hB0.trans (hbq.mono (by omega))⟩
            rw [eq_comm, trEq_no]
            rintro e; cases e; exact hne (Prod.mk.inj (HXY.out rfl)).1
          have hE := hid ((bytes_inj key key').1 (by simpa using hxy))
          have hxy2 : (key.toList != key'.toList) = false := by simp [bne, hxy]
          rcases hst : trEq s1 t1
          · have hne := trEq_no.1 hst
            go_upto_region 12 with (fail)
            refine wp_region_far wr.heap.size (by kernel_rfl) (by kernel_rfl) ?_
            repeat (go_big_quiet_step ((go_at_call 114; exact Calls.far_all (Nat.le_refl _) (fun w' hb' => ih key s1 hmem t1 w' _ _ _ _ (HRS.out w' hb') (HRT.out w' hb')))))
            refine wpQuiet_nil ?_
            intro wq hbq
            go_wp2_with fail
            go_ret
            refine ⟨ret_bool ?_, hB0.trans (hbq.mono (by omega))⟩
            rw [eq_comm, trEq_no]
            rintro e; cases e; exact hne (Prod.mk.inj (HXY.out rfl)).2
          · have hF := hid (trEq_iff.1 hst)
            go_upto_region 12 with (fail)
            refine wp_region_far wr.heap.size (by kernel_rfl) (by kernel_rfl) ?_
            repeat (go_big_quiet_step ((go_at_call 114; exact Calls.far_all (Nat.le_refl _) (fun w' hb' => ih key s1 hmem t1 w' _ _ _ _ (HRS.out w' hb') (HRT.out w' hb')))))
            refine wpQuiet_nil ?_
            intro wq hbq
            go_wp2_with fail
            go_roundw
            case rel => exact ⟨k + 1, by omega, by go_num, HT.out.2 (by rw [hE.out, hF.out]), hb.trans (hbq.mono (by omega))⟩
            case measure => simp [intOf]; omega
        · obtain rfl : k = ks.length := by omega
          have HK : Hid (ks = ks') := by
            have h1 := hrel.out
            rw [List.take_of_length_le (Nat.le_refl _), List.take_of_length_le (by rw [HM.out]; exact Nat.le_refl _)] at h1
            exact h1
          clear hrel
          go_wp2_with fail
          go_ret
          refine ⟨ret_bool ?_, hB0⟩
          rw [eq_comm, trEq_iff, HE.out, HK.out]
end Go.Proofs.YtmphgnjodangcaaGreat

namespace Go.Proofs.YtmphgnjodangcaaGreat
open Go.RowKit
set_option maxRecDepth 100000
set_option maxHeartbeats 2000000 in
theorem r09same_any (s t : Tr) (a b : List Sp) (ve vk ue uk va vb : Value) (w : World) (h : s.rd w w.heap.size ve vk) (h' : t.rd w w.heap.size ue uk) (ha : SlP w w.heap.size 3 SpE va a) (hb : SlP w w.heap.size 3 SpE vb b) :
    Calls Tryz.prog 31 #[.agg #[ve, vk, va], .agg #[ue, uk, vb]] w fun e w' => e = .returned (.bool (trEq s t && decide (a = b))) ∧ Below w.heap.size w w' := by
  obtain ⟨A1, n1, A2, n2, rfl, rfl⟩ := rd_shape h
  obtain ⟨A3, n3, A4, n4, rfl, rfl⟩ := rd_shape h'
  have ha0 := ha
  have hb0 := hb
  obtain ⟨A5, n5, rfl, _⟩ := ha
  obtain ⟨A6, n6, rfl, _⟩ := hb
  have hB : Below w.heap.size w ((w.alloc (.cells #[.slice A1 s.es.length n1, .slice A2 s.ks.length n2, .slice A5 a.length n5] 31)).alloc (.cells #[.slice A3 t.es.length n3, .slice A4 t.ks.length n4, .slice A6 b.length n6] 31)) := ((Below.refl _ w).alloc (Nat.le_refl _) _).alloc (by simp) _
  go_enter Tryz.func31, Tryz.ntmps31
  rcases hst : trEq s t
  · go_wp2_with (go_at_call 114; refine (r08same_any s t _ _ _ _ _ (rd_below hB hB.size _ _ _ h) (rd_below hB hB.size _ _ _ h')).mono ?_; rw [hst]; rintro e w1 ⟨rfl, hb1⟩)
    go_ret
    exact ⟨ret_bool (by simp), hB.trans (hb1.mono hB.size)⟩
  · go_wp2_with (first | (go_at_call 114; go_loud ((refine (r08same_any s t _ _ _ _ _ (rd_below hB hB.size _ _ _ h) (rd_below hB hB.size _ _ _ h')).mono ?_); rw [hst]; rintro e w1 ⟨rfl, hb1⟩; have hc0 : w1.cell? ⟨w.heap.size, 2, none⟩ = some (.slice A5 a.length n5) := (by rw [hb1.cell (p := ⟨w.heap.size, 2, none⟩) (by simp; omega), World.cell?_alloc_past _ _ _ (by simp), World.cell?_alloc_new]; rfl); have hc1 : w1.cell? ⟨w.heap.size + 1, 2, none⟩ = some (.slice A6 b.length n6) := (by rw [hb1.cell (p := ⟨w.heap.size + 1, 2, none⟩) (by simp), World.cell?_alloc_at _ _ _ _ (by simp)]; rfl); have hB1 := hid (hB.trans (hb1.mono hB.size)))) | (go_at_call 93; go_loud ((refine (r07same_any a b _ _ w1 _ (ha0.imp hB1.out hB1.out.size (fun _ _ _ h => h)) (hb0.imp hB1.out hB1.out.size (fun _ _ _ h => h))).mono ?_); rintro e w2 ⟨rfl, q, rfl⟩)))
    go_ret
    exact ⟨ret_bool (by simp), hB1.out.trans ⟨rfl, rfl, rfl, Nat.le_refl _, fun _ _ => rfl⟩⟩
end Go.Proofs.YtmphgnjodangcaaGreat

namespace Go.Proofs.YtmphgnjodangcaaGreat
open Go.RowKit
set_option maxRecDepth 100000

def ltS (a b : ByteArray) : Bool := Op.bytesLess a.toList b.toList
theorem ltS_irrefl (a : ByteArray) : ltS a a = false := by
  unfold ltS; rw [bytesLess_eq]; simp [List.lt_irrefl]
theorem ltS_trans {a b c : ByteArray} (h : ltS a b = true) (k : ltS b c = true) : ltS a c = true := by
  unfold ltS at *; rw [bytesLess_eq] at *
  simp only [decide_eq_true_eq] at *
  exact List.lt_trans h k
theorem ltS_total {a b : ByteArray} (h : ltS a b = false) (k : ltS b a = false) : a = b := by
  unfold ltS at *; rw [bytesLess_eq] at *
  simp only [decide_eq_false_iff_not, List.not_lt] at *
  exact (bytes_inj a b).1 (List.le_antisymm k h)
theorem ltS_gt (a b : ByteArray) : ltS a b = (!Op.bytesLess b.toList a.toList && !(b.toList == a.toList)) := by
  unfold ltS
  rw [bytesLess_eq, bytesLess_eq, Bool.eq_iff_iff]
  simp only [decide_eq_true_eq, Bool.and_eq_true, Bool.not_eq_true', decide_eq_false_iff_not, beq_eq_false_iff_ne, List.not_lt]
  constructor
  · intro h; exact ⟨List.le_of_lt h, fun e => by rw [e] at h; exact List.lt_irrefl _ h⟩
  · rintro ⟨h, k⟩
    rcases Decidable.em (a.toList < b.toList) with h' | h'
    · exact h'
    · exact absurd (List.le_antisymm (List.not_lt.1 h') h) k
theorem lt_irrefl' (a : Dt) : a.lt a = false := by simp [Dt.lt]
theorem lt_trans' {a b c : Dt} (h : a.lt b = true) (k : b.lt c = true) : a.lt c = true := by
  unfold Dt.lt at *
  split at h <;> split at k <;> split <;> simp at * <;> omega

/-- May an entry be the next one? -/
def selC (last : Option Dt) (b : Option En) (x : Lf) : Bool :=
  x.1.isEmpty && okP last x.2.dot && (match b with | none => true | some c => x.2.dot.lt c.dot)
def selS (last : Option Dt) (b : Option En) (x : Lf) : Option En := if selC last b x then some x.2 else b
def bestE (l : List Lf) (last : Option Dt) : Option En := l.foldl (selS last) none
def entsGo (l : List Lf) : Nat → List En → List En
  | 0, es => es
  | n + 1, es => match bestE l (es.getLast?.map En.dot) with | none => es | some e => entsGo l n (es ++ [e])
def selEnts (l : List Lf) : List En := entsGo l (l.length + 1) []

def keyC (last b : ByteArray) (x : Lf) : Bool := match x.1 with | [] => false | q :: _ => ltS last q && (decide (b = ByteArray.empty) || ltS q b)
def keyS (last b : ByteArray) (x : Lf) : ByteArray := if keyC last b x then x.1.headD ByteArray.empty else b
def bestK (l : List Lf) (last : ByteArray) : ByteArray := l.foldl (keyS last) ByteArray.empty
def kidsGo (f : List Lf → Tr) (l : List Lf) : Nat → ByteArray → List Kd
  | 0, _ => []
  | n + 1, last => if bestK l last = ByteArray.empty then [] else (bestK l last, f (underL l (bestK l last))) :: kidsGo f l n (bestK l last)
def buildT : Nat → List Lf → Tr
  | 0, l => .mk (selEnts l) (kidsGo (fun _ => .mk [] []) l (l.length + 1) ByteArray.empty)
  | d + 1, l => .mk (selEnts l) (kidsGo (buildT d) l (l.length + 1) ByteArray.empty)

/-- How many leaves are still ahead. -/
def ahE (l : List Lf) (last : Option Dt) : Nat := (l.filter fun x => okP last x.2.dot).length
def ahK (l : List Lf) (last : ByteArray) : Nat := (l.filter fun x => match x.1 with | [] => false | q :: _ => ltS last q).length

theorem bestE_mem (l : List Lf) (last : Option Dt) : ∀ (b : Option En), (∀ e, b = some e → okP last e.dot = true) → ∀ e, l.foldl (selS last) b = some e → (b = some e ∨ ∃ x ∈ l, x.1 = [] ∧ x.2 = e) ∧ okP last e.dot = true := by
  induction l with
  | nil => intro b hb e he; exact ⟨.inl he, hb e he⟩
  | cons x l ih =>
    intro b hb e he
    rw [List.foldl_cons] at he
    by_cases hc : selC last b x = true
    · have e1 : selS last b x = some x.2 := by simp [selS, hc]
      rw [e1] at he
      simp only [selC, Bool.and_eq_true] at hc
      obtain ⟨h1, h2⟩ := ih (some x.2) (fun e he => by cases he; exact hc.1.2) e he
      refine ⟨.inr ?_, h2⟩
      rcases h1 with h1 | ⟨y, hy, h3⟩
      · cases h1; exact ⟨x, by simp, by simpa using hc.1.1, rfl⟩
      · exact ⟨y, by simp [hy], h3⟩
    · have e1 : selS last b x = b := by simp [selS, hc]
      rw [e1] at he
      obtain ⟨h1, h2⟩ := ih b hb e he
      refine ⟨?_, h2⟩
      rcases h1 with h1 | ⟨y, hy, h3⟩
      · exact .inl h1
      · exact .inr ⟨y, by simp [hy], h3⟩
theorem bestE_spec {l : List Lf} {last : Option Dt} {e : En} (h : bestE l last = some e) : (∃ x ∈ l, x.1 = [] ∧ x.2 = e) ∧ okP last e.dot = true := by
  obtain ⟨h1, h2⟩ := bestE_mem l last none (fun _ h => by cases h) e h
  refine ⟨?_, h2⟩
  rcases h1 with h1 | h1
  · cases h1
  · exact h1
theorem filter_lt {α : Type} {p q : α → Bool} : ∀ {l : List α} {x : α}, x ∈ l → (∀ y, q y = true → p y = true) → p x = true → q x = false → (l.filter q).length < (l.filter p).length
  | z :: l, x, hx, hpq, hp, hq => by
    have hle : (l.filter q).length ≤ (l.filter p).length := by
      clear hx
      induction l with
      | nil => simp
      | cons u l ih =>
        simp only [List.filter_cons]
        cases h1 : q u
        · cases h2 : p u <;> simp <;> omega
        · simp [hpq u h1]; omega
    simp only [List.filter_cons]
    rcases List.mem_cons.1 hx with rfl | hx
    · simp [hp, hq]; omega
    · have := filter_lt hx hpq hp hq
      cases h1 : q z
      · cases h2 : p z <;> simp <;> omega
      · simp [hpq z h1]; omega
theorem okP_trans {last : Option Dt} {a b : Dt} (h : okP last a = true) (k : a.lt b = true) : okP last b = true := by
  cases last with
  | none => rfl
  | some q => exact lt_trans' h k
theorem ahE_lt {l : List Lf} {last : Option Dt} {e : En} (h : bestE l last = some e) : ahE l (some e.dot) < ahE l last := by
  obtain ⟨⟨x, hx, _, rfl⟩, h2⟩ := bestE_spec h
  exact filter_lt hx (fun y hy => okP_trans h2 hy) h2 (lt_irrefl' _)
theorem ahE_le (l : List Lf) (last : Option Dt) : ahE l last ≤ l.length := List.length_filter_le _ _

theorem bestK_mem (l : List Lf) (last : ByteArray) : ∀ (b : ByteArray), (b ≠ ByteArray.empty → ltS last b = true) → (l.foldl (keyS last) b = b ∨ ∃ x ∈ l, ∃ qs, x.1 = l.foldl (keyS last) b :: qs) ∧ (l.foldl (keyS last) b ≠ ByteArray.empty → ltS last (l.foldl (keyS last) b) = true) := by
  induction l with
  | nil => intro b hb; exact ⟨.inl rfl, hb⟩
  | cons x l ih =>
    intro b hb
    rw [List.foldl_cons]
    by_cases hc : keyC last b x = true
    · obtain ⟨p, e⟩ := x
      cases p with
      | nil => simp [keyC] at hc
      | cons q qs =>
        have e1 : keyS last b (q :: qs, e) = q := by simp [keyS, hc]
        rw [e1]
        simp only [keyC, Bool.and_eq_true] at hc
        obtain ⟨h1, h2⟩ := ih q (fun _ => hc.1)
        refine ⟨.inr ?_, h2⟩
        rcases h1 with h1 | ⟨y, hy, qs', h3⟩
        · exact ⟨_, List.mem_cons_self, qs, by rw [h1]⟩
        · exact ⟨y, by simp [hy], qs', h3⟩
    · have e1 : keyS last b x = b := by simp [keyS, hc]
      rw [e1]
      obtain ⟨h1, h2⟩ := ih b hb
      refine ⟨?_, h2⟩
      rcases h1 with h1 | ⟨y, hy, h3⟩
      · exact .inl h1
      · exact .inr ⟨y, by simp [hy], h3⟩
theorem bestK_spec {l : List Lf} {last : ByteArray} (h : bestK l last ≠ ByteArray.empty) : (∃ x ∈ l, ∃ qs, x.1 = bestK l last :: qs) ∧ ltS last (bestK l last) = true := by
  obtain ⟨h1, h2⟩ := bestK_mem l last ByteArray.empty (fun h => absurd rfl h)
  refine ⟨?_, h2 h⟩
  rcases h1 with h1 | h1
  · exact absurd h1 h
  · exact h1
theorem ahK_lt {l : List Lf} {last : ByteArray} (h : bestK l last ≠ ByteArray.empty) : ahK l (bestK l last) < ahK l last := by
  obtain ⟨⟨x, hx, qs, hq⟩, h2⟩ := bestK_spec h
  refine filter_lt hx (fun y hy => ?_) ?_ ?_
  · revert hy
    cases y.1 with
    | nil => exact fun h => h
    | cons q _ => exact fun hy => ltS_trans h2 hy
  · rw [hq]; exact h2
  · rw [hq]; exact ltS_irrefl _
theorem ahK_le (l : List Lf) (last : ByteArray) : ahK l last ≤ l.length := List.length_filter_le _ _
theorem entsGo_len (l : List Lf) : ∀ n es, (entsGo l n es).length ≤ es.length + n
  | 0, es => by simp [entsGo]
  | n + 1, es => by
    rw [entsGo]
    split
    · omega
    · have := entsGo_len l n (es ++ [‹En›]); simp at this; omega

theorem bestE_take {l : List Lf} {k : Nat} {x : Lf} (h : l[k]? = some x) (last : Option Dt) (b : Option En) : (l.take (k + 1)).foldl (selS last) b = selS last ((l.take k).foldl (selS last) b) x := by
  rw [List.take_add_one, h, List.foldl_append]; rfl
theorem bestK_take {l : List Lf} {k : Nat} {x : Lf} (h : l[k]? = some x) (last b : ByteArray) : (l.take (k + 1)).foldl (keyS last) b = keyS last ((l.take k).foldl (keyS last) b) x := by
  rw [List.take_add_one, h, List.foldl_append]; rfl

end Go.Proofs.YtmphgnjodangcaaGreat

namespace Go.Proofs.YtmphgnjodangcaaGreat
open Go.RowKit
set_option maxRecDepth 100000

theorem cell_cells {w : World} {n i : Nat} {cs : Array Value} {e : TypeId} {z : Nat × Nat} (h : w.heap[n]? = some (.cells cs e z)) : w.cell? ⟨n, i, none⟩ = cs[i]? := by
  unfold World.cell?; simp only [h]; rfl
theorem nil_or_snoc {α : Type} (l : List α) : l = [] ∨ ∃ L b, l = L ++ [b] := by
  rcases List.eq_nil_or_concat l with h | ⟨L, b, h⟩
  · exact .inl h
  · exact .inr ⟨L, b, by rw [h, List.concat_eq_append]⟩
theorem cells_frz {w : World} {n i : Nat} {cs : Array Value} {e : TypeId} (h : w.heap[n]? = some (.cells cs e (0, 0))) : w.frozen? ⟨n, i, none⟩ = false := by
  simp [World.frozen?, h]
theorem cells_set {w : World} {n i : Nat} {cs : Array Value} {e : TypeId} {z : Nat × Nat} (h : w.heap[n]? = some (.cells cs e z)) (v : Value) : (w.setCell ⟨n, i, none⟩ v).heap[n]? = some (.cells (cs.setIfInBounds i v) e z) := by
  have hlt := lt_of_block h
  have h' : w.heap[n] = .cells cs e z := by simpa [Array.getElem?_eq_getElem hlt] using h
  show (w.heap.modify n _)[n]? = _
  rw [Array.getElem?_eq_getElem (by simpa using hlt), Array.getElem_modify_self, h']
  rfl
theorem OwnP.setOther {α : Type} {w : World} {base : Nat} {e : TypeId} {sz : Nat} {E : α → List Value → Prop} {v : Value} {xs : List α} (h : OwnP w base e sz E v xs) {a : Addr} (ha : a.block < base) (u : Value) : OwnP (w.setCell a u) base e sz E v xs := by
  obtain ⟨css, h1, h2⟩ := h
  exact ⟨css, h1, ownsRow_setCell_below h2 ha u⟩
theorem OwnD.setOther {α : Type} {w : World} {base : Nat} {e : TypeId} {sz : Nat} {E : World → (Nat → Prop) → α → List Value → Prop} {okp : Nat → Prop} {v : Value} {xs : List α} (h : OwnD w base e sz E okp v xs) (hE : Emon E) {a : Addr} (ha : a.block < base) (ho : ¬ okp a.block) (u : Value) : OwnD (w.setCell a u) base e sz E okp v xs :=
  (OwnP.setOther h ha u).imp fun _ _ _ hx => hE.up (w := w) (fun b hb => Below.heap_setCell w a u b (fun e => ho (e ▸ hb.1))) (fun b hb => ⟨hb.1, by simpa [World.setCell] using hb.2.1, hb.2.2⟩) hx
theorem kid_one {w : World} {ok okq : Nat → Prop} {q : ByteArray} {t : Tr} {ve vk : Value} {B : Nat} (h : t.rda w ok ve vk) (hq : q.size ≤ Big) (hok : ∀ b, ok b → b < w.heap.size ∧ okq b) (e : TypeId) (hB : w.heap.size < B) :
    SlP (w.alloc (.cells #[.string q, ve, vk] e)) B 3 (KdA (w.alloc (.cells #[.string q, ve, vk] e)) okq) (.slice (some ⟨w.heap.size, 0, none⟩) 1 1) [(q, t)] :=
  SlP.oneB (x := (q, t)) (cs := [.string q, ve, vk]) ⟨ve, vk, rfl, hq, rda_up (fun b hb => heap_old (hok b hb).1) (fun b hb => (hok b hb).2) _ _ _ h⟩ rfl e rfl hB
def bestC : Option En → List Value
  | none => [.int .i64 0, .int .i64 0, .string ByteArray.empty, .int .i64 0]
  | some e => [.int .i64 e.dc, .int .i64 e.n, .string e.s, .int .i64 e.v]
def lastD (es : List En) : Option Dt := es.getLast?.map En.dot
/-- The first loop's words. -/
def BuildA (l : List Lf) (w : World) (n : Nat) (wr : World) : Prop :=
  ∃ (es : List En) (ve : Value), OwnP wr (w.heap.size + 2) 142 4 EnE ve es ∧ wr.heap[w.heap.size + 1]? = some (.cells #[ve, .slice none 0 0] 27 (0, 0)) ∧ wr.heap[w.heap.size]? = some (.cells #[.slice none 0 0, .slice none 0 0] 27 (0, 0)) ∧
    w.heap.size + 2 ≤ wr.heap.size ∧ Below w.heap.size w wr ∧ Hid (entsGo l n es = selEnts l) ∧ Hid (ahE l (lastD es) < n) ∧ Hid (es.length + ahE l (lastD es) ≤ l.length)

/-- The second loop's words. -/
def BuildK (f : List Lf → Tr) (l : List Lf) (w w1 : World) (ve : Value) (n : Nat) (vl : Value) (wr : World) : Prop :=
  ∃ (last : ByteArray) (ks : List Kd) (vk : Value), vl = .string last ∧ OwnD wr w1.heap.size 155 3 KdA (fun b => w1.heap.size ≤ b) vk ks ∧ wr.heap[w.heap.size + 1]? = some (.cells #[ve, vk] 27 (0, 0)) ∧ wr.heap[w.heap.size]? = some (.cells #[.slice none 0 0, .slice none 0 0] 27 (0, 0)) ∧
    Keeps (fun b => w.heap.size + 2 ≤ b ∧ b < w1.heap.size) w1 wr ∧ w1.heap.size ≤ wr.heap.size ∧ Below w.heap.size w wr ∧ Hid (ks ++ kidsGo f l n last = kidsGo f l (l.length + 1) ByteArray.empty) ∧ Hid (ahK l last < n) ∧ Hid (ks.length + ahK l last ≤ l.length)

set_option maxHeartbeats 4000000 in
theorem build_one (f : List Lf → Tr) (l : List Lf) (vl : Value) (w : World) (ih : ∀ x ∈ l, ∀ q qs, x.1 = q :: qs → ∀ vl w, SlP w w.heap.size 5 (LfA w (fun b => b < w.heap.size)) vl (underL l q) →
      Calls Tryz.prog 112 #[vl] w fun e w' => ∃ ve vk, e = .returned (.agg #[ve, vk]) ∧ (f (underL l q)).rda w' (fun b => w.heap.size ≤ b ∧ b < w'.heap.size) ve vk ∧ Below w.heap.size w w')
    (h : SlP w w.heap.size 5 (LfA w (fun b => b < w.heap.size)) vl l) (hN : l.length ≤ 900000) :
    Calls Tryz.prog 112 #[vl] w fun e w' => ∃ ve vk, e = .returned (.agg #[ve, vk]) ∧ (Tr.mk (selEnts l) (kidsGo f l (l.length + 1) ByteArray.empty)).rda w' (fun b => w.heap.size ≤ b ∧ b < w'.heap.size) ve vk ∧ Below w.heap.size w w' := by
  have HLW : Hid (∀ w', Below w.heap.size w w' → SlP w' w'.heap.size 5 (LfA w' (fun b => True ∧ b < w'.heap.size)) vl l) := fun w' hb' =>
    h.imp hb' hb'.size fun _ _ _ hx => LfA.mon.up (fun b hb => hb'.block b hb) (fun b hb => ⟨trivial, Nat.lt_of_lt_of_le hb hb'.size⟩) hx
  obtain ⟨A, c, rfl, l1, l2, l3⟩ := h
  unfold Big at l2
  have IH := hid ih
  clear ih
  go_enter Tryz.func112, Tryz.ntmps112
  go_wp2_with fail
  go_loopg [] (l.length + 1) (fun n wr => BuildA l w n wr)
  case atStart =>
    refine ⟨[], .slice none 0 0, OwnP.nil, ?_, ?_, ?_, ?_, rfl, ?_, ?_⟩
    · exact heap_new (by simp)
    · rw [heap_old (by simp)]; exact heap_new rfl
    · simp
    · exact (((Below.refl _ w).alloc (Nat.le_refl _) _).alloc (by simp) _)
    · have := ahE_le l (lastD []); unfold Hid; omega
    · have := ahE_le l (lastD []); unfold Hid; simp; omega
  case round =>
    obtain ⟨es, ve, hown, hg3, hg2, hsz, hb, hgo, hah, hle⟩ := hrel
    have hel : es.length ≤ 900000 := by have := hle.out; omega
    obtain ⟨Ae, ce, rfl⟩ := hown.shape
    have hsp := hown.sl (by unfold Big; omega)
    go_wp2_with fail
    obtain ⟨wo, rfl⟩ : ∃ wo : World, wo = wr := ⟨_, rfl⟩
    go_loopw [5, 13] (fun f i wr => ∃ (k : Nat), k ≤ l.length ∧ i = .int .i64 k ∧ f = .bool ((l.take k).foldl (selS (lastD es)) none).isSome ∧ wr.heap[wo.heap.size]? = some (.cells (bestC ((l.take k).foldl (selS (lastD es)) none)).toArray 142 (0, 0)) ∧ Below wo.heap.size wo wr) (fun _ i _ => l.length - (intOf i).toNat)
    case atStart => exact ⟨0, Nat.zero_le _, rfl, rfl, heap_new rfl, (Below.refl _ _).alloc (Nat.le_refl _) _⟩
    case round =>
      obtain ⟨k, hk, rfl, rfl, hbx, hbr⟩ := hrel
      have hs2 := hbr.size
      have hs3 : wo.heap.size < wr.heap.size := (Array.getElem?_eq_some_iff.1 hbx).1
      have hB : Below w.heap.size w wr := hb.trans (hbr.mono (by omega))
      by_cases hlt : k < l.length
      · obtain ⟨⟨p, x⟩, hx⟩ : ∃ x, l[k]? = some x := ⟨_, List.getElem?_eq_getElem hlt⟩
        obtain ⟨b, off, rfl, hbB, hc⟩ := l3 (by rintro rfl; simp at hlt)
        obtain ⟨cs, ⟨A7, c7, rfl, hp, hok⟩, _, hu⟩ := hc k _ hx
        have hut := bestE_take hx (lastD es) none
        have e0 : wr.cell? ⟨b, off + k * 5, none⟩ = some (.slice A7 p.length c7) := (hB.cell hbB).trans (hu 0 _ rfl)
        have q0 := far_cell (B := wr.heap.size) e0 (by omega)
        have e1 := (hB.cell hbB).trans (hu 1 _ rfl)
        have e2 := (hB.cell hbB).trans (hu 2 _ rfl)
        have q1 := far_cell (B := wr.heap.size) e1 (by omega)
        have q2 := far_cell (B := wr.heap.size) e2 (by omega)
        have hg3r : wr.heap[w.heap.size + 1]? = some (.cells #[.slice Ae es.length ce, .slice none 0 0] 27 (0, 0)) := (hbr.block _ (by omega)).trans hg3
        have z0 : wr.cell? ⟨w.heap.size + 1, 0, none⟩ = some (.slice Ae es.length ce) := cell_cells (i := 0) hg3r
        have r0 := far_cell (B := wr.heap.size) z0 (by omega)
        have hbp : ∀ m', Below wr.heap.size wr m' → m'.heap[wo.heap.size]? = some (.cells (bestC ((l.take k).foldl (selS (lastD es)) none)).toArray 142 (0, 0)) := fun m' hm => (hm.block _ hs3).trans hbx
        cases p with
        | cons q qs =>
          have HX : Hid ((l.take (k + 1)).foldl (selS (lastD es)) none = (l.take k).foldl (selS (lastD es)) none) := by unfold Hid; rw [hut]; simp [selS, selC]
          have HBP := hid hbp
          obtain ⟨np, hnp, hne⟩ : ∃ np, np = (q :: qs).length ∧ ((np : Int) == 0) = false := ⟨_, rfl, by simp; omega⟩
          rw [← hnp] at q0
          clear hu hx hc l3 hok hp hut hbp hbx hg3r e0 e1 e2 hnp
          go_upto_region 8 with (fail)
          refine wp_region_far wr.heap.size (by kernel_rfl) (by kernel_rfl) ?_
          repeat (go_big_quiet_step ((go_at_call 176; exact Calls.far_of (Nat.le_refl _) (r05less_any ⟨_, _⟩ ⟨_, _⟩ _))))
          refine wpQuiet_nil ?_
          intro wq hbq
          go_wp2_with fail
          go_roundw
          case rel => exact ⟨k + 1, by omega, by go_num, by rw [HX.out], by rw [HX.out]; exact HBP.out _ hbq, hbr.trans (hbq.mono (by omega))⟩
          case measure => simp [intOf]; omega
        | nil =>
          obtain ⟨q1', q2'⟩ := And.intro q1 q2
          have e3 := (hB.cell hbB).trans (hu 3 _ rfl)
          have e4 := (hB.cell hbB).trans (hu 4 _ rfl)
          have HE : Hid (∀ m', Below wr.heap.size wr m' → m'.cell? ⟨b, off + k * 5 + 1, none⟩ = some (.int .i64 x.dc) ∧ m'.cell? ⟨b, off + k * 5 + 2, none⟩ = some (.int .i64 x.n) ∧ m'.cell? ⟨b, off + k * 5 + 3, none⟩ = some (.string x.s) ∧ m'.cell? ⟨b, off + k * 5 + 4, none⟩ = some (.int .i64 x.v)) :=
            fun m' hm => ⟨(hm.cell (by simp; omega)).trans e1, (hm.cell (by simp; omega)).trans e2, (hm.cell (by simp; omega)).trans e3, (hm.cell (by simp; omega)).trans e4⟩
          simp only [List.length_nil] at q0
          clear hu hx hc l3 hp e0 e1 e2 e3 e4 hg3r
          rcases nil_or_snoc es with rfl | ⟨es', z, rfl⟩
          · generalize hbst : (l.take k).foldl (selS (lastD [])) none = bst at *
            simp only [List.length_nil] at r0 z0
            cases bst with
            | none =>
              have HX : Hid ((l.take (k + 1)).foldl (selS (lastD [])) none = some x) := by unfold Hid; rw [hut]; simp [selS, selC, okP, lastD]
              clear hut hbst
              have HBP := hid hbp
              clear hbp hbx
              go_upto_region 8 with (fail)
              refine wp_region_far wr.heap.size (by kernel_rfl) (by kernel_rfl) ?_
              repeat (go_big_quiet_step ((go_at_call 176; exact Calls.far_of (Nat.le_refl _) (r05less_any ⟨_, _⟩ ⟨_, _⟩ _))))
              refine wpQuiet_nil ?_
              intro wq hbq
              have hqs := hbq.size
              obtain ⟨f1, f2, f3, f4⟩ := HE.out wq hbq
              have hfb := HBP.out wq hbq
              have FB := hid hfb
              have c0 := cell_cells (i := 0) hfb
              have c1 := cell_cells (i := 1) hfb
              have c2 := cell_cells (i := 2) hfb
              have c3 := cell_cells (i := 3) hfb
              have z0 := cells_frz (i := 0) hfb
              have z1 := cells_frz (i := 1) hfb
              have z2 := cells_frz (i := 2) hfb
              have z3 := cells_frz (i := 3) hfb
              simp only [bestC, List.getElem?_toArray, List.getElem?_cons_zero, List.getElem?_cons_succ] at c0 c1 c2 c3
              clear hfb
              go_wp2_with fail
              go_roundw
              case rel => exact ⟨k + 1, by omega, by go_num, by rw [HX.out] <;> rfl, by rw [HX.out]; simpa [bestC] using cells_set (i := 3) (cells_set (i := 2) (cells_set (i := 1) (cells_set (i := 0) FB.out _) _) _) _, (((((hbr.trans (hbq.mono (by omega))).setCell (Nat.le_refl _) _).setCell (Nat.le_refl _) _).setCell (Nat.le_refl _) _).setCell (Nat.le_refl _) _)⟩
              case measure => simp [intOf]; omega
            | some y =>
              rcases hyx : Dt.lt ⟨x.dc, x.n⟩ ⟨y.dc, y.n⟩
              · have HX : Hid ((l.take (k + 1)).foldl (selS (lastD [])) none = some y) := by unfold Hid; rw [hut]; simp [selS, selC, okP, lastD, En.dot, hyx]
                clear hut hbst
                have y0' : wr.cell? ⟨wo.heap.size, 0, none⟩ = some (.int .i64 y.dc) := cell_cells (i := 0) hbx
                have y1' : wr.cell? ⟨wo.heap.size, 1, none⟩ = some (.int .i64 y.n) := cell_cells (i := 1) hbx
                have y0 := far_cell (B := wr.heap.size) y0' hs3
                have y1 := far_cell (B := wr.heap.size) y1' hs3
                clear y0' y1'
                have HBP := hid hbp
                clear hbp hbx
                go_upto_region 8 with (fail)
                refine wp_region_far wr.heap.size (by kernel_rfl) (by kernel_rfl) ?_
                repeat (go_big_quiet_step ((go_at_call 176; exact Calls.far_of (Nat.le_refl _) (r05less_any ⟨_, _⟩ ⟨_, _⟩ _))))
                refine wpQuiet_nil ?_
                intro wq hbq
                go_wp2_with fail
                go_roundw
                case rel => exact ⟨k + 1, by omega, by go_num, by rw [HX.out] <;> rfl, by rw [HX.out]; exact HBP.out _ hbq, hbr.trans (hbq.mono (by omega))⟩
                case measure => simp [intOf]; omega
              · have HX : Hid ((l.take (k + 1)).foldl (selS (lastD [])) none = some x) := by unfold Hid; rw [hut]; simp [selS, selC, okP, lastD, En.dot, hyx]
                clear hut hbst
                have y0' : wr.cell? ⟨wo.heap.size, 0, none⟩ = some (.int .i64 y.dc) := cell_cells (i := 0) hbx
                have y1' : wr.cell? ⟨wo.heap.size, 1, none⟩ = some (.int .i64 y.n) := cell_cells (i := 1) hbx
                have y0 := far_cell (B := wr.heap.size) y0' hs3
                have y1 := far_cell (B := wr.heap.size) y1' hs3
                clear y0' y1'
                have HBP := hid hbp
                clear hbp hbx
                go_upto_region 8 with (fail)
                refine wp_region_far wr.heap.size (by kernel_rfl) (by kernel_rfl) ?_
                repeat (go_big_quiet_step ((go_at_call 176; exact Calls.far_of (Nat.le_refl _) (r05less_any ⟨_, _⟩ ⟨_, _⟩ _))))
                refine wpQuiet_nil ?_
                intro wq hbq
                have hqs := hbq.size
                obtain ⟨f1, f2, f3, f4⟩ := HE.out wq hbq
                have hfb := HBP.out wq hbq
                have FB := hid hfb
                have c0 := cell_cells (i := 0) hfb
                have c1 := cell_cells (i := 1) hfb
                have c2 := cell_cells (i := 2) hfb
                have c3 := cell_cells (i := 3) hfb
                have z0 := cells_frz (i := 0) hfb
                have z1 := cells_frz (i := 1) hfb
                have z2 := cells_frz (i := 2) hfb
                have z3 := cells_frz (i := 3) hfb
                simp only [bestC, List.getElem?_toArray, List.getElem?_cons_zero, List.getElem?_cons_succ] at c0 c1 c2 c3
                clear hfb
                go_wp2_with fail
                go_roundw
                case rel => exact ⟨k + 1, by omega, by go_num, by rw [HX.out] <;> rfl, by rw [HX.out]; simpa [bestC] using cells_set (i := 3) (cells_set (i := 2) (cells_set (i := 1) (cells_set (i := 0) FB.out _) _) _) _, (((((hbr.trans (hbq.mono (by omega))).setCell (Nat.le_refl _) _).setCell (Nat.le_refl _) _).setCell (Nat.le_refl _) _).setCell (Nat.le_refl _) _)⟩
                case measure => simp [intOf]; omega
          · generalize hlst : lastD (es' ++ [z]) = lst at *
            have HLST := hid hlst
            obtain rfl : lst = some z.dot := by rw [← hlst]; simp [lastD]
            obtain ⟨np, hnp, hne, hnp1⟩ : ∃ np : Nat, (es' ++ [z]).length = np + 1 ∧ (((np : Int) + 1) == 0) = false ∧ np < 900000 := ⟨es'.length, by simp, by simp; omega, by simp at hel; omega⟩
            obtain ⟨A9, c9, hv9, _, _, hcz⟩ := hsp
            simp only [Value.slice.injEq] at hv9
            obtain ⟨rfl, _, rfl⟩ := hv9
            obtain ⟨bz, oz, rfl, hbz, hcz⟩ := hcz (by simp)
            have hzn : (es' ++ [z])[np]? = some z := by
              have e : np = es'.length := by simpa using hnp.symm
              rw [e]; simp
            obtain ⟨cz, ⟨rfl, hokz⟩, _, huz⟩ := hcz np z hzn
            have w0 := far_cell (B := wr.heap.size) ((hbr.cell (p := ⟨bz, oz + np * 4, none⟩) hbz).trans (huz 0 _ rfl)) (by omega)
            have w1 := far_cell (B := wr.heap.size) ((hbr.cell (p := ⟨bz, oz + np * 4 + 1, none⟩) hbz).trans (huz 1 _ rfl)) (by omega)
            have hwr : IntKind.i64.wrap (((np + 1 : Nat) : Int) - 1) = (np : Int) := by rw [show (((np + 1 : Nat) : Int)) - 1 = (np : Int) by omega]; exact IntWalk.i64_in _ (by omega)
            have hne2 : ((((np + 1 : Nat) : Int)) == 0) = false := by simp; omega
            clear hcz huz hzn
            rw [hnp] at r0 z0
            have HNP := hid hnp
            clear hnp
            rcases hzx : Dt.lt ⟨z.dc, z.n⟩ ⟨x.dc, x.n⟩
            · have HX : Hid ((l.take (k + 1)).foldl (selS (some z.dot)) none = (l.take k).foldl (selS (some z.dot)) none) := by unfold Hid; rw [hut]; simp [selS, selC, okP, En.dot, hzx]
              clear hut
              have HBP := hid hbp
              clear hbp hbx
              go_upto_region 8 with (fail)
              refine wp_region_far wr.heap.size (by kernel_rfl) (by kernel_rfl) ?_
              repeat (go_big_quiet_step ((go_at_call 176; exact Calls.far_of (Nat.le_refl _) (r05less_any ⟨_, _⟩ ⟨_, _⟩ _))))
              refine wpQuiet_nil ?_
              intro wq hbq
              go_wp2_with fail
              go_roundw
              case rel => exact ⟨k + 1, by omega, by go_num, by rw [HX.out] <;> rfl, by rw [HX.out]; exact HBP.out _ hbq, hbr.trans (hbq.mono (by omega))⟩
              case measure => simp [intOf]; omega
            · generalize hbst : (l.take k).foldl (selS (some z.dot)) none = bst at *
              cases bst with
              | none =>
                have HX : Hid ((l.take (k + 1)).foldl (selS (some z.dot)) none = some x) := by unfold Hid; rw [hut]; simp [selS, selC, okP, En.dot, hzx]
                clear hut hbst
                have HBP := hid hbp
                clear hbp hbx
                go_upto_region 8 with (fail)
                refine wp_region_far wr.heap.size (by kernel_rfl) (by kernel_rfl) ?_
                repeat (go_big_quiet_step ((go_at_call 176; exact Calls.far_of (Nat.le_refl _) (r05less_any ⟨_, _⟩ ⟨_, _⟩ _))))
                refine wpQuiet_nil ?_
                intro wq hbq
                have hqs := hbq.size
                obtain ⟨f1, f2, f3, f4⟩ := HE.out wq hbq
                have hfb := HBP.out wq hbq
                have FB := hid hfb
                have c0 := cell_cells (i := 0) hfb
                have c1 := cell_cells (i := 1) hfb
                have c2 := cell_cells (i := 2) hfb
                have c3 := cell_cells (i := 3) hfb
                have z0 := cells_frz (i := 0) hfb
                have z1 := cells_frz (i := 1) hfb
                have z2 := cells_frz (i := 2) hfb
                have z3 := cells_frz (i := 3) hfb
                simp only [bestC, List.getElem?_toArray, List.getElem?_cons_zero, List.getElem?_cons_succ] at c0 c1 c2 c3
                clear hfb
                go_wp2_with fail
                go_roundw
                case rel => exact ⟨k + 1, by omega, by go_num, by rw [HX.out] <;> rfl, by rw [HX.out]; simpa [bestC] using cells_set (i := 3) (cells_set (i := 2) (cells_set (i := 1) (cells_set (i := 0) FB.out _) _) _) _, (((((hbr.trans (hbq.mono (by omega))).setCell (Nat.le_refl _) _).setCell (Nat.le_refl _) _).setCell (Nat.le_refl _) _).setCell (Nat.le_refl _) _)⟩
                case measure => simp [intOf]; omega
              | some y =>
                rcases hyx : Dt.lt ⟨x.dc, x.n⟩ ⟨y.dc, y.n⟩
                · have HX : Hid ((l.take (k + 1)).foldl (selS (some z.dot)) none = some y) := by unfold Hid; rw [hut]; simp [selS, selC, okP, En.dot, hzx, hyx]
                  clear hut hbst
                  have y0' : wr.cell? ⟨wo.heap.size, 0, none⟩ = some (.int .i64 y.dc) := cell_cells (i := 0) hbx
                  have y1' : wr.cell? ⟨wo.heap.size, 1, none⟩ = some (.int .i64 y.n) := cell_cells (i := 1) hbx
                  have y0 := far_cell (B := wr.heap.size) y0' hs3
                  have y1 := far_cell (B := wr.heap.size) y1' hs3
                  clear y0' y1'
                  have HBP := hid hbp
                  clear hbp hbx
                  go_upto_region 8 with (fail)
                  refine wp_region_far wr.heap.size (by kernel_rfl) (by kernel_rfl) ?_
                  repeat (go_big_quiet_step ((go_at_call 176; exact Calls.far_of (Nat.le_refl _) (r05less_any ⟨_, _⟩ ⟨_, _⟩ _))))
                  refine wpQuiet_nil ?_
                  intro wq hbq
                  go_wp2_with fail
                  go_roundw
                  case rel => exact ⟨k + 1, by omega, by go_num, by rw [HX.out] <;> rfl, by rw [HX.out]; exact HBP.out _ hbq, hbr.trans (hbq.mono (by omega))⟩
                  case measure => simp [intOf]; omega
                · have HX : Hid ((l.take (k + 1)).foldl (selS (some z.dot)) none = some x) := by unfold Hid; rw [hut]; simp [selS, selC, okP, En.dot, hzx, hyx]
                  clear hut hbst
                  have y0' : wr.cell? ⟨wo.heap.size, 0, none⟩ = some (.int .i64 y.dc) := cell_cells (i := 0) hbx
                  have y1' : wr.cell? ⟨wo.heap.size, 1, none⟩ = some (.int .i64 y.n) := cell_cells (i := 1) hbx
                  have y0 := far_cell (B := wr.heap.size) y0' hs3
                  have y1 := far_cell (B := wr.heap.size) y1' hs3
                  clear y0' y1'
                  have HBP := hid hbp
                  clear hbp hbx
                  go_upto_region 8 with (fail)
                  refine wp_region_far wr.heap.size (by kernel_rfl) (by kernel_rfl) ?_
                  repeat (go_big_quiet_step ((go_at_call 176; exact Calls.far_of (Nat.le_refl _) (r05less_any ⟨_, _⟩ ⟨_, _⟩ _))))
                  refine wpQuiet_nil ?_
                  intro wq hbq
                  have hqs := hbq.size
                  obtain ⟨f1, f2, f3, f4⟩ := HE.out wq hbq
                  have hfb := HBP.out wq hbq
                  have FB := hid hfb
                  have c0 := cell_cells (i := 0) hfb
                  have c1 := cell_cells (i := 1) hfb
                  have c2 := cell_cells (i := 2) hfb
                  have c3 := cell_cells (i := 3) hfb
                  have z0 := cells_frz (i := 0) hfb
                  have z1 := cells_frz (i := 1) hfb
                  have z2 := cells_frz (i := 2) hfb
                  have z3 := cells_frz (i := 3) hfb
                  simp only [bestC, List.getElem?_toArray, List.getElem?_cons_zero, List.getElem?_cons_succ] at c0 c1 c2 c3
                  clear hfb
                  go_wp2_with fail
                  go_roundw
                  case rel => exact ⟨k + 1, by omega, by go_num, by rw [HX.out] <;> rfl, by rw [HX.out]; simpa [bestC] using cells_set (i := 3) (cells_set (i := 2) (cells_set (i := 1) (cells_set (i := 0) FB.out _) _) _) _, (((((hbr.trans (hbq.mono (by omega))).setCell (Nat.le_refl _) _).setCell (Nat.le_refl _) _).setCell (Nat.le_refl _) _).setCell (Nat.le_refl _) _)⟩
                  case measure => simp [intOf]; omega
      · obtain rfl : k = l.length := by omega
        rw [List.take_of_length_le (Nat.le_refl _)] at hbx ⊢
        have hg3r : wr.heap[w.heap.size + 1]? = some (.cells #[.slice Ae es.length ce, .slice none 0 0] 27 (0, 0)) := (hbr.block _ (by omega)).trans hg3
        have hg2r : wr.heap[w.heap.size]? = some (.cells #[.slice none 0 0, .slice none 0 0] 27 (0, 0)) := (hbr.block _ (by omega)).trans hg2
        generalize hbst : l.foldl (selS (lastD es)) none = bst at *
        obtain ⟨n, rfl⟩ : ∃ n, gk = n + 1 := ⟨gk - 1, by have := hah.out; omega⟩
        have hgo' := hgo.out
        rw [entsGo, show es.getLast?.map En.dot = lastD es from rfl, show bestE l (lastD es) = bst from hbst] at hgo'
        cases bst with
        | some y =>
          obtain ⟨⟨x, hx, hx1, hx2⟩, hy2⟩ := bestE_spec (show bestE l (lastD es) = some y from hbst)
          have hoky : y.Ok := by
            obtain ⟨j, hj⟩ := List.getElem?_of_mem hx
            obtain ⟨b, off, _, hbB, hc⟩ := l3 (by rintro rfl; simp at hj)
            obtain ⟨cs, ⟨A7, c7, _, _, hok⟩, _, _⟩ := hc j _ hj
            exact hx2 ▸ hok
          have hlt2 := ahE_lt (show bestE l (lastD es) = some y from hbst)
          have HGO : Hid (entsGo l n (es ++ [y]) = selEnts l) := hgo'
          have HAH : Hid (ahE l (lastD (es ++ [y])) < n) := by have := hah.out; unfold Hid; simp only [lastD, List.getLast?_append, List.getLast?_singleton, Option.some_or, Option.map_some]; omega
          have HLE : Hid ((es ++ [y]).length + ahE l (lastD (es ++ [y])) ≤ l.length) := by have := hle.out; unfold Hid; simp only [lastD, List.getLast?_append, List.getLast?_singleton, Option.some_or, Option.map_some, List.length_append, List.length_singleton]; omega
          have HL : Hid (es.length + [y].length ≤ Few) := by unfold Hid Few; simp; omega
          have HY : Hid (EnE y [.int .i64 y.dc, .int .i64 y.n, .string y.s, .int .i64 y.v]) := ⟨rfl, hoky⟩
          have y0 : wr.cell? ⟨wo.heap.size, 0, none⟩ = some (.int .i64 y.dc) := cell_cells (i := 0) hbx
          have y1 : wr.cell? ⟨wo.heap.size, 1, none⟩ = some (.int .i64 y.n) := cell_cells (i := 1) hbx
          have y2 : wr.cell? ⟨wo.heap.size, 2, none⟩ = some (.string y.s) := cell_cells (i := 2) hbx
          have y3 : wr.cell? ⟨wo.heap.size, 3, none⟩ = some (.int .i64 y.v) := cell_cells (i := 3) hbx
          have z0 : wr.cell? ⟨w.heap.size + 1, 0, none⟩ = some (.slice Ae es.length ce) := cell_cells (i := 0) hg3r
          have HG3 := hid hg3r
          have HG2 := hid hg2r
          have hown' := hown.grow hbr
          clear hgo' hbst hbx hg3r hg2r hg3 hg2 hlt2 hx hx1 hx2 hy2 hoky l3 hsp hown hah hle hgo
          go_wp2_with (at_builtin; go_loud ((with_reducible refine wpList_few rfl (.tmp 70) (.tmp 72) _ rfl eiEntry (by decide) (by decide) (fun _ _ h => h.one) rfl (hown'.alloc _) rfl (SlP.one (x := y) HY.out rfl _ rfl) HL.out (by rw [World.size_alloc]; omega) ?_); intro v1 w1 hown1 hb1 _; obtain ⟨A1, c1, rfl⟩ := hown1.shape; have hb2 := ((Below.refl (w.heap.size + 2) wr).alloc (by omega) _).trans hb1; have hg31 := hid ((hb2.block (w.heap.size + 1) (by omega)).trans HG3.out); have hg21 := hid ((hb2.block w.heap.size (by omega)).trans HG2.out); have hc1 : w1.cell? ⟨w.heap.size + 1, 0, none⟩ = some (.slice Ae es.length ce) := cell_cells (i := 0) hg31.out; have hf1 := cells_frz (i := 0) hg31.out))
          go_roundg n
          case measure => omega
          case rel => exact ⟨es ++ [y], _, hown1.setOther (by simp) _, by simpa using cells_set (i := 0) hg31.out _, (Below.heap_setCell _ _ _ _ (by simp)).trans hg21.out, by have := hb2.size; simp [World.setCell]; omega, ((hB.trans (hb2.mono (by omega))).setCell (by simp) _), HGO, HAH, HLE⟩
        | none =>
          have HES : Hid (es = selEnts l) := hgo'
          have z0 : wr.cell? ⟨w.heap.size + 1, 0, none⟩ = some (.slice Ae es.length ce) := cell_cells (i := 0) hg3r
          have hown' := hown.grow hbr
          clear hgo' hbst hbx hg3 hg2 hsp hown hah hle hgo
          have HG3 := hid hg3r
          have HG2 := hid hg2r
          clear hg3r hg2r z0 hbr
          go_wp2_with fail
          obtain ⟨w1, rfl⟩ : ∃ w1 : World, w1 = wr := ⟨_, rfl⟩
          go_loopg [8] (l.length + 1) (fun n vl wr => BuildK f l w w1 (.slice Ae es.length ce) n vl wr)
          case atStart => exact ⟨ByteArray.empty, [], _, rfl, OwnD.nil, HG3.out, HG2.out, fun _ _ => rfl, Nat.le_refl _, hB, rfl, by have := ahK_le l ByteArray.empty; unfold Hid; omega, by have := ahK_le l ByteArray.empty; unfold Hid; simp; omega⟩
          case round =>
            obtain ⟨last, ks, vk, rfl, hownk, hg3, hg2, hkp, hsw, hBk, hgo, hah, hle⟩ := hrel
            have hszk := hownk.lt
            have hkl : ks.length ≤ 900000 := by have := hle.out; omega
            obtain ⟨Ak, ck, rfl⟩ := hownk.shape
            go_wp2_with fail
            obtain ⟨wo, rfl⟩ : ∃ wo : World, wo = wr := ⟨_, rfl⟩
            go_loopw [9, 77] (fun b i wr => ∃ (k : Nat), k ≤ l.length ∧ i = .int .i64 k ∧ b = .string ((l.take k).foldl (keyS last) ByteArray.empty) ∧ wr = wo) (fun _ i _ => l.length - (intOf i).toNat)
            case atStart => exact ⟨0, Nat.zero_le _, rfl, rfl, rfl⟩
            case round =>
              obtain ⟨k, hk, rfl, rfl, rfl⟩ := hrel
              by_cases hlt : k < l.length
              · obtain ⟨⟨p, x⟩, hx⟩ : ∃ x, l[k]? = some x := ⟨_, List.getElem?_eq_getElem hlt⟩
                obtain ⟨b, off, rfl, hbB, hc⟩ := l3 (by rintro rfl; simp at hlt)
                obtain ⟨cs, ⟨A7, c7, rfl, hp, hok⟩, _, hu⟩ := hc k _ hx
                have hut := bestK_take hx last ByteArray.empty
                have e0 : wr.cell? ⟨b, off + k * 5, none⟩ = some (.slice A7 p.length c7) := (hBk.cell hbB).trans (hu 0 _ rfl)
                generalize hbst : (l.take k).foldl (keyS last) ByteArray.empty = bst at *
                cases p with
                | nil =>
                  have HX : Hid ((l.take (k + 1)).foldl (keyS last) ByteArray.empty = bst) := by unfold Hid; rw [hut]; simp [keyS, keyC]
                  simp only [List.length_nil] at e0
                  clear hu hx hc l3 hok hp hut hbst hg3 hg2
                  go_wp2_with fail
                  go_roundw
                  case rel => exact ⟨k + 1, by omega, by go_num, by rw [HX.out], trivial⟩
                  case measure => simp [intOf]; omega
                | cons q qs =>
                  obtain ⟨A7', c7', hv7, m1, m2, m3⟩ := hp
                  simp only [Value.slice.injEq] at hv7
                  obtain ⟨rfl, _, rfl⟩ := hv7
                  obtain ⟨b7, o7, rfl, hb7, hc7⟩ := m3 (by simp)
                  obtain ⟨cs7, ⟨rfl, hq7⟩, _, hu7⟩ := hc7 0 q rfl
                  have e7 : wr.cell? ⟨b7, o7, none⟩ = some (.string q) := (hBk.cell (p := ⟨b7, o7, none⟩) hb7).trans (by simpa using hu7 0 _ rfl)
                  unfold Big at m2
                  obtain ⟨np, hnp, hnp0⟩ : ∃ np, np = (q :: qs).length ∧ 0 < np := ⟨_, rfl, by simp⟩
                  rw [← hnp] at e0 m1 m2
                  have t1 : decide ((0 : Int) < (np : Int)) = true := by simp; omega
                  clear hu hx hc l3 hok hc7 hu7 m3 hnp hbst hg3 hg2
                  have hkc : keyC last bst (q :: qs, x) = (ltS last q && (decide (bst = ByteArray.empty) || ltS q bst)) := rfl
                  rw [ltS_gt] at hkc
                  rcases g1 : Op.bytesLess q.toList last.toList
                  case true =>
                    have HX : Hid ((l.take (k + 1)).foldl (keyS last) ByteArray.empty = bst) := by unfold Hid; rw [hut, keyS, hkc, g1]; simp
                    clear hut hkc
                    go_wp2_with fail
                    go_roundw
                    case rel => exact ⟨k + 1, by omega, by go_num, by rw [HX.out], trivial⟩
                    case measure => simp [intOf]; omega
                  rcases g2 : (q.toList == last.toList)
                  case true =>
                    have HX : Hid ((l.take (k + 1)).foldl (keyS last) ByteArray.empty = bst) := by unfold Hid; rw [hut, keyS, hkc, g2]; simp
                    have g3 : q.toList = last.toList := by simpa using g2
                    clear hut hkc
                    go_wp2_with fail
                    go_roundw
                    case rel => exact ⟨k + 1, by omega, by go_num, by rw [HX.out], trivial⟩
                    case measure => simp [intOf]; omega
                  have g3 : ¬ q.toList = last.toList := by simpa using g2
                  have hkd : keyC last bst (q :: qs, x) = (decide (bst = ByteArray.empty) || ltS q bst) := by rw [hkc, g1, g2]; rfl
                  clear hkc
                  rcases hbe : bst.toList.isEmpty
                  · have hbe3 : ¬ bst.toList = [] := by simpa using hbe
                    have hbe' : bst ≠ ByteArray.empty := fun e => by rw [e] at hbe; simp at hbe
                    rcases hqb : Op.bytesLess q.toList bst.toList
                    · have HX : Hid ((l.take (k + 1)).foldl (keyS last) ByteArray.empty = bst) := by unfold Hid; rw [hut, keyS, hkd, ltS, hqb]; simp [hbe']
                      clear hut hkd hbe'
                      go_wp2_with fail
                      go_roundw
                      case rel => exact ⟨k + 1, by omega, by go_num, by rw [HX.out], trivial⟩
                      case measure => simp [intOf]; omega
                    · have HX : Hid ((l.take (k + 1)).foldl (keyS last) ByteArray.empty = q) := by unfold Hid; rw [hut, keyS, hkd, ltS, hqb]; simp
                      clear hut hkd hbe'
                      go_wp2_with fail
                      go_roundw
                      case rel => exact ⟨k + 1, by omega, by go_num, by rw [HX.out], trivial⟩
                      case measure => simp [intOf]; omega
                  · have hbe3 : bst.toList = [] := by simpa using hbe
                    have hbe' : bst = ByteArray.empty := (bytes_inj _ _).1 (by simpa using hbe)
                    have HX : Hid ((l.take (k + 1)).foldl (keyS last) ByteArray.empty = q) := by unfold Hid; rw [hut, keyS, hkd]; simp [hbe']
                    clear hut hkd hbe'
                    go_wp2_with fail
                    go_roundw
                    case rel => exact ⟨k + 1, by omega, by go_num, by rw [HX.out], trivial⟩
                    case measure => simp [intOf]; omega
              · obtain rfl : k = l.length := by omega
                rw [List.take_of_length_le (Nat.le_refl _), show l.foldl (keyS last) ByteArray.empty = bestK l last from rfl]
                obtain ⟨n, rfl⟩ : ∃ n, gk = n + 1 := ⟨gk - 1, by have := hah.out; omega⟩
                have hgo' := hgo.out
                rw [kidsGo] at hgo'
                by_cases hq : bestK l last = ByteArray.empty
                · rw [if_pos hq, List.append_nil] at hgo'
                  have HKS := hid hgo'
                  have hqe : (bestK l last).toList.isEmpty = true := by rw [hq]; simp
                  have hqb : (bestK l last).toList = [] := by rw [hq]; simp
                  have c0 : wr.cell? ⟨w.heap.size + 1, 0, none⟩ = some (.slice Ae es.length ce) := cell_cells (i := 0) hg3
                  have c1 : wr.cell? ⟨w.heap.size + 1, 1, none⟩ = some (.slice Ak ks.length ck) := cell_cells (i := 1) hg3
                  have d0 : wr.cell? ⟨w.heap.size, 0, none⟩ = some (.slice none 0 0) := cell_cells (i := 0) hg2
                  have d1 : wr.cell? ⟨w.heap.size, 1, none⟩ = some (.slice none 0 0) := cell_cells (i := 1) hg2
                  have z0 := cells_frz (i := 0) hg2
                  have z1 := cells_frz (i := 1) hg2
                  have HG2 := hid hg2
                  have HG3 := hid hg3
                  clear hgo' hq hg2 hg3 hgo hah hle l3
                  generalize bestK l last = q at *
                  go_wp2_with fail
                  have hW0 := cells_set (i := 1) (cells_set (i := 0) HG2.out (.slice Ae es.length ce)) (.slice Ak ks.length ck)
                  have hKW : ∀ b, w.heap.size + 2 ≤ b → ((wr.setCell ⟨w.heap.size, 0, none⟩ (.slice Ae es.length ce)).setCell ⟨w.heap.size, 1, none⟩ (.slice Ak ks.length ck)).heap[b]? = wr.heap[b]? := fun b hb => (Below.heap_setCell _ _ _ _ (by simp; omega)).trans (Below.heap_setCell _ _ _ _ (by simp; omega))
                  have hSW : ((wr.setCell ⟨w.heap.size, 0, none⟩ (.slice Ae es.length ce)).setCell ⟨w.heap.size, 1, none⟩ (.slice Ak ks.length ck)).heap.size = wr.heap.size := by simp [World.setCell]
                  have hBW : Below w.heap.size w ((wr.setCell ⟨w.heap.size, 0, none⟩ (.slice Ae es.length ce)).setCell ⟨w.heap.size, 1, none⟩ (.slice Ak ks.length ck)) := (hBk.setCell (Nat.le_refl _) _).setCell (Nat.le_refl _) _
                  generalize (wr.setCell ⟨w.heap.size, 0, none⟩ (.slice Ae es.length ce)).setCell ⟨w.heap.size, 1, none⟩ (.slice Ak ks.length ck) = W at *
                  have r0 : W.cell? ⟨w.heap.size, 0, none⟩ = some (.slice Ae es.length ce) := (cell_cells (i := 0) hW0).trans (by simp)
                  have r1 : W.cell? ⟨w.heap.size, 1, none⟩ = some (.slice Ak ks.length ck) := (cell_cells (i := 1) hW0).trans (by simp)
                  clear c0 c1 d0 d1 z0 z1 hqe hqb
                  refine bodyPost_ret (v := .agg #[.slice Ae es.length ce, .slice Ak ks.length ck]) (by simp [results, Tryz.results112, go_sem, r0, r1]) rfl ⟨_, _, rfl, ?_, hBW⟩
                  rw [← HES.out, ← HKS.out, rda_iff]
                  refine ⟨(hown'.sla (by unfold Big; omega)).up (fun b hb => (hKW b hb.1).trans (hkp b ⟨hb.1, hb.2.1⟩)) (fun b hb => ⟨by have := hb.1; omega, by have := hb.2.1; omega⟩) (fun _ _ _ h => h), (OwnP.sla hownk (by unfold Big; omega)).up (fun b hb => hKW b (by have := hb.1; omega)) (fun b hb => ⟨by have := hb.1; omega, by have := hb.2.1; omega⟩) ?_⟩
                  intro x _ cs hx
                  exact KdA.mon.up (fun b hb => hKW b (by have := hb.1; omega)) (fun b hb => ⟨by have := hb.1; omega, by have := hb.2.1; omega⟩) hx
                · rw [if_neg hq] at hgo'
                  have hlt2 := ahK_lt hq
                  obtain ⟨⟨x, hx, qs, hxe⟩, _⟩ := bestK_spec hq
                  have IHQ := hid (IH.out x hx _ _ hxe)
                  generalize hqd : bestK l last = q at *
                  have hqb : (q.toList == ([] : List UInt8)) = false := by simp; exact fun e => hq ((bytes_inj _ _).1 (by simpa using e))
                  have hqe : q.toList.isEmpty = false := by simpa using hqb
                  have hqs : q.size ≤ Big := by
                    obtain ⟨j, hj⟩ := List.getElem?_of_mem hx
                    obtain ⟨b, off, _, hbB, hc⟩ := l3 (by rintro rfl; simp at hj)
                    obtain ⟨cs, ⟨A7, c7, _, ⟨_, _, _, _, _, hp⟩, hok⟩, _, _⟩ := hc j _ hj
                    obtain ⟨b7, o7, _, _, hc7⟩ := hp (by rw [hxe]; simp)
                    obtain ⟨cs7, ⟨_, hq7⟩, _, _⟩ := hc7 0 q (by rw [hxe]; rfl)
                    exact hq7
                  have HQS := hid hqs
                  have HGO : Hid ((ks ++ [(q, f (underL l q))]) ++ kidsGo f l n q = kidsGo f l (l.length + 1) ByteArray.empty) := by unfold Hid; rw [← hgo']; simp
                  have HAH : Hid (ahK l q < n) := by have := hah.out; unfold Hid; omega
                  have HLE : Hid ((ks ++ [(q, f (underL l q))]).length + ahK l q ≤ l.length) := by have := hle.out; unfold Hid; simp; omega
                  have HL : Hid (ks.length + [(q, f (underL l q))].length ≤ Few) := by unfold Hid Few; simp; omega
                  have HG3 := hid hg3
                  have HG2 := hid hg2
                  have HKP := hid hkp
                  have HGW : Hid (∀ W, Below wr.heap.size wr W → W.heap[w.heap.size + 1]? = some (.cells #[.slice Ae es.length ce, .slice Ak ks.length ck] 27 (0, 0))) := fun W hW => (hW.block _ (by omega)).trans hg3
                  have HS : Hid (∀ w', Below wr.heap.size wr w' → w'.cell? ⟨w.heap.size + 1, 1, none⟩ = some (.slice Ak ks.length ck)) := fun w' hb' => (hb'.cell (p := ⟨w.heap.size + 1, 1, none⟩) (by simp; omega)).trans (cell_cells (i := 1) hg3)
                  clear l3 hgo' hlt2 hx hxe hq hqs hg3 hg2 hkp hgo hah hle
                  have HOWN : Hid (∀ W, Below wr.heap.size wr W → OwnD W w1.heap.size 155 3 KdA (fun b => w1.heap.size ≤ b) (.slice Ak ks.length ck) ks) := fun W hW => hownk.grow KdA.mon hW
                  have HUL : Hid ((underL l q).length ≤ Big) := by have := underL_len l q; unfold Hid Big; omega
                  have HW0 : Hid (Below w.heap.size w wr) := hBk
                  have hw1 : w.heap.size + 1 < w1.heap.size := by omega
                  clear hownk hBk
                  go_upto_region 23 with (fail)
                  have z1 := HS.out wr (Below.refl _ _)
                  have z2 := HS.out wr.drew ((Below.refl _ _).drew)
                  go_region_law
                    (first | (go_simp; go_at_call 137; go_loud ((refine (r08under_any l q (fun _ => True) _ _ (HLW.out _ HW0.out.drew) hN).mono ?_); rintro e w2 ⟨vU, rfl, hU, hb2⟩; have hb2 : Below wr.heap.size wr w2 := ((Below.refl wr.heap.size wr).drew).trans hb2; have hc2 := HS.out w2 hb2))
                           | (go_simp; go_at_call 112; go_loud ((refine (IHQ.out _ _ ((hU.sl LfA.mon HUL.out).imp (Below.refl _ _) (Nat.le_refl _) (fun _ _ _ hx => LfA.mon.up (fun _ _ => rfl) (fun b hb => hb.2) hx))).mono ?_); rintro e w3 ⟨ve3, vk3, rfl, hrd, hb3⟩; obtain ⟨Av, nv, Aw, nw, rfl, rfl⟩ := rda_shape hrd; have hs2 := hb2.size; have hb3' := hid (hb2.trans (hb3.mono hb2.size)); have hc3 := HS.out w3 hb3'.out; have hc3a := fun (o : Obj) => HS.out (w3.alloc o) (hb3'.out.alloc hb3'.out.size o)))
                           | (have hQ3 := hb3'; go_loud ((refine step_d (v := .slice Ak ks.length ck) rfl (.tmp 125) (.tmp 132) _ rfl KdA.mon eiKid (by decide) (by decide) rfl (HOWN.out _ (hb3'.out.alloc hb3'.out.size _)) rfl (kid_one hrd HQS.out (fun b hb => ⟨hb.2, by have := hb.1; simp only [World.size_drew] at *; omega, by rw [World.size_alloc]; have := hb.2; omega, fun e => by have := hszk b e; have := hb.1; simp only [World.size_drew] at *; omega⟩) _ (by rw [World.size_alloc]; omega)) HL.out (by rw [World.size_alloc]; have := hb3'.out.size; omega) ?_); intro v1 w4 hown4 hb4 _ _; have hsh4 : ∃ A c, v1 = .slice A (ks ++ [(q, f (underL l q))]).length c := OwnP.shape hown4; obtain ⟨A1, c1, hv1⟩ := hsh4; subst hv1; have hg34 := hid ((hb4.block _ hw1).trans (HGW.out _ (hb3'.out.alloc hb3'.out.size _))); have hc4 : w4.cell? ⟨w.heap.size + 1, 1, none⟩ = some (.slice Ak ks.length ck) := cell_cells (i := 1) hg34.out; have hf4 := cells_frz (i := 1) hg34.out)))
                  all_goals go_wp2_with fail
                  all_goals (go_roundg n; (case measure => omega); (case rel =>
                    have hW := hb3'.out.alloc hb3'.out.size (.cells #[.string q, .slice Av (f (underL l q)).es.length nv, .slice Aw (f (underL l q)).ks.length nw] 155)
                    have hwo := hsw
                    exact ⟨q, ks ++ [(q, f (underL l q))], _, rfl, OwnD.setOther hown4 KdA.mon hw1 (by simp; omega) _, by simpa using cells_set (i := 1) hg34.out _,
                      (Below.heap_setCell _ _ _ _ (by simp)).trans ((hb4.block _ (by omega)).trans ((hW.block _ (by omega)).trans HG2.out)),
                      fun b hb => (Below.heap_setCell _ _ _ _ (by have := hb.1; simp; omega)).trans ((hb4.block _ hb.2).trans ((hW.block _ (by have := hb.2; omega)).trans (HKP.out b hb))),
                      by have := hb4.size; have := hW.size; simp [World.setCell] at *; omega, (((HW0.out.trans (hW.mono (by omega))).trans (hb4.mono (by omega))).setCell (by simp) _), HGO, HAH, HLE⟩))

theorem r08build_any : ∀ (d : Nat) (l : List Lf) (vl : Value) (w : World), (∀ x ∈ l, x.1.length ≤ d) → SlP w w.heap.size 5 (LfA w (fun b => b < w.heap.size)) vl l → l.length ≤ 900000 →
    Calls Tryz.prog 112 #[vl] w fun e w' => ∃ ve vk, e = .returned (.agg #[ve, vk]) ∧ (buildT d l).rda w' (fun b => w.heap.size ≤ b ∧ b < w'.heap.size) ve vk ∧ Below w.heap.size w w'
  | 0, l, vl, w, hd, h, hN => build_one _ l vl w (fun x hx q qs hq => absurd (hd x hx) (by rw [hq]; simp)) h hN
  | d + 1, l, vl, w, hd, h, hN => build_one _ l vl w (fun x hx q qs hq vl w h => r08build_any d _ vl w (fun y hy => by
      unfold underL at hy
      obtain ⟨z, hz, hzy⟩ := List.mem_filterMap.1 hy
      obtain ⟨p, e⟩ := z
      have := hd _ hz
      cases p with
      | nil => cases hzy
      | cons u us =>
        simp only [underF] at hzy
        split at hzy
        · cases hzy; simp at this; exact this
        · cases hzy) h (Nat.le_trans (underL_len l q) hN)) h hN
end Go.Proofs.YtmphgnjodangcaaGreat
