/- What the laws need, part 4: slices.IndexFunc and slices.ContainsFunc at runs, whatever the test; span.Has. No condition. context.Has. No condition but that there are not too many. Contexts put together of sets, in plain Lean: they may be taken apart, into those sets; what context.Has tells of them. No condition. Small facts in plain Lean for the laws: a tree of one entry, a context of one dot. No condition. slices.SortFunc at runs: the library's contract laid at this program. No condition. slices.SortFunc at a list of runs of the call's own. No condition but that there are not too many. span.Of is the reference's set of the same numbers. No condition but that the numbers are right, and not too many. span.Union is the reference's union. No condition but that both are sets, and not too many. context.by at two right contexts, whatever rule; context.Union. No condition but that there are not too many. context.Of is the reference's context of the same dots. No condition but that the dots are right, and not too many. tree.Dots and flag.Check are what the reference says. No condition but that there are not too many entries. What a change hands back: what is known, and an error's number. No condition. flag.seen, flag.Disable, flag.On. No condition but that there are not too many entries. flag.Enable. No condition but that there are not too many entries. tributarylaw10.awake answers true. No condition. The laws FlagOn, FlagCheck, FlagEnables, FlagDisables answer true. No condition. The data that a law is given, read as the plain types: dots, entries, trees. No condition. The frame of a law: its answer is true, and its arguments read as before. No condition. -/
import Derived.Deep.QuietTactic
import Derived.Deep.Slices
import Derived.ProofKit
import Derived.Shelf.Abstract
import Derived.Shelf.SlSortCmp.NoneTotal
import Derived.SizedLaws
import Derived.Sort.OwnSorted
import Derived.Test.YtililfcegeddaaaProg
import Derived.Test.YtililfcegeddaaaRows
import Derived.Test.YtililfcegeddaaaCo3
namespace Go.Proofs.Ytililfcegeddaaa
open Go.RowKit
set_option maxRecDepth 100000

def idxI {α : Type} (p : α → Bool) (l : List α) : Int := match l.findIdx? p with | some i => (i : Int) | none => -1
theorem idxI_hit {α : Type} {p : α → Bool} {l : List α} {k : Nat} {x : α} (h : ∀ (j : Nat) y, j < k → l[j]? = some y → p y = false) (hx : l[k]? = some x) (hp : p x = true) : idxI p l = (k : Int) := by
  have hlt := (List.getElem?_eq_some_iff.1 hx).1
  have : l.findIdx? p = some k := by
    rw [List.findIdx?_eq_some_iff_getElem]
    refine ⟨hlt, by rw [(List.getElem?_eq_some_iff.1 hx).2]; exact hp, fun j hj => ?_⟩
    rw [h j _ hj (List.getElem?_eq_getElem (by omega))]; simp
  unfold idxI; rw [this]
theorem idxI_miss {α : Type} {p : α → Bool} {l : List α} (h : ∀ (j : Nat) y, j < l.length → l[j]? = some y → p y = false) : idxI p l = -1 := by
  have : l.findIdx? p = none := by
    rw [List.findIdx?_eq_none_iff]
    intro x hx
    obtain ⟨j, hj⟩ := List.getElem?_of_mem hx
    exact h j x (List.getElem?_eq_some_iff.1 hj).1 hj
  unfold idxI; rw [this]
theorem idxI_any {α : Type} (p : α → Bool) (l : List α) : decide (0 ≤ idxI p l) = l.any p := by
  unfold idxI
  cases h : l.findIdx? p with
  | none =>
    rw [List.findIdx?_eq_none_iff] at h
    rw [Bool.eq_iff_iff]
    simp [List.any_eq_true]
    exact h
  | some i =>
    rw [List.findIdx?_eq_some_iff_getElem] at h
    obtain ⟨hlt, hp, _⟩ := h
    have : l.any p = true := List.any_eq_true.2 ⟨l[i], List.getElem_mem hlt, hp⟩
    rw [this]; simp
theorem idxI_bd {α : Type} (p : α → Bool) (l : List α) : -1 ≤ idxI p l ∧ idxI p l < l.length + 1 := by
  unfold idxI
  cases h : l.findIdx? p with
  | none => simp; omega
  | some i =>
    rw [List.findIdx?_eq_some_iff_getElem] at h
    obtain ⟨hlt, _⟩ := h
    simp; omega

/-- A test on runs: it tells p, and turns nothing that was there. -/
def TestRun (g : Nat) (lb : Array Value) (p : Int × Int → Bool) (w : World) : Prop :=
  (∀ args W, (callFunc g args).run Try.prog W = .ok (.enter g args) W) ∧
  ∀ (x : Int × Int) (W : World), Below w.heap.size w W → Calls Try.prog g (#[.agg #[.int .i64 x.1, .int .i64 x.2]] ++ lb) W fun e w' => e = .returned (.bool (p x)) ∧ Below W.heap.size W w'

set_option maxHeartbeats 1000000 in
theorem idxRun_any (p : Int × Int → Bool) (g : Nat) (lb : Array Value) (l : List (Int × Int)) (v : Value) (w : World) (h : SlP w w.heap.size 2 RuE v l) (ht : TestRun g lb p w) :
    Calls Try.prog 100 #[v, .func (.func g) #[] lb] w fun e w' => e = .returned (.int .i64 (idxI p l)) ∧ Below w.heap.size w w' := by
  obtain ⟨A, n, rfl, b1, b2, b3⟩ := h
  obtain ⟨eg, ht⟩ := ht
  unfold Big at b2
  go_enter Try.func100, Try.ntmps100
  go_wp2_with fail
  go_loopw [8] (fun i wr => ∃ k : Nat, k ≤ l.length ∧ i = .int .i64 k ∧ Hid (∀ (j : Nat) y, j < k → l[j]? = some y → p y = false) ∧ Below w.heap.size w wr) (fun i _ => l.length - (intOf i).toNat)
  case atStart => exact ⟨0, Nat.zero_le _, rfl, fun j y hj => absurd hj (Nat.not_lt_zero _), Below.refl _ _⟩
  case round =>
    obtain ⟨k, hk, rfl, hrel, hb⟩ := hrel
    have hsz := hb.size
    by_cases hlt : k < l.length
    · obtain ⟨x, hx⟩ : ∃ x, l[k]? = some x := ⟨_, List.getElem?_eq_getElem hlt⟩
      obtain ⟨b, off, rfl, hbB, hc⟩ := b3 (by rintro rfl; simp at hlt)
      obtain ⟨cs, ⟨rfl, hok⟩, _, hu⟩ := hc k _ hx
      have e0 : wr.cell? ⟨b, off + k * 2, none⟩ = some (.int .i64 x.1) := (hb.cell hbB).trans (hu 0 _ rfl)
      have e1 : wr.cell? ⟨b, off + k * 2 + 1, none⟩ = some (.int .i64 x.2) := (hb.cell hbB).trans (hu 1 _ rfl)
      have hcall := ht x wr hb
      have HX := hid hx
      clear hu hx hc b3 hok ht
      cases hq : p x
      · have HQ := hid hq
        rw [hq] at hcall
        clear hq
        go_wp2_with (go_at_fn g; refine hcall.mono ?_; rintro e w1 ⟨rfl, hb1⟩)
        go_roundw
        case rel =>
          refine ⟨k + 1, by omega, by go_num, fun j y hj hy => ?_, hb.trans (hb1.mono hsz)⟩
          by_cases hjk : j = k
          · subst hjk; have h2 := HX.out; rw [hy] at h2; cases h2; exact HQ.out
          · exact hrel.out j y (by omega) hy
        case measure => simp [intOf]; omega
      · have HQ := hid hq
        rw [hq] at hcall
        clear hq
        go_wp2_with (go_at_fn g; refine hcall.mono ?_; rintro e w1 ⟨rfl, hb1⟩)
        go_ret
        exact ⟨ret_int (idxI_hit hrel.out HX.out HQ.out).symm, hb.trans (hb1.mono hsz)⟩
    · obtain rfl : k = l.length := by omega
      go_wp2_with fail
      go_ret
      exact ⟨ret_int (idxI_miss hrel.out).symm, hb⟩

theorem conRun_any (p : Int × Int → Bool) (g : Nat) (lb : Array Value) (l : List (Int × Int)) (v : Value) (w : World) (h : SlP w w.heap.size 2 RuE v l) (ht : TestRun g lb p w) :
    Calls Try.prog 84 #[v, .func (.func g) #[] lb] w fun e w' => e = .returned (.bool (l.any p)) ∧ Below w.heap.size w w' := by
  have hbd := idxI_bd p l
  have HA := hid (idxI_any p l)
  obtain ⟨A, n, rfl, b1, b2, b3⟩ := h
  unfold Big at b2
  go_enter Try.func84, Try.ntmps84
  go_wp2_with fail
  refine (idxRun_any p g lb l _ w ⟨A, n, rfl, b1, by unfold Big; omega, b3⟩ ht).mono ?_
  rintro e w1 ⟨rfl, hb1⟩
  go_wp2_with fail
  go_ret
  exact ⟨ret_bool HA.out, hb1⟩

theorem hasClo_any (x : Int × Int) (n : Int) (B : Nat) (w : World) (hc : w.cell? ⟨B, 0, none⟩ = some (.int .i64 n)) (hB : B < w.heap.size) :
    Calls Try.prog 85 #[.agg #[.int .i64 x.1, .int .i64 x.2], .pointer (some ⟨B, 0, none⟩)] w fun e w' => e = .returned (.bool (inR x n)) ∧ Below w.heap.size w w' := by
  have hne : B ≠ w.heap.size := by omega
  rcases t1 : decide (x.1 ≤ n)
  · have HR : Hid (inR x n = false) := by unfold Hid inR; rw [t1]; rfl
    go_enter Try.func85, Try.ntmps85
    go_wp2_with fail
    go_ret
    exact ⟨ret_bool HR.out.symm, by go_grown⟩
  · have HR : Hid (inR x n = decide (n ≤ x.2)) := by unfold Hid inR; rw [t1]; rfl
    go_enter Try.func85, Try.ntmps85
    go_wp2_with fail
    go_ret
    exact ⟨ret_bool HR.out.symm, by go_grown⟩

/-- What span.Has tells. -/
def sHas (l : List (Int × Int)) (n : Int) : Bool := runsR none l && hasL l n
theorem shas_any (l : List (Int × Int)) (n : Int) (v : Value) (w : World) (h : SlP w w.heap.size 2 RuE v l) :
    Calls Try.prog 64 #[v, .int .i64 n] w fun e w' => e = .returned (.bool (sHas l n)) ∧ Below w.heap.size w w' := by
  have hs : SlP (w.alloc (.cells #[.int .i64 n] 2)) (w.alloc (.cells #[.int .i64 n] 2)).heap.size 2 RuE v l := SlP.imp h ((Below.refl _ w).alloc (Nat.le_refl _) _) (by simp) fun _ _ _ h => h
  have HS := hid hs
  clear hs h
  go_enter Try.func64, Try.ntmps64
  go_wp2_with fail
  refine (sright_any l v _ HS.out).mono ?_
  rintro e w1 ⟨rfl, hb1⟩
  have hs1 := hb1.size
  simp only [World.size_alloc] at hs1
  have hB : Below w.heap.size w w1 := ((Below.refl _ w).alloc (Nat.le_refl _) _).trans (hb1.mono (by simp))
  have hc : w1.cell? ⟨w.heap.size, 0, none⟩ = some (.int .i64 n) := by rw [hb1.cell (p := ⟨w.heap.size, 0, none⟩) (by simp)]; simp
  have HT : Hid (TestRun 85 #[.pointer (some ⟨w.heap.size, 0, none⟩)] (fun r => inR r n) w1) :=
    ⟨enters_of Try.func85 (by kernel_rfl) rfl, fun x W hW => hasClo_any x n w.heap.size W ((hW.cell (p := ⟨w.heap.size, 0, none⟩) (by show w.heap.size < _; omega)).trans hc) (by have := hW.size; omega)⟩
  have hs2 : SlP w1 w1.heap.size 2 RuE v l := SlP.imp HS.out hb1 (by simpa using hs1) fun _ _ _ h => h
  have HS2 := hid hs2
  clear hs2
  cases hr : runsR none l
  · have HR : Hid (sHas l n = false) := by unfold Hid sHas; rw [hr]; rfl
    clear hr
    go_wp2_with fail
    go_ret
    exact ⟨ret_bool HR.out.symm, hB⟩
  · have HR : Hid (sHas l n = l.any fun r => inR r n) := by unfold Hid sHas; rw [hr]; rfl
    clear hr
    go_wp2_with fail
    refine (conRun_any (fun r => inR r n) _ _ l v w1 HS2.out HT.out).mono ?_
    rintro e w2 ⟨rfl, hb2⟩
    go_wp2_with fail
    go_ret
    exact ⟨ret_bool HR.out.symm, hB.trans (hb2.mono (by omega))⟩
end Go.Proofs.Ytililfcegeddaaa

namespace Go.Proofs.Ytililfcegeddaaa
open Go.RowKit
set_option maxRecDepth 100000

def cHas (c : List Sp) (d : Dt) : Bool := apartB c && (d.right && sHas (partL c d.dc) d.n)

set_option maxHeartbeats 4000000 in
theorem chas_any (c : List Sp) (d : Dt) (vc : Value) (w : World) (h : SlP w w.heap.size 3 SpE vc c) (hN : c.length ≤ 900000) :
    Calls Try.prog 45 #[vc, .agg #[.int .i64 d.dc, .int .i64 d.n]] w fun e w' => e = .returned (.bool (cHas c d)) ∧ Below w.heap.size w w' := by
  have HC : Hid (∀ w', Below w.heap.size w w' → SlP w' w'.heap.size 3 SpE vc c) := fun w' hb => h.imp hb hb.size (fun _ _ _ h => h)
  obtain ⟨A, n, rfl, _, _, _⟩ := h
  obtain ⟨dc, num⟩ := d
  go_enter Try.func45, Try.ntmps45
  go_wp2_with fail
  refine (apart_any c _ _ (HC.out _ ((Below.refl _ w).alloc (Nat.le_refl _) _)) hN).mono ?_
  rintro e w1 ⟨vs, rfl, hsl, hb1⟩
  have hs1 := hb1.size
  simp only [World.size_alloc] at hs1
  have hB1 : Below w.heap.size w w1 := ((Below.refl _ w).alloc (Nat.le_refl _) _).trans (hb1.mono (by simp))
  have b0 : w1.cell? ⟨w.heap.size, 0, none⟩ = some (.int .i64 dc) := by rw [hb1.cell (p := ⟨w.heap.size, 0, none⟩) (by simp)]; simp
  have b1 : w1.cell? ⟨w.heap.size, 1, none⟩ = some (.int .i64 num) := by rw [hb1.cell (p := ⟨w.heap.size, 1, none⟩) (by simp)]; simp
  obtain ⟨A0, m0, g0, _⟩ := hsl 0 (by omega)
  obtain ⟨A1, m1, g1, _⟩ := hsl 1 (by omega)
  obtain ⟨A2, m2, g2, _⟩ := hsl 2 (by omega)
  obtain ⟨A3, m3, g3, _⟩ := hsl 3 (by omega)
  have HSL := hid (fun i (hi : i < 4) => (hsl i hi).slp (fun b hb => hb.2) (Below.refl _ w1))
  clear hsl
  cases hap : apartB c
  · have HR : Hid (cHas c ⟨dc, num⟩ = false) := by unfold Hid cHas; rw [hap]; rfl
    simp only [hap, Bool.false_eq_true, if_false] at g0 g1 g2 g3
    simp only [g0, g1, g2, g3]
    clear hap g0 g1 g2 g3
    go_upto_region 2 with (fail)
    refine wp_region_far (w1.heap.size + 1) (by kernel_rfl) (by kernel_rfl) ?_
    repeat (go_big_quiet_step (fail))
    refine wpQuiet_nil ?_
    intro wq hbq
    have hbw : Below w.heap.size w wq := (hB1.alloc (by omega) _).trans (hbq.mono (by omega))
    go_wp2_with fail
    go_ret
    exact ⟨ret_bool HR.out.symm, hbw⟩
  simp only [hap, if_true] at g0 g1 g2 g3
  simp only [g0, g1, g2, g3]
  cases hr : Dt.right ⟨dc, num⟩
  · have HR : Hid (cHas c ⟨dc, num⟩ = false) := by unfold Hid cHas; rw [hap, hr]; rfl
    go_upto_region 2 with (fail)
    have f0 := far_cell (B := w1.heap.size + 1) (w := w1.alloc (.cells #[.slice A0 (partL c 0).length m0, .slice A1 (partL c 1).length m1, .slice A2 (partL c 2).length m2, .slice A3 (partL c 3).length m3] 78)) (b := w.heap.size) (o := 0) (v := .int .i64 dc) (by rw [World.cell?_alloc_lt _ _ _ (by show w.heap.size < _; omega)]; exact b0) (by omega)
    have f1 := far_cell (B := w1.heap.size + 1) (w := w1.alloc (.cells #[.slice A0 (partL c 0).length m0, .slice A1 (partL c 1).length m1, .slice A2 (partL c 2).length m2, .slice A3 (partL c 3).length m3] 78)) (b := w.heap.size) (o := 1) (v := .int .i64 num) (by rw [World.cell?_alloc_lt _ _ _ (by show w.heap.size < _; omega)]; exact b1) (by omega)
    have HRI := hid hr
    clear hap hr g0 g1 g2 g3
    refine wp_region_far (w1.heap.size + 1) (by kernel_rfl) (by kernel_rfl) ?_
    repeat (go_big_quiet_step ((go_at_call 44; exact Calls.far_of (by simp) (HRI.out ▸ dright_any ⟨dc, num⟩ _))))
    refine wpQuiet_nil ?_
    intro wq hbq
    have hbw : Below w.heap.size w wq := (hB1.alloc (by omega) _).trans (hbq.mono (by omega))
    go_wp2_with fail
    go_ret
    exact ⟨ret_bool HR.out.symm, hbw⟩
  · have hbd : (0 ≤ dc ∧ dc < 4) ∧ 1 ≤ num ∧ num ≤ 1099511627776 := by simpa [Dt.right, and_assoc] using hr
    obtain ⟨dn, rfl⟩ : ∃ dn : Nat, dc = (dn : Int) := ⟨dc.toNat, by omega⟩
    have hd4 : dn < 4 := by omega
    have hdi : (dn : Int) < 4 := by omega
    have HR : Hid (cHas c ⟨dn, num⟩ = sHas (partL c dn) num) := by unfold Hid cHas; rw [hap, hr]; rfl
    obtain ⟨Ad, md, gd, _⟩ := HSL.out dn hd4
    rw [if_pos hap] at gd
    have hcell : (w1.alloc (.cells #[.slice A0 (partL c 0).length m0, .slice A1 (partL c 1).length m1, .slice A2 (partL c 2).length m2, .slice A3 (partL c 3).length m3] 78)).cell? ⟨w1.heap.size, dn, none⟩ = some (.slice Ad (partL c dn).length md) := by
      rw [cell_cells (heap_new rfl), ← gd]
      match dn, hd4 with
      | 0, _ => rw [g0]; rfl
      | 1, _ => rw [g1]; rfl
      | 2, _ => rw [g2]; rfl
      | 3, _ => rw [g3]; rfl
    have HS3 : Hid (∀ w', Below w1.heap.size w1 w' → SlP w' w'.heap.size 2 RuE (.slice Ad (partL c dn).length md) (partL c dn)) := fun w' hb => by
      have := HSL.out dn hd4
      rw [if_pos hap, gd] at this
      exact this.imp hb hb.size fun _ _ _ h => h
    go_upto_region 2 with (fail)
    have f0 := far_cell (B := w1.heap.size + 1) (w := w1.alloc (.cells #[.slice A0 (partL c 0).length m0, .slice A1 (partL c 1).length m1, .slice A2 (partL c 2).length m2, .slice A3 (partL c 3).length m3] 78)) (b := w.heap.size) (o := 0) (v := .int .i64 (dn : Int)) (by rw [World.cell?_alloc_lt _ _ _ (by show w.heap.size < _; omega)]; exact b0) (by omega)
    have f1 := far_cell (B := w1.heap.size + 1) (w := w1.alloc (.cells #[.slice A0 (partL c 0).length m0, .slice A1 (partL c 1).length m1, .slice A2 (partL c 2).length m2, .slice A3 (partL c 3).length m3] 78)) (b := w.heap.size) (o := 1) (v := .int .i64 num) (by rw [World.cell?_alloc_lt _ _ _ (by show w.heap.size < _; omega)]; exact b1) (by omega)
    have f2 := far_cell (B := w1.heap.size + 1) hcell (by omega)
    have HRI := hid hr
    clear hap hr g0 g1 g2 g3 gd hcell
    refine wp_region_far (w1.heap.size + 1) (by kernel_rfl) (by kernel_rfl) ?_
    repeat (go_big_quiet_step (first | (go_at_call 44; exact Calls.far_of (by simp) (HRI.out ▸ dright_any ⟨dn, num⟩ _)) | (go_at_call 64; exact Calls.far_all (by simp) (fun w' hb' => shas_any (partL c dn) num _ w' (HS3.out w' (((Below.refl _ w1).alloc (Nat.le_refl _) _).trans (hb'.mono (by omega))))))))
    refine wpQuiet_nil ?_
    intro wq hbq
    have hbw : Below w.heap.size w wq := (hB1.alloc (by omega) _).trans (hbq.mono (by omega))
    go_wp2_with fail
    go_ret
    exact ⟨ret_bool HR.out.symm, hbw⟩
end Go.Proofs.Ytililfcegeddaaa

namespace Go.Proofs.Ytililfcegeddaaa
open Go.RowKit

theorem dcsOk_of : ∀ (c : List Sp) (L : Int), c.Pairwise (fun a b => a.dc ≤ b.dc) → (∀ s ∈ c, L ≤ s.dc ∧ s.dc < 4) → dcsOk L c = true
  | [], _, _, _ => rfl
  | s :: c, L, hp, ha => by
    rw [List.pairwise_cons] at hp
    rw [dcsOk, dcsOk_of c s.dc hp.2 (fun x hx => ⟨hp.1 x hx, (ha x (by simp [hx])).2⟩)]
    have := ha s (by simp)
    simp [this]
theorem wholeK_dc (ls : Nat → List (Int × Int)) : ∀ k, ∀ s ∈ wholeK ls k, 0 ≤ s.dc ∧ s.dc < k
  | 0, s, h => by simp [wholeK] at h
  | k + 1, s, h => by
    rw [wholeK_succ] at h
    rcases List.mem_append.1 h with h | h
    · have := wholeK_dc ls k s h; omega
    · obtain ⟨r, _, rfl⟩ := List.mem_map.1 h
      show 0 ≤ (k : Int) ∧ (k : Int) < _
      omega
theorem wholeK_pw (ls : Nat → List (Int × Int)) : ∀ k, (wholeK ls k).Pairwise fun a b => a.dc ≤ b.dc
  | 0 => by simp [wholeK]
  | k + 1 => by
    rw [wholeK_succ, List.pairwise_append]
    refine ⟨wholeK_pw ls k, ?_, fun a ha b hb => ?_⟩
    · unfold spansL
      rw [List.pairwise_map]
      exact List.pairwise_of_forall fun _ _ => Int.le_refl _
    · obtain ⟨r, _, rfl⟩ := List.mem_map.1 hb
      have := wholeK_dc ls k a ha
      show a.dc ≤ (k : Int)
      omega
theorem partL_app (a b : List Sp) (dc : Int) : partL (a ++ b) dc = partL a dc ++ partL b dc := by simp [partL]
theorem partL_spans (l : List (Int × Int)) (d dc : Int) : partL (spansL d l) dc = if d = dc then l else [] := by
  unfold partL spansL
  rw [List.filter_map, List.map_map]
  by_cases e : d = dc
  · rw [if_pos e]
    rw [List.filter_eq_self.2 (fun x _ => by simp [e])]
    exact List.map_id'' (fun x => rfl) l
  · rw [if_neg e, List.filter_eq_nil_iff.2 (fun x _ => by simp [e])]; rfl
theorem partL_whole (ls : Nat → List (Int × Int)) : ∀ (k d : Nat), partL (wholeK ls k) d = if d < k then ls d else []
  | 0, d => by simp [wholeK, partL]
  | k + 1, d => by
    rw [wholeK_succ, partL_app, partL_whole ls k d, partL_spans]
    by_cases e : d = k
    · subst e; rw [if_neg (Nat.lt_irrefl _), if_pos rfl, if_pos (Nat.lt_succ_self _)]; rfl
    · rw [if_neg (show ¬ (k : Int) = (d : Int) by omega), List.append_nil]
      by_cases h : d < k
      · rw [if_pos h, if_pos (by omega)]
      · rw [if_neg h, if_neg (by omega)]
theorem apart_whole {ls : Nat → List (Int × Int)} (h : ∀ i, i < 4 → runsR none (ls i) = true) : apartB (wholeK ls 4) = true := by
  unfold apartB
  rw [dcsOk_of _ 0 (wholeK_pw ls 4) (fun s hs => by have := wholeK_dc ls 4 s hs; omega), Bool.true_and, List.all_eq_true]
  intro i hi
  have hi4 : i < 4 := List.mem_range.1 hi
  rw [partL_whole, if_pos hi4]
  exact h i hi4
/-- Two contexts put together of sets of the same numbers are the same. -/
theorem whole_eq {ls ms : Nat → List (Int × Int)} (h : ∀ i, i < 4 → ls i = ms i) : wholeK ls 4 = wholeK ms 4 := by
  unfold wholeK
  rw [List.flatMap_def, List.flatMap_def]
  congr 1
  apply List.map_congr_left
  intro i hi
  rw [h i (List.mem_range.1 hi)]

theorem ctxOf_whole (l : List Dt) : ctxOf l = wholeK (fun i => ofL (numsL l i)) 4 := rfl
theorem nums_ok {l : List Dt} (h : ∀ d ∈ l, d.right = true) (dc : Int) : ∀ x ∈ numsL l dc, 1 ≤ x ∧ x ≤ 1099511627776 := fun x hx => by
  unfold numsL at hx
  obtain ⟨d, hd, rfl⟩ := List.mem_map.1 hx
  have h1 := h d (List.mem_filter.1 hd).1
  simp [Dt.right] at h1
  omega
theorem apart_ctxOf {l : List Dt} (h : ∀ d ∈ l, d.right = true) : apartB (ctxOf l) = true := by
  rw [ctxOf_whole]
  exact apart_whole fun i _ => (ofL_right (nums_ok h i)).1
theorem part_ctxOf (l : List Dt) {d : Nat} (hd : d < 4) : partL (ctxOf l) d = ofL (numsL l d) := by
  rw [ctxOf_whole, partL_whole, if_pos hd]
/-- Of right contexts, context.Has tells what the reference's tells. -/
theorem cHas_eq {c : List Sp} (h : apartB c = true) (d : Dt) : cHas c d = hasC c d := by
  unfold cHas hasC sHas
  rw [h, Bool.true_and]
  cases hd : d.right with
  | false => rfl
  | true =>
    simp only [Bool.true_and]
    have hb : 0 ≤ d.dc ∧ d.dc < 4 := by simp [Dt.right] at hd; omega
    obtain ⟨n, hn⟩ : ∃ n : Nat, d.dc = (n : Int) := ⟨d.dc.toNat, by omega⟩
    unfold apartB at h
    rw [Bool.and_eq_true, List.all_eq_true] at h
    have := h.2 n (List.mem_range.2 (by omega))
    rw [hn, this]; rfl
theorem hasC_ctxOf {l : List Dt} (h : ∀ d ∈ l, d.right = true) {d : Dt} (hd : d.right = true) : hasC (ctxOf l) d = decide (d ∈ l) := by
  have hb : 0 ≤ d.dc ∧ d.dc < 4 := by simp [Dt.right] at hd; omega
  obtain ⟨n, hn⟩ : ∃ n : Nat, d.dc = (n : Int) := ⟨d.dc.toNat, by omega⟩
  unfold hasC
  rw [hd, Bool.true_and, hn, part_ctxOf l (by omega), Bool.eq_iff_iff, (ofL_right (nums_ok h n)).2, decide_eq_true_eq]
  unfold numsL
  rw [List.mem_map]
  constructor
  · rintro ⟨x, hx, he⟩
    obtain ⟨hx1, hx2⟩ := List.mem_filter.1 hx
    have : x = d := by cases x; cases d; simp at *; exact ⟨hx2.trans hn.symm, he⟩
    rw [← this]; exact hx1
  · intro hm
    exact ⟨d, List.mem_filter.2 ⟨hm, by simp [hn]⟩, rfl⟩
end Go.Proofs.Ytililfcegeddaaa

namespace Go.Proofs.Ytililfcegeddaaa
open Go.RowKit

theorem build_one_leaf (x : En) : buildL [([], x)] = .mk [x] [] := by
  unfold buildL deepL
  simp only [List.map_cons, List.map_nil, List.length_nil, List.sum_cons, List.sum_nil, Nat.add_zero]
  rw [buildT]
  have h1 : selEnts [([], x)] = [x] := by
    unfold selEnts
    have hi := lt_irrefl' x.dot
    simp [entsGo, bestE, selS, selC, okP, hi]
  have h2 : bestK [(([] : List ByteArray), x)] ByteArray.empty = ByteArray.empty := by simp [bestK, keyS, keyC]
  rw [h1]
  simp [kidsGo, h2]
theorem ofL_nil : ofL [] = [] := by simp [ofL, ofGo, nextL]
theorem ofL_one {n : Int} (h : 1 ≤ n ∧ n ≤ 1099511627776) : ofL [n] = [(n, n)] := by
  obtain ⟨h1, h2⟩ := ofL_right (ps := [n]) (fun x hx => by simp at hx; subst hx; exact h)
  refine runs_eq _ _ none none h1 ((runsR_one none (n, n)).2 ⟨⟨h.1, Int.le_refl _, h.2⟩, rfl⟩) fun m => ?_
  rw [Bool.eq_iff_iff, h2]
  simp [hasL, inR]
  omega
theorem right_bd {d : Dt} (h : d.right = true) : (0 ≤ d.dc ∧ d.dc < 4) ∧ 1 ≤ d.n ∧ d.n ≤ 1099511627776 := by simpa [Dt.right, and_assoc] using h
theorem ctxOf_one {d : Dt} (h : d.right = true) : ctxOf [d] = [⟨d.dc, d.n, d.n⟩] := by
  obtain ⟨h1, h2⟩ := right_bd h
  rw [ctxOf_whole]
  have hk : ∀ i : Nat, ofL (numsL [d] (i : Int)) = if d.dc = (i : Int) then [(d.n, d.n)] else [] := fun i => by
    by_cases e : d.dc = (i : Int)
    · rw [if_pos e, show numsL [d] (i : Int) = [d.n] by simp [numsL, e], ofL_one h2]
    · rw [if_neg e, show numsL [d] (i : Int) = [] by simp [numsL, e], ofL_nil]
  unfold wholeK
  simp only [hk]
  rcases (show d.dc = 0 ∨ d.dc = 1 ∨ d.dc = 2 ∨ d.dc = 3 by omega) with e | e | e | e <;> simp [e, List.range_succ, spansL]
theorem ctxBy_whole (a b : List Sp) (how : Int) : ctxBy a b how = wholeK (fun i => byL (partL a i) (partL b i) how) 4 := rfl
theorem runs_ok : ∀ (l : List (Int × Int)) (p : Option Int), runsR p l = true → ∀ r ∈ l, runOk r
  | x :: l, p, h, r, hr => by
    rw [runsR_iff] at h
    rcases List.mem_cons.1 hr with rfl | hr
    · exact h.1
    · exact runs_ok l _ h.2.2 r hr
theorem apart_part {c : List Sp} (h : apartB c = true) {i : Nat} (hi : i < 4) : runsR none (partL c i) = true := by
  unfold apartB at h
  rw [Bool.and_eq_true, List.all_eq_true] at h
  exact h.2 i (List.mem_range.2 hi)
theorem apart_dcs : ∀ (c : List Sp) (L : Int), dcsOk L c = true → ∀ s ∈ c, L ≤ s.dc ∧ s.dc < 4
  | s :: c, L, h, x, hx => by
    rw [dcsOk, Bool.and_eq_true, Bool.and_eq_true, decide_eq_true_eq, decide_eq_true_eq] at h
    rcases List.mem_cons.1 hx with rfl | hx
    · exact ⟨h.1.1, h.1.2⟩
    · have := apart_dcs c s.dc h.2 x hx; exact ⟨by omega, this.2⟩
theorem dcs_split : ∀ (c : List Sp) (L : Nat), dcsOk (L : Int) c = true → ∀ n, L + n = 4 → c = (List.range' L n).flatMap fun (dc : Nat) => spansL (dc : Int) (partL c (dc : Int))
  | c, L, h, 0, hn => by
    cases c with
    | nil => rfl
    | cons s c => have := apart_dcs _ _ h s (by simp); omega
  | c, L, h, n + 1, hn => by
    rw [List.range'_succ, List.flatMap_cons]
    have key : ∀ (c : List Sp) (L : Int), dcsOk L c = true → ∃ c', c = spansL L (partL c L) ++ c' ∧ dcsOk (L + 1) c' = true := by
      intro c
      induction c with
      | nil => intro L _; exact ⟨[], by simp [partL, spansL], rfl⟩
      | cons s c ih =>
        intro L h
        rw [dcsOk, Bool.and_eq_true, Bool.and_eq_true, decide_eq_true_eq, decide_eq_true_eq] at h
        obtain ⟨⟨h1, h2⟩, h3⟩ := h
        by_cases e : s.dc = L
        · rw [e] at h3
          obtain ⟨c', hc, hd⟩ := ih L h3
          refine ⟨c', ?_, hd⟩
          have hp : partL (s :: c) L = (s.fr, s.hi) :: partL c L := by simp [partL, e]
          rw [hp]
          conv => lhs; rw [hc]
          unfold spansL
          rw [List.map_cons, List.cons_append]
          congr 1
          cases s; simp at e; simp [e]
        · refine ⟨s :: c, ?_, ?_⟩
          · have hp : partL (s :: c) L = [] := by
              unfold partL
              rw [List.filter_eq_nil_iff.2, List.map_nil]
              intro x hx
              have : s.dc ≤ x.dc := by
                rcases List.mem_cons.1 hx with rfl | hx
                · exact Int.le_refl _
                · exact (apart_dcs c s.dc h3 x hx).1
              simp; omega
            rw [hp]; rfl
          · rw [dcsOk, h3]; simp; omega
    obtain ⟨c', hc, hd⟩ := key c L h
    have ih := dcs_split c' (L + 1) (by exact_mod_cast hd) n (by omega)
    have hpc : ∀ dc : Nat, L + 1 ≤ dc → partL c dc = partL c' dc := fun dc hdc => by
      rw [hc, partL_app, partL_spans, if_neg (by omega)]; rfl
    conv => lhs; rw [hc, ih]
    congr 1
    rw [List.flatMap_def, List.flatMap_def]
    congr 1
    apply List.map_congr_left
    intro i hi
    rw [hpc i (by have := List.mem_range'_1.1 hi; omega)]
/-- A right context is put together of its parts. -/
theorem whole_part {c : List Sp} (h : apartB c = true) : wholeK (fun i => partL c i) 4 = c := by
  unfold apartB at h
  rw [Bool.and_eq_true] at h
  have := dcs_split c 0 h.1 4 rfl
  unfold wholeK
  rw [List.range_eq_range']
  exact this.symm
/-- The reference's union with nothing. -/
theorem union_nil {c : List Sp} (h : apartB c = true) : ctxBy [] c 0 = c := by
  rw [ctxBy_whole]
  conv => rhs; rw [← whole_part h]
  refine whole_eq fun i hi => ?_
  have hr := apart_part h hi
  have ha : ∀ r ∈ partL ([] : List Sp) i, runOk r := fun r hr => by simp [partL] at hr
  obtain ⟨h1, h2⟩ := byL_right (a := partL ([] : List Sp) i) (b := partL c i) 0 ha (runs_ok _ _ hr)
  refine runs_eq _ _ none none h1 hr fun n => ?_
  rw [h2]
  simp [inn, hasL, partL]
theorem put_ctx {d : Dt} (h : d.right = true) : ctxBy [] [⟨d.dc, d.n, d.n⟩] 0 = ctxOf [d] := by
  rw [← ctxOf_one h]
  exact union_nil (apart_ctxOf fun x hx => by simp at hx; subst hx; exact h)
end Go.Proofs.Ytililfcegeddaaa

namespace Go.Proofs
open Go.Shelf
def Try.sortRun_ren : Go.Shelf.Ren := ⟨fun | 6 => 76 | 15 => 96 | 14 => 95 | 28 => 116 | 29 => 117 | 20 => 108 | 21 => 109 | 22 => 110 | 23 => 111 | 24 => 112 | 25 => 113 | 26 => 114 | 27 => 115 | 46 => 122 | 47 => 123 | 48 => 124 | 49 => 125 | 50 => 126 | 57 => 128 | n => n, fun | 22 => 76 | 24 => 107 | 25 => 110 | 3 => 3 | 39 => 127 | 0 => 0 | 53 => 145 | 55 => 147 | 4 => 4 | 46 => 138 | 45 => 137 | 50 => 142 | 5 => 5 | 9 => 9 | 66 => 152 | 70 => 156 | 76 => 160 | 77 => 161 | n => n, fun | n => n⟩
theorem Try.sortRun : Go.Proofs.SlLaysF0.n6 Try.prog Try.sortRun_ren := {
  mixed := by kernel_rfl
  f6 := ⟨Try.f76.name, by decide, Try.func76.trans (congrArg some (by kernel_rfl))⟩
  f14 := ⟨Try.f95.name, by decide, Try.func95.trans (congrArg some (by kernel_rfl))⟩
  f15 := Try.func96.trans (congrArg some (by kernel_rfl))
  f20 := ⟨Try.f108.name, by decide, Try.func108.trans (congrArg some (by kernel_rfl))⟩
  f21 := ⟨Try.f109.name, by decide, Try.func109.trans (congrArg some (by kernel_rfl))⟩
  f22 := ⟨Try.f110.name, by decide, Try.func110.trans (congrArg some (by kernel_rfl))⟩
  f23 := ⟨Try.f111.name, by decide, Try.func111.trans (congrArg some (by kernel_rfl))⟩
  f24 := ⟨Try.f112.name, by decide, Try.func112.trans (congrArg some (by kernel_rfl))⟩
  f25 := ⟨Try.f113.name, by decide, Try.func113.trans (congrArg some (by kernel_rfl))⟩
  f26 := ⟨Try.f114.name, by decide, Try.func114.trans (congrArg some (by kernel_rfl))⟩
  f27 := ⟨Try.f115.name, by decide, Try.func115.trans (congrArg some (by kernel_rfl))⟩
  f28 := Try.func116.trans (congrArg some (by kernel_rfl))
  f29 := Try.func117.trans (congrArg some (by kernel_rfl))
  f46 := ⟨Try.f122.name, by decide, Try.func122.trans (congrArg some (by kernel_rfl))⟩
  f47 := Try.func123.trans (congrArg some (by kernel_rfl))
  f48 := Try.func124.trans (congrArg some (by kernel_rfl))
  f49 := ⟨Try.f125.name, by decide, Try.func125.trans (congrArg some (by kernel_rfl))⟩
  f50 := ⟨Try.f126.name, by decide, Try.func126.trans (congrArg some (by kernel_rfl))⟩
  f57 := ⟨Try.f128.name, by decide, Try.func128.trans (congrArg some (by kernel_rfl))⟩
  t0 := Try.underlying0
  a0 := Try.isAgg0
  z0 := Try.sizeOf0
  v0 := Try.zeroValue0
  t3 := Try.underlying3
  a3 := Try.isAgg3
  z3 := Try.sizeOf3
  v3 := Try.zeroValue3
  t4 := Try.underlying4
  a4 := Try.isAgg4
  z4 := Try.sizeOf4
  v4 := Try.zeroValue4
  t5 := Try.underlying5
  a5 := Try.isAgg5
  z5 := Try.sizeOf5
  v5 := Try.zeroValue5
  t9 := Try.underlying9
  a9 := Try.isAgg9
  z9 := Try.sizeOf9
  v9 := Try.zeroValue9
  t22 := Try.underlying76
  a22 := Try.isAgg76
  z22 := Try.sizeOf76
  v22 := Try.zeroValue76
  t25 := Try.underlying110
  a25 := Try.isAgg110
  z25 := Try.sizeOf110
  v25 := Try.zeroValue110
  t39 := Try.underlying127
  a39 := Try.isAgg127
  z39 := Try.sizeOf127
  v39 := Try.zeroValue127
  t45 := Try.underlying137
  a45 := Try.isAgg137
  z45 := Try.sizeOf137
  v45 := Try.zeroValue137
  t46 := Try.underlying138
  a46 := Try.isAgg138
  z46 := Try.sizeOf138
  v46 := Try.zeroValue138
  t50 := Try.underlying142
  a50 := Try.isAgg142
  z50 := Try.sizeOf142
  v50 := Try.zeroValue142
  t53 := Try.underlying145
  a53 := Try.isAgg145
  z53 := Try.sizeOf145
  v53 := Try.zeroValue145
  t55 := Try.underlying147
  a55 := Try.isAgg147
  z55 := Try.sizeOf147
  v55 := Try.zeroValue147
  t66 := Try.underlying152
  a66 := Try.isAgg152
  z66 := Try.sizeOf152
  v66 := Try.zeroValue152
  t70 := Try.underlying156
  a70 := Try.isAgg156
  z70 := Try.sizeOf156
  v70 := Try.zeroValue156
  t76 := Try.underlying160
  a76 := Try.isAgg160
  z76 := Try.sizeOf160
  v76 := Try.zeroValue160
  t77 := Try.underlying161
  a77 := Try.isAgg161
  z77 := Try.sizeOf161
  v77 := Try.zeroValue161 }
end Go.Proofs

namespace Go.Proofs.Ytililfcegeddaaa
open Go.RowKit Go.Sort
set_option maxRecDepth 100000

theorem heap_rowK {w : World} {g n : Nat} {os : Array Obj} {cur : Array Value} {e : TypeId} {fr : Nat × Nat} (F : Array Value) (hb : w.heap[g]? = some (.cells cur e fr)) :
    (grow (putRow id (Sort.ahead w n) g 0 F) os).heap[g]? = some (.cells (putCells id 0 F cur) e fr) := by
  have hg : g < w.heap.size := (Array.getElem?_eq_some_iff.1 hb).1
  rw [heap_grow_old _ _ (by simpa using hg)]
  simp [putRow, mapBlock, Sort.ahead, Array.getElem?_modify, hb, onCells]
theorem grownBy_rowK {w : World} {g n : Nat} {os : Array Obj} (F : Array Value) : w.grownBy (grow (putRow id (Sort.ahead w n) g 0 F) os) (some g) := by
  refine ⟨rfl, rfl, rfl, by simp, fun k hk hne => ?_⟩
  rw [heap_grow_old _ _ (by simpa using hk)]
  have : g ≠ k := fun e => hne (by rw [e])
  simp [putRow, mapBlock, Sort.ahead, Array.getElem?_modify, this]

def encR {α : Type} (en : α → Int × Int) (x : α) : List Value := [.int .i64 (en x).1, .int .i64 (en x).2]
theorem flatten_two {α : Type} [Inhabited α] (en : α → Int × Int) (l : List α) (j : Nat) (hj : j < l.length * 2) : (l.map (encR en)).flatten[j]? = some ((encR en l[j / 2]!)[j % 2]!) := by
  have hm : j % 2 < 2 := Nat.mod_lt _ (by omega)
  have hd : j = j / 2 * 2 + j % 2 := by omega
  have hf := flat_at (sz := 2) (l.map (encR en)) (fun cs h => by obtain ⟨x, _, rfl⟩ := List.mem_map.1 h; rfl) (j / 2) (j % 2) hm
  rw [← hd] at hf
  have hlt : j / 2 < l.length := by omega
  rw [hf, List.getElem?_map, List.getElem?_eq_getElem hlt]
  simp only [Option.map_some, Option.bind_some]
  rw [getElem!_pos l (j / 2) hlt]
  rcases (show j % 2 = 0 ∨ j % 2 = 1 by omega) with e | e <;> rw [e] <;> rfl

theorem sortRun_any {α : Type} [Inhabited α] (en : α → Int × Int) (cf : α → α → Int) (hO : SWO (ltOf cf)) (g : Nat) (eg : ∀ args w, (callFunc g args).run Try.prog w = .ok (.enter g args) w)
    (hc : ∀ (x y : α) (W : World), Calls Try.prog g #[.agg #[.int .i64 (en x).1, .int .i64 (en x).2], .agg #[.int .i64 (en y).1, .int .i64 (en y).2]] W fun e w' => e = .returned (.int .i64 (cf x y)) ∧ ∃ q os', w' = grow (W.drewN q) os')
    (ds : List α) (v : Value) (w : World) (base : Nat) (h : OwnP w base 107 2 RuE v (ds.map en)) (hl : ds.length ≤ 900000) (hbase : base ≤ w.heap.size) :
    Calls Try.prog 76 #[v, .func (.func g) #[] #[]] w fun e w' => e = .returned (.tuple #[]) ∧
      ∃ ts : List α, ts.Perm ds ∧ ts.Pairwise (fun a b => 0 ≤ cf b a) ∧ OwnP w' base 107 2 RuE v (ts.map en) ∧ Below base w w' := by
  obtain ⟨css, h1, h2, h3⟩ := h
  rcases h3 with ⟨rfl, hn⟩ | ⟨b, cap, cur, rfl, hb, hg, hnc, hm, hcs, ht⟩
  · obtain rfl : ds = [] := by simpa using hn
    refine (AnyF.slices_SortFunc_none Try.sortRun none 0 (.func (.func g) #[] #[]) w).mono ?_
    rintro e w' ⟨rfl, rfl⟩
    exact ⟨rfl, [], List.Perm.refl _, List.Pairwise.nil, OwnP.nil, Below.refl _ _⟩
  · have hlt : b < w.heap.size := (Array.getElem?_eq_some_iff.1 hg).1
    have hlen : (ds.map en).length = ds.length := List.length_map ..
    rw [hlen] at h2 hnc ht ⊢
    have hcss : css = ds.map (encR en) := by
      apply List.ext_getElem?
      intro j
      by_cases hj : j < ds.length
      · obtain ⟨cs, hcs, ⟨hcv, _⟩, _⟩ := h1.2 j (en ds[j]) (by rw [List.getElem?_map, List.getElem?_eq_getElem hj]; rfl)
        rw [hcs, List.getElem?_map, List.getElem?_eq_getElem hj, hcv]; rfl
      · rw [List.getElem?_eq_none (by rw [h1.1, hlen]; omega), List.getElem?_eq_none (by simp; omega)]
    have hok : ∀ x ∈ ds, I64 (en x).1 ∧ I64 (en x).2 := fun x hx => by
      obtain ⟨j, hj⟩ := List.getElem?_of_mem hx
      obtain ⟨cs, _, ⟨_, hr⟩, _⟩ := h1.2 j (en x) (by rw [List.getElem?_map, hj]; rfl)
      exact hr
    have hH : HoldsK (encR en) 2 w b 0 ds.toArray := by
      intro j hj
      have hj : j < ds.length * 2 := by simpa using hj
      refine ⟨?_, by simp [World.frozen?, hg]⟩
      rw [get_flatK _ _ _ _ (by simpa using hj), Nat.zero_add, show (w.cell? ⟨b, j, none⟩) = cur[j]? from by simp [World.cell?, hg]]
      have hf := flatten_two en ds j hj
      rw [← hcss, ← ht, List.getElem?_take_of_lt hj, Array.getElem?_toList] at hf
      rw [hf]; simp
    have hcon := AnyQ.slices_SortFunc Try.sortRun 2 Try.isAgg107 Try.sizeOf107 (encR en) (fun _ => rfl) (fun x u hu => by simp [encR] at hu; rcases hu with rfl | rfl <;> rfl) cf hO g #[] b 0 cap ds.toArray w eg
      (fun m os dk _ x y => hc x y _) hH hlt (by simp; omega)
    have hcon' : Calls Try.prog 76 #[.slice (some ⟨b, 0, none⟩) ds.length cap, .func (.func g) #[] #[]] w _ := hcon
    refine hcon'.mono ?_
    rintro e w' ⟨rfl, d', n, os, hp, hs, rfl⟩
    have hsz : d'.size = ds.length := by simpa using hp.1
    have hperm : d'.toList.Perm ds := by
      have := hp.2.2
      rw [show ds.toArray.extract 0 ds.toArray.size = ds.toArray by simp, show d'.extract 0 ds.toArray.size = d' by rw [show ds.toArray.size = d'.size by simp [hsz]]; simp] at this
      simpa using this
    refine ⟨rfl, d'.toList, hperm, ?_, ⟨d'.toList.map (encR en), ⟨by simp, fun j x hx => ?_⟩, ?_⟩, ?_⟩
    · rw [List.pairwise_iff_getElem]
      intro i j hi hj hij
      have hj' : j < d'.size := by simpa using hj
      have h4 := hs i j (Nat.zero_le _) hij (by simp; omega)
      rw [getElem!_pos d' i (by omega), getElem!_pos d' j hj'] at h4
      simp only [ltOf, decide_eq_false_iff_not, Int.not_lt] at h4
      simpa using h4
    · rw [List.getElem?_map] at hx
      obtain ⟨y, hy, rfl⟩ := Option.map_eq_some_iff.1 hx
      refine ⟨encR en y, by rw [List.getElem?_map, hy]; rfl, ⟨rfl, hok y (hperm.subset (List.mem_of_getElem? hy))⟩, rfl⟩
    · have hlm : (d'.toList.map en).length = ds.length := by simp [hsz]
      rw [hlm]
      refine ⟨by rw [flat_len (sz := 2) _ (fun cs h => by obtain ⟨x, _, rfl⟩ := List.mem_map.1 h; rfl)]; simp [hsz], .inr ⟨b, cap, _, rfl, hb, heap_rowK _ hg, hnc, hm, by simp [putCells, hcs], ?_⟩⟩
      apply List.ext_getElem?
      intro j
      by_cases hj : j < ds.length * 2
      · have hjc : j < cur.size := by rw [hcs]; have := Nat.mul_le_mul_right 2 hnc; omega
        rw [List.getElem?_take_of_lt hj, Array.getElem?_toList, flatten_two en d'.toList j (by simp [hsz]; omega)]
        simp only [putCells, Array.getElem?_mapIdx, Array.getElem?_eq_getElem hjc, Option.map_some]
        rw [if_pos ⟨Nat.zero_le _, by simp [hsz]; omega⟩, Nat.sub_zero, id, get_flatK _ _ _ _ (by rw [hsz]; exact hj)]
        simp only [Array.getElem!_toList]
      · rw [List.getElem?_take_eq_none (by omega), List.getElem?_eq_none (by rw [flat_len (sz := 2) _ (fun cs h => by obtain ⟨x, _, rfl⟩ := List.mem_map.1 h; rfl)]; simp [hsz]; omega)]
    · exact (Below.refl base w).grown (grownBy_rowK _) hbase (fun g hg => by cases hg; exact hb)
end Go.Proofs.Ytililfcegeddaaa

namespace Go.Proofs.Ytililfcegeddaaa
open Go.RowKit Go.Sort
set_option maxRecDepth 100000

theorem cmpLo_lt (x y : Int) : ltOf cmpI x y = decide (x < y) := by
  unfold ltOf cmpI
  by_cases h1 : x < y
  · simp [h1]
  · by_cases h2 : y < x <;> simp [h1, h2]
theorem swoI : SWO (ltOf cmpI) where
  irrefl x := by rw [cmpLo_lt]; simp
  trans x y z h1 h2 := by rw [cmpLo_lt] at *; simp at *; omega
  ntrans x y z h1 h2 := by rw [cmpLo_lt] at *; simp at *; omega
theorem cmpI_nonneg (a b : Int) : 0 ≤ cmpI b a ↔ a ≤ b := by
  unfold cmpI; split <;> (try split) <;> omega

theorem ofClo_any (x y : Int × Int) (W : World) : Calls Try.prog 77 #[.agg #[.int .i64 x.1, .int .i64 x.2], .agg #[.int .i64 y.1, .int .i64 y.2]] W fun e w' => e = .returned (.int .i64 (cmpI x.1 y.1)) ∧ ∃ q os', w' = grow (W.drewN q) os' := by
  go_enter Try.func77, Try.ntmps77
  go_wp2_with (go_at_call 78; refine (cmp64_any _ _ _).mono ?_; rintro e w' ⟨rfl, rfl⟩)
  go_ret
  exact ⟨rfl, 0, _, by rw [alloc_eq_grow, alloc_eq_grow, grow_grow]; rfl⟩

def dup (n : Int) : Int × Int := (n, n)
/-- Sorted numbers, joined: the reference's set. -/
theorem join_of {ns ts : List Int} (hn : ∀ x ∈ ns, numB x = true) (hp : ts.Perm ns) (hs : ts.Pairwise fun a b => a ≤ b) : joinL (ts.map dup) = ofL ns := by
  have hn' : ∀ x ∈ ns, 1 ≤ x ∧ x ≤ 1099511627776 := fun x hx => by simpa [numB] using hn x hx
  obtain ⟨a1, a2⟩ := ofL_right hn'
  obtain ⟨b1, b2⟩ := joinL_right (l := ts.map dup) (fun r hr => by
    obtain ⟨x, hx, rfl⟩ := List.mem_map.1 hr
    have := hn' x (hp.subset hx)
    exact ⟨this.1, Int.le_refl _, this.2⟩) (List.pairwise_map.2 hs)
  refine runs_eq _ _ none none b1 a1 fun n => ?_
  rw [b2, Bool.eq_iff_iff, a2]
  unfold hasL
  rw [List.any_eq_true]
  constructor
  · rintro ⟨r, hr, h⟩
    obtain ⟨x, hx, rfl⟩ := List.mem_map.1 hr
    have h2 : x ≤ n ∧ n ≤ x := by
      have h3 : (decide (x ≤ n) && decide (n ≤ x)) = true := h
      simpa using h3
    obtain rfl : n = x := by omega
    exact hp.subset hx
  · intro h
    exact ⟨dup n, List.mem_map.2 ⟨n, hp.symm.subset h, rfl⟩, by simp [dup, inR]⟩

set_option maxHeartbeats 1000000 in
theorem sof_any (ns : List Int) (v : Value) (w : World) (h : SlP w w.heap.size 1 InE v ns) (hn : ∀ x ∈ ns, numB x = true) (hN : ns.length ≤ 400000) :
    Calls Try.prog 52 #[v] w fun e w' => ∃ v', e = .returned (.tuple #[v', .int .i64 0]) ∧ OwnP w' w.heap.size 107 2 RuE v' (ofL ns) ∧ Below w.heap.size w w' := by
  obtain ⟨A, c, rfl, b1, b2, b3⟩ := h
  unfold Big at b2
  go_enter Try.func52, Try.ntmps52
  go_wp2_with fail
  go_loopw [4, 9] (fun v i wr => ∃ k : Nat, k ≤ ns.length ∧ i = .int .i64 k ∧ OwnP wr w.heap.size 107 2 RuE v ((ns.take k).map dup) ∧ Below w.heap.size w wr) (fun _ i _ => ns.length - (intOf i).toNat)
  case atStart => exact ⟨0, Nat.zero_le _, rfl, OwnP.nil, Below.refl _ _⟩
  case round =>
    obtain ⟨k, hk, rfl, hown, hb⟩ := hrel
    have hsz := hb.size
    by_cases hlt : k < ns.length
    · obtain ⟨x, hx⟩ : ∃ x, ns[k]? = some x := ⟨_, List.getElem?_eq_getElem hlt⟩
      obtain ⟨b, off, rfl, hbB, hc⟩ := b3 (by rintro rfl; simp at hlt)
      obtain ⟨cs, ⟨rfl, hok⟩, _, hu⟩ := hc k _ hx
      have e0 : wr.cell? ⟨b, off + k, none⟩ = some (.int .i64 x) := (hb.cell hbB).trans (by simpa using hu 0 _ rfl)
      have HB := hid (hn x (List.mem_of_getElem? hx))
      have HX : Hid ((ns.take (k + 1)).map dup = (ns.take k).map dup ++ [dup x]) := by unfold Hid; rw [take_succ' hx, List.map_append]; rfl
      have HRE : Hid (RuE (dup x) [.int .i64 x, .int .i64 x]) := ⟨rfl, hok, hok⟩
      have HL : Hid (((ns.take k).map dup).length + [dup x].length ≤ Few) := by unfold Hid Few; simp; omega
      clear hu hx hc b3 hok
      go_wp2_with (first | (go_at_call 75; refine (snum_any _ _).mono ?_; rw [HB.out]; rintro e w' ⟨rfl, rfl⟩) | (at_builtin; with_reducible refine wpList_few rfl (.tmp 16) (.tmp 20) _ rfl eiRun (by decide) (by decide) (fun _ _ h => h.one) rfl (hown.alloc _) rfl (SlP.one (x := dup x) HRE.out rfl _ rfl) HL.out (by rw [World.size_alloc]; omega) ?_; intro v1 w1 hown1 hb1 _))
      go_roundw
      case rel => exact ⟨k + 1, by omega, by go_num, by rw [HX.out]; exact hown1, hb.trans (((Below.refl _ _).alloc (by omega) _).trans hb1)⟩
      case measure => simp [intOf]; omega
    · obtain rfl : k = ns.length := by omega
      rw [List.take_of_length_le (Nat.le_refl _)] at hown
      have HC : Hid (∀ W base v, OwnP W base 107 2 RuE v (ns.map dup) → base ≤ W.heap.size → Calls Try.prog 76 #[v, .func (.func 77) #[] #[]] W fun e w' => e = .returned (.tuple #[]) ∧
        ∃ ts : List Int, ts.Perm ns ∧ ts.Pairwise (fun a b => a ≤ b) ∧ OwnP w' base 107 2 RuE v (ts.map dup) ∧ Below base W w') := fun W base v ho hbs =>
          (sortRun_any dup cmpI swoI 77 (enters_of Try.func77 (by kernel_rfl) rfl) (fun x y W => ofClo_any (dup x) (dup y) W) ns v W base ho (by omega) hbs).mono fun e w' ⟨he, ts, h1, h2, h3, h4⟩ =>
            ⟨he, ts, h1, h2.imp fun h => (cmpI_nonneg _ _).1 h, h3, h4⟩
      have HN := hid hn
      clear hn b3
      go_wp2_with fail
      refine (HC.out _ _ _ hown hsz).mono ?_
      rintro e w1 ⟨rfl, ts, hp, hs, ho1, hb1⟩
      have HJ := hid (join_of HN.out hp hs)
      have hs1 := hb1.size
      have hlen : ts.length = ns.length := hp.length_eq
      have hsl := ho1.sl (by rw [List.length_map, hlen]; unfold Big; omega)
      have hro : RunsOk (ts.map dup) := fun r hr => by
        obtain ⟨x, hx, rfl⟩ := List.mem_map.1 hr
        have := HN.out x (hp.subset hx)
        simp [numB] at this
        simp [dup]; omega
      have HRO := hid hro
      have HL1 : Hid ((ts.map dup).length ≤ 900000) := by unfold Hid; rw [List.length_map, hlen]; omega
      clear hp hs hro hlen ho1 hown
      go_wp2_with fail
      refine (sjoined_any (ts.map dup) _ w1 hsl HL1.out HRO.out).mono ?_
      rintro e w2 ⟨v2, rfl, ho2, hb2⟩
      rw [HJ.out] at ho2
      go_wp2_with fail
      go_ret2
      exact ⟨_, rfl, ho2.mono (by omega), (hb.trans hb1).trans (hb2.mono (by omega))⟩
end Go.Proofs.Ytililfcegeddaaa

namespace Go.Proofs.Ytililfcegeddaaa
open Go.RowKit Go.Sort
set_option maxRecDepth 100000

def cmpR (x y : Int × Int) : Int := cmpI x.1 y.1
theorem cmpR_lt (x y : Int × Int) : ltOf cmpR x y = decide (x.1 < y.1) := cmpLo_lt x.1 y.1
theorem swoR : SWO (ltOf cmpR) where
  irrefl x := by rw [cmpR_lt]; simp
  trans x y z h1 h2 := by rw [cmpR_lt] at *; simp at *; omega
  ntrans x y z h1 h2 := by rw [cmpR_lt] at *; simp at *; omega
theorem unionClo_any (x y : Int × Int) (W : World) : Calls Try.prog 103 #[.agg #[.int .i64 x.1, .int .i64 x.2], .agg #[.int .i64 y.1, .int .i64 y.2]] W fun e w' => e = .returned (.int .i64 (cmpR x y)) ∧ ∃ q os', w' = grow (W.drewN q) os' := by
  go_enter Try.func103, Try.ntmps103
  go_wp2_with (go_at_call 78; refine (cmp64_any _ _ _).mono ?_; rintro e w' ⟨rfl, rfl⟩)
  go_ret
  exact ⟨rfl, 0, _, by rw [alloc_eq_grow, alloc_eq_grow, grow_grow]; rfl⟩

theorem runsOk_of {l : List (Int × Int)} (h : ∀ r ∈ l, runOk r) : RunsOk l := fun r hr => by
  have := h r hr; unfold runOk at this; omega
theorem runs_ok' : ∀ (l : List (Int × Int)) (p : Option Int), runsR p l = true → ∀ r ∈ l, runOk r
  | x :: l, p, h, r, hr => by
    rw [runsR_iff] at h
    rcases List.mem_cons.1 hr with rfl | hr
    · exact h.1
    · exact runs_ok' l _ h.2.2 r hr
/-- Runs of both, sorted and joined: the reference's union. -/
theorem join_union {a b ts : List (Int × Int)} (ha : runsR none a = true) (hb : runsR none b = true) (hp : ts.Perm (a ++ b)) (hs : ts.Pairwise fun x y => x.1 ≤ y.1) : joinL ts = byL a b 0 := by
  have oa := runs_ok' a none ha
  have ob := runs_ok' b none hb
  have ot : ∀ r ∈ ts, runOk r := fun r hr => by
    rcases List.mem_append.1 (hp.subset hr) with h | h
    · exact oa r h
    · exact ob r h
  obtain ⟨a1, a2⟩ := joinL_right ot hs
  obtain ⟨b1, b2⟩ := byL_right 0 oa ob
  refine runs_eq _ _ none none a1 b1 fun n => ?_
  rw [a2, b2]
  have : hasL ts n = hasL (a ++ b) n := by
    unfold hasL
    rw [Bool.eq_iff_iff, List.any_eq_true, List.any_eq_true]
    exact ⟨fun ⟨r, h1, h2⟩ => ⟨r, hp.subset h1, h2⟩, fun ⟨r, h1, h2⟩ => ⟨r, hp.symm.subset h1, h2⟩⟩
  rw [this, hasL_app]
  simp [inn]

theorem sboth_any (a b : List (Int × Int)) (va vb : Value) (w : World) (ha : SlP w w.heap.size 2 RuE va a) (hb : SlP w w.heap.size 2 RuE vb b) :
    Calls Try.prog 101 #[va, vb] w fun e w' => e = .returned (.bool (runsR none a && runsR none b)) ∧ Below w.heap.size w w' := by
  have HB := hid hb
  go_enter Try.func101, Try.ntmps101
  go_wp2_with fail
  refine (sright_any a va w ha).mono ?_
  rintro e w1 ⟨rfl, hb1⟩
  have hs1 := hb1.size
  cases hr : runsR none a
  · have HR := hid hr
    clear hr
    go_wp2_with fail
    go_ret
    exact ⟨ret_bool (by rw [HR.out]; rfl), hb1⟩
  · have HR := hid hr
    clear hr
    go_wp2_with fail
    refine (sright_any b vb w1 (HB.out.imp hb1 hs1 fun _ _ _ h => h)).mono ?_
    rintro e w2 ⟨rfl, hb2⟩
    go_wp2_with fail
    go_ret
    exact ⟨ret_bool (by rw [HR.out]; rfl), hb1.trans (hb2.mono hs1)⟩

set_option maxHeartbeats 2000000 in
theorem sunion_any (a b : List (Int × Int)) (va vb : Value) (w : World) (ha : SlP w w.heap.size 2 RuE va a) (hb : SlP w w.heap.size 2 RuE vb b) (hra : runsR none a = true) (hrb : runsR none b = true) (hN : a.length ≤ 300000) (hN' : b.length ≤ 300000) :
    Calls Try.prog 87 #[va, vb] w (RetO w 107 2 (fun _ => RuE) (byL a b 0)) := by
  have HA := hid ha
  have HB := hid hb
  have HRA := hid hra
  have HRB := hid hrb
  have hor : RunsOk (a ++ b) := runsOk_of fun r hr => by
    rcases List.mem_append.1 hr with h | h
    · exact runs_ok' a none hra r h
    · exact runs_ok' b none hrb r h
  have HOR := hid hor
  obtain ⟨A1, c1, rfl, _⟩ := ha
  obtain ⟨A2, c2, rfl, _⟩ := hb
  clear hra hrb hor
  go_enter Try.func87, Try.ntmps87
  go_wp2_with fail
  refine (sboth_any a b _ _ w HA.out HB.out).mono ?_
  rw [HRA.out, HRB.out]
  rintro e w1 ⟨rfl, hb1⟩
  have hs1 := hb1.size
  go_wp2_with fail
  refine (concat_any a b (.slice A1 a.length c1) (.slice A2 b.length c2) w1.heap.size _ (by simp) (by simp) (by simp) (HA.out.imp (hb1.alloc hs1 _) (by simp; omega) fun _ _ _ h => h) (HB.out.imp (hb1.alloc hs1 _) (by simp; omega) fun _ _ _ h => h) hN hN').mono ?_
  rintro e w2 ⟨v2, rfl, ho2, hb2⟩
  have hs2 := hb2.size
  simp only [World.size_alloc] at hs2
  have hB2 : Below w.heap.size w w2 := (hb1.alloc hs1 _).trans (hb2.mono (by simp; omega))
  have ho2' : OwnP w2 (w1.heap.size + 1) 107 2 RuE v2 ((a ++ b).map id) := by rw [List.map_id]; exact ho2.mono (by simp)
  go_wp2_with fail
  refine (sortRun_any id cmpR swoR 103 (enters_of Try.func103 (by kernel_rfl) rfl) (fun x y W => unionClo_any x y W) (a ++ b) v2 w2 _ ho2' (by simp; omega) hs2).mono ?_
  rintro e w3 ⟨rfl, ts, hp, hs, ho3, hb3⟩
  rw [List.map_id] at ho3
  have hs3 := hb3.size
  have hJ := join_union HRA.out HRB.out hp (hs.imp fun h => (cmpI_nonneg _ _).1 h)
  have HJ := hid hJ
  have hlen : ts.length = a.length + b.length := by rw [hp.length_eq, List.length_append]
  have hsl := ho3.sl (by rw [hlen]; unfold Big; omega)
  have HSL := hid hsl
  have HTR : Hid (RunsOk ts) := fun r hr => HOR.out r (hp.subset hr)
  have hl3 : ts.length ≤ 900000 := by omega
  clear hp hs ho3 hJ hsl ho2 ho2' hlen
  go_wp2_with fail
  refine (sjoined_any ts _ w3 HSL.out hl3 HTR.out).mono ?_
  rintro e w4 ⟨v4, rfl, ho4, hb4⟩
  rw [HJ.out] at ho4
  go_wp2_with fail
  go_ret
  exact ⟨_, rfl, ho4.mono (by omega), (hB2.trans (hb3.mono (by omega))).trans (hb4.mono (by omega))⟩
end Go.Proofs.Ytililfcegeddaaa

namespace Go.Proofs.Ytililfcegeddaaa
open Go.RowKit
set_option maxRecDepth 100000

/-- A rule on sets: it hands back the reference's set. -/
def RuleRun (g : Nat) (how : Int) : Prop :=
  (∀ args W, (callFunc g args).run Try.prog W = .ok (.enter g args) W) ∧
  ∀ (a b : List (Int × Int)) (va vb : Value) (W : World), SlP W W.heap.size 2 RuE va a → SlP W W.heap.size 2 RuE vb b → runsR none a = true → runsR none b = true → a.length ≤ 100000 → b.length ≤ 100000 →
    Calls Try.prog g #[va, vb] W (RetO W 107 2 (fun _ => RuE) (byL a b how))

/-- The state of the loop: array p0 holds what was made of the first k centers, and the rest of the first context. -/
def ByA (a b : List Sp) (how : Int) (vs us : Nat → Value) (w1 w2 : World) (k : Nat) (wr : World) : Prop :=
  ∃ ps : Nat → Value, wr.heap[w1.heap.size]? = some (.cells #[ps 0, ps 1, ps 2, ps 3] 78 (0, 0)) ∧ wr.heap[w2.heap.size]? = some (.cells #[us 0, us 1, us 2, us 3] 78 (0, 0)) ∧
    (∀ j, j < k → OwnP wr (w2.heap.size + 1) 107 2 RuE (ps j) (byL (partL a (j : Int)) (partL b (j : Int)) how)) ∧ (∀ j, k ≤ j → ps j = vs j) ∧ (∀ blk, w1.heap.size < blk → blk < w2.heap.size → wr.heap[blk]? = w2.heap[blk]?) ∧ Below w1.heap.size w1 wr

set_option maxHeartbeats 4000000 in
theorem cby_any (a b : List Sp) (how : Int) (g : Nat) (hf : RuleRun g how) (va vb : Value) (w : World) (ha : SlP w w.heap.size 3 SpE va a) (hb : SlP w w.heap.size 3 SpE vb b) (hra : apartB a = true) (hrb : apartB b = true) (hN : a.length ≤ 20000) (hN' : b.length ≤ 20000) :
    Calls Try.prog 86 #[va, vb, .func (.func g) #[] #[]] w (RetO w 86 3 (fun _ => SpE) (ctxBy a b how)) := by
  obtain ⟨eg, hf⟩ := hf
  have HA := hid ha
  have HB := hid hb
  obtain ⟨A1, c1, rfl, _⟩ := ha
  obtain ⟨A2, c2, rfl, _⟩ := hb
  go_enter Try.func86, Try.ntmps86
  go_wp2_with fail
  refine (apart_any a _ w HA.out (by omega)).mono ?_
  rintro e w1 ⟨vs, rfl, hsl, hb1⟩
  have hs1 := hb1.size
  rw [hra]
  simp only [hra, if_true] at hsl
  obtain ⟨B0, m0, g0, _⟩ := hsl 0 (by omega)
  obtain ⟨B1, m1, g1, _⟩ := hsl 1 (by omega)
  obtain ⟨B2, m2, g2, _⟩ := hsl 2 (by omega)
  obtain ⟨B3, m3, g3, _⟩ := hsl 3 (by omega)
  have HVS := hid (fun i (hi : i < 4) => (hsl i hi).slp (fun b hb => hb.2) (Below.refl _ w1))
  have G0 := hid g0
  have G1 := hid g1
  have G2 := hid g2
  have G3 := hid g3
  simp only [g0, g1, g2, g3]
  clear hsl g0 g1 g2 g3
  go_wp2_with fail
  refine (apart_any b _ _ (HB.out.imp (hb1.alloc hs1 _) (by simp; omega) fun _ _ _ h => h) (by omega)).mono ?_
  rintro e w2 ⟨us, rfl, hsl, hb2⟩
  have hs2 := hb2.size
  simp only [World.size_alloc] at hs2
  rw [hrb]
  simp only [hrb, if_true] at hsl
  obtain ⟨D0, n0, k0, _⟩ := hsl 0 (by omega)
  obtain ⟨D1, n1, k1, _⟩ := hsl 1 (by omega)
  obtain ⟨D2, n2, k2, _⟩ := hsl 2 (by omega)
  obtain ⟨D3, n3, k3, _⟩ := hsl 3 (by omega)
  have HUS := hid hsl
  have K0 := hid k0
  have K1 := hid k1
  have K2 := hid k2
  have K3 := hid k3
  simp only [k0, k1, k2, k3]
  clear hsl k0 k1 k2 k3
  have hp2 := hid ((hb2.block w1.heap.size (by simp)).trans (heap_new rfl))
  have hB2 : Below w1.heap.size w1 w2 := ((Below.refl _ w1).alloc (Nat.le_refl _) _).trans (hb2.mono (by simp))
  go_wp2_with fail
  go_loopw [28] (fun i wr => ∃ k : Nat, k ≤ 4 ∧ i = .int .i64 k ∧ ByA a b how vs us w1 w2 k wr) (fun i _ => 4 - (intOf i).toNat)
  case atStart =>
    refine ⟨0, by omega, rfl, vs, ?_, ?_, fun j hj => absurd hj (Nat.not_lt_zero _), fun _ _ => rfl, fun blk _ hb => heap_old hb, hB2.alloc (by omega) _⟩
    · rw [heap_old (by omega), G0.out, G1.out, G2.out, G3.out]; exact hp2.out
    · rw [heap_new rfl, K0.out, K1.out, K2.out, K3.out]; rfl
  case round =>
    obtain ⟨k, hk, rfl, ps, hpa, hqa, hpo, hpv, hkp, hbr⟩ := hrel
    have hsz := hbr.size
    have hp3 : w1.heap.size < wr.heap.size := (Array.getElem?_eq_some_iff.1 hpa).1
    have hq3 : w2.heap.size < wr.heap.size := (Array.getElem?_eq_some_iff.1 hqa).1
    by_cases hk4 : k < 4
    · have hki : (k : Int) < 4 := by omega
      have hla := partL_len a k
      have hlb := partL_len b k
      have hq2 : w2.heap.size + 1 ≤ wr.heap.size := by omega
      have HSA : Hid (SlP wr.drew wr.drew.heap.size 2 RuE (vs k) (partL a k)) := (HVS.out k hk4).imp hbr.drew hsz fun _ _ _ h => h
      have HSB : Hid (SlP wr.drew wr.drew.heap.size 2 RuE (us k) (partL b k)) := SlP_iff.2 ((HUS.out k hk4).up (w' := wr.drew) (fun blk hb => hkp blk (by have := hb.1; simp only [World.size_alloc] at this; omega) hb.2) (fun blk hb => by have := hb.2; show blk < wr.heap.size; omega) (fun _ _ _ h => h))
      have hcall := hf (partL a k) (partL b k) (vs k) (us k) wr.drew HSA.out HSB.out (apart_part hra hk4) (apart_part hrb hk4) (by omega) (by omega)
      have hpc : wr.cell? ⟨w1.heap.size, k, none⟩ = some (vs k) := by rw [cell_cells hpa, four_get ps hk4, hpv k (Nat.le_refl _)]
      have hqc : wr.cell? ⟨w2.heap.size, k, none⟩ = some (us k) := (cell_cells hqa).trans (four_get us hk4)
      have HPA := hid hpa
      have HQA := hid hqa
      have HPO := hid hpo
      have HPV := hid hpv
      have HKP := hid hkp
      have HCALL := hid hcall
      clear hpa hqa hpo hpv hkp hf hcall
      go_wp2_with fail
      refine wp_region_pop_n (S := fun w' => w'.cell? ⟨w1.heap.size, k, none⟩ = some (vs k) ∧ w'.cell? ⟨w2.heap.size, k, none⟩ = some (us k)) 10 (by kernel_rfl) (by kernel_rfl) ?_
      simp only [List.take_succ_cons, List.take_zero, List.drop_succ_cons, List.drop_zero]
      have hHeld : (fun w' : World => w'.cell? ⟨w1.heap.size, k, none⟩ = some (vs k) ∧ w'.cell? ⟨w2.heap.size, k, none⟩ = some (us k)) wr.drew := by go_keep
      refine wpAnyH_take (i := 0) (oi := _) (v := ?v0) rfl (by kernel_rfl) (by kernel_rfl) (by kernel_rfl) (fun _ _ _ h => h) (Or.inl ⟨by rfl, ?h0⟩) (by assumption) ?_
      case h0 => (intro w hSw; (try dsimp only at hSw); go_simp; (try with_reducible rfl))
      simp only [Act.put, List.setIfInBounds_toArray]
      refine wpAnyH_take (i := 1) (oi := _) (v := ?v1) rfl (by kernel_rfl) (by kernel_rfl) (by kernel_rfl) (fun _ _ _ h => h) (Or.inl ⟨by rfl, ?h1⟩) (by assumption) ?_
      case h1 => (intro w hSw; (try dsimp only at hSw); go_simp; (try with_reducible rfl))
      simp only [Act.put, List.setIfInBounds_toArray]
      refine wpAnyH_take (i := 2) (oi := _) (v := ?v2) rfl (by kernel_rfl) (by kernel_rfl) (by kernel_rfl) (fun _ _ _ h => h) (Or.inl ⟨by rfl, ?h2⟩) (by assumption) ?_
      case h2 => (intro w hSw; (try dsimp only at hSw); go_simp; (try with_reducible rfl))
      simp only [Act.put, List.setIfInBounds_toArray]
      refine wpAnyH_take (i := 3) (oi := _) (v := ?v3) rfl (by kernel_rfl) (by kernel_rfl) (by kernel_rfl) (fun _ _ _ h => h) (Or.inl ⟨by rfl, ?h3⟩) (by assumption) ?_
      case h3 => (intro w hSw; (try dsimp only at hSw); go_simp; (try with_reducible rfl))
      simp only [Act.put, List.setIfInBounds_toArray]
      refine wpAnyH_take (i := 4) (oi := _) (v := ?v4) rfl (by kernel_rfl) (by kernel_rfl) (by kernel_rfl) (fun _ _ _ h => h) (Or.inl ⟨by rfl, ?h4⟩) (by assumption) ?_
      case h4 => (intro w hSw; (try dsimp only at hSw); go_simp; (try with_reducible rfl))
      simp only [Act.put, List.setIfInBounds_toArray]
      refine wpAnyH_take (i := 5) (oi := _) (v := ?v5) rfl (by kernel_rfl) (by kernel_rfl) (by kernel_rfl) (fun _ _ _ h => h) (Or.inl ⟨by rfl, ?h5⟩) (by assumption) ?_
      case h5 => (intro w hSw; (try dsimp only at hSw); go_simp; (try with_reducible rfl))
      simp only [Act.put, List.setIfInBounds_toArray]
      refine wpAnyH_take (i := 6) (oi := _) (v := ?v6) rfl (by kernel_rfl) (by kernel_rfl) (by kernel_rfl) (fun _ _ _ h => h) (Or.inl ⟨by rfl, ?h6⟩) (by assumption) ?_
      case h6 => (intro w hSw; (try dsimp only at hSw); go_simp; (try with_reducible rfl))
      simp only [Act.put, List.setIfInBounds_toArray]
      refine wpAnyH_take (i := 7) (oi := _) (v := ?v7) rfl (by kernel_rfl) (by kernel_rfl) (by kernel_rfl) (fun _ _ _ h => h) (Or.inl ⟨by rfl, ?h7⟩) (by assumption) ?_
      case h7 => (intro w hSw; (try dsimp only at hSw); go_simp; (try with_reducible rfl))
      simp only [Act.put, List.setIfInBounds_toArray]
      refine wpAnyH_ready (rs := [8]) (by kernel_rfl) (by simp) ?_
      refine AllReadyH.cons (o := _) rfl (fun K hK => ?_) AllReadyH.nil
      go_simp
      refine HCALL.out.mono ?_
      rintro e w3 ⟨v3, rfl, ho3, hb3⟩
      obtain ⟨A3, c3, rfl⟩ := ho3.shape
      have hb3' : Below wr.heap.size wr w3 := (Below.refl _ wr).drew.trans hb3
      have hp4 := (hb3'.block w1.heap.size hp3).trans HPA.out
      have hq4 := (hb3'.block w2.heap.size hq3).trans HQA.out
      have hpc3 : w3.cell? ⟨w1.heap.size, k, none⟩ = some (vs k) := by rw [cell_cells hp4, four_get ps hk4, HPV.out k (Nat.le_refl _)]
      have hqc3 : w3.cell? ⟨w2.heap.size, k, none⟩ = some (us k) := (cell_cells hq4).trans (four_get us hk4)
      have hf3 : w3.frozen? ⟨w1.heap.size, k, none⟩ = false := cells_frz hp4
      have HP4 := hid hp4
      have HQ4 := hid hq4
      have HO3 := hid ho3
      have HB3 := hid hb3'
      clear hp4 hq4 ho3 hb3 hb3'
      dsimp only
      refine hK.out _ _ ⟨hpc3, hqc3⟩ (fun hHeld8 => ?_)
      clear hK K
      simp only [List.setIfInBounds_toArray]
      refine wpAnyH_take (i := 9) (oi := _) (v := ?v9) rfl (by kernel_rfl) (by kernel_rfl) (by kernel_rfl) (fun _ _ _ h => h) (Or.inl ⟨by rfl, ?h9⟩) (by assumption) ?_
      case h9 => (intro w hSw; (try dsimp only at hSw); go_simp; (try with_reducible rfl))
      simp only [Act.put, List.setIfInBounds_toArray]
      refine wpAnyH_done (by kernel_rfl) ?_ _
      change wpList _ _ _ _ _ _
      go_wp2_with fail
      go_roundw
      case rel =>
        have hs3 := HB3.out.size
        refine ⟨k + 1, by omega, by go_num, fun j => if j = k then .slice A3 (byL (partL a k) (partL b k) how).length c3 else ps j, ?_, ?_, fun j hj => ?_, fun j hj => ?_, fun blk h1 h2 => ?_, (hbr.trans (HB3.out.mono hsz)).setCell (Nat.le_refl _) _⟩
        · rw [cells_set HP4.out, four_set ps hk4]
        · exact (Below.heap_setCell _ _ _ _ (by show w2.heap.size ≠ w1.heap.size; omega)).trans HQ4.out
        · by_cases e : j = k
          · subst e
            simp only [if_true]
            exact (HO3.out.mono (by show _ ≤ wr.heap.size; omega)).setOther (by show w1.heap.size < _; omega) _
          · simp only [if_neg e]
            exact ((HPO.out j (by omega)).grow HB3.out).setOther (by show w1.heap.size < _; omega) _
        · show (if j = k then _ else ps j) = vs j
          rw [if_neg (show ¬ j = k by omega)]; exact HPV.out j (by omega)
        · exact (Below.heap_setCell _ _ _ _ (by show blk ≠ w1.heap.size; omega)).trans ((HB3.out.block blk (by omega)).trans (HKP.out blk h1 h2))
      case measure => simp [intOf]; omega
    · obtain rfl : k = 4 := by omega
      have d0 : wr.cell? ⟨w1.heap.size, 0, none⟩ = some (ps 0) := cell_cells (i := 0) hpa
      have d1 : wr.cell? ⟨w1.heap.size, 1, none⟩ = some (ps 1) := cell_cells (i := 1) hpa
      have d2 : wr.cell? ⟨w1.heap.size, 2, none⟩ = some (ps 2) := cell_cells (i := 2) hpa
      have d3 : wr.cell? ⟨w1.heap.size, 3, none⟩ = some (ps 3) := cell_cells (i := 3) hpa
      have HOL : ∀ j : Nat, (byL (partL a (j : Int)) (partL b (j : Int)) how).length ≤ 80001 := fun j => by
        have := byL_len (partL a (j : Int)) (partL b (j : Int)) how; have := partL_len a (j : Int); have := partL_len b (j : Int); omega
      have HSP : Hid (∀ j, j < 4 → SlP wr wr.heap.size 2 RuE (ps j) (byL (partL a (j : Int)) (partL b (j : Int)) how)) := fun j hj => (hpo j hj).sl (by have := HOL j; unfold Big; omega)
      have HOLH := hid HOL
      clear hpa hqa hpo hpv hkp HOL
      go_wp2_with fail
      refine (whole_any (fun j => byL (partL a (j : Int)) (partL b (j : Int)) how) ps wr HSP.out (fun j _ => by have := HOLH.out j; show (byL _ _ _).length ≤ _; omega)).mono ?_
      rintro e w4 ⟨v4, rfl, ho4, hb4⟩
      go_wp2_with fail
      go_ret
      exact ⟨_, rfl, ho4.mono (by omega), (hb1.trans (hbr.mono hs1)).trans (hb4.mono (by omega))⟩

theorem union_rule : RuleRun 87 0 :=
  ⟨enters_of Try.func87 (by kernel_rfl) rfl, fun a b va vb W ha hb hra hrb hN hN' => sunion_any a b va vb W ha hb hra hrb (by omega) (by omega)⟩
theorem cunion_any (a b : List Sp) (va vb : Value) (w : World) (ha : SlP w w.heap.size 3 SpE va a) (hb : SlP w w.heap.size 3 SpE vb b) (hra : apartB a = true) (hrb : apartB b = true) (hN : a.length ≤ 20000) (hN' : b.length ≤ 20000) :
    Calls Try.prog 65 #[va, vb] w (RetO w 86 3 (fun _ => SpE) (ctxBy a b 0)) := by
  go_enter Try.func65, Try.ntmps65
  go_wp2_with fail
  refine (cby_any a b 0 _ union_rule va vb w ha hb hra hrb hN hN').mono ?_
  rintro e w1 ⟨v, rfl, h⟩
  go_wp2_with fail
  go_ret
  exact ⟨v, rfl, h⟩
end Go.Proofs.Ytililfcegeddaaa

namespace Go.Proofs.Ytililfcegeddaaa
open Go.RowKit
set_option maxRecDepth 100000

/-- The state of the first loop. -/
def OfA (l : List Dt) (w : World) (k : Nat) (wr : World) : Prop :=
  ∃ vs : Nat → Value, Rows4 wr (w.heap.size + 1) w.heap.size 75 2 1 InE vs (fun i => numsL (l.take k) i) ∧ Below w.heap.size w wr

/-- The state of the second loop: array Bq holds the sets of the first k centers. -/
def OfB (l : List Dt) (w1 : World) (k : Nat) (wr : World) : Prop :=
  ∃ ps : Nat → Value, wr.heap[w1.heap.size]? = some (.cells #[ps 0, ps 1, ps 2, ps 3] 78 (0, 0)) ∧
    (∀ j, j < 4 → OwnP wr (w1.heap.size + 1) 107 2 RuE (ps j) (if j < k then ofL (numsL l (j : Int)) else [])) ∧ Below w1.heap.size w1 wr

set_option maxHeartbeats 4000000 in
theorem cof_any (l : List Dt) (vl : Value) (w : World) (h : SlP w w.heap.size 2 DtE vl l) (hR : ∀ d ∈ l, d.right = true) (hN : l.length ≤ 100000) :
    Calls Try.prog 33 #[vl] w fun e w' => ∃ v, e = .returned (.tuple #[v, .int .i64 0]) ∧ OwnP w' w.heap.size 86 3 SpE v (ctxOf l) ∧ Below w.heap.size w w' := by
  obtain ⟨A, n, rfl, b1, b2, b3⟩ := h
  unfold Big at b2
  go_enter Try.func33, Try.ntmps33
  go_wp2_with fail
  go_loopw [12] (fun i wr => ∃ k : Nat, k ≤ l.length ∧ i = .int .i64 k ∧ OfA l w k wr) (fun i _ => l.length - (intOf i).toNat)
  case atStart => exact ⟨0, Nat.zero_le _, rfl, fun _ => .slice none 0 0, Rows4.start (heap_new rfl) (by omega), (Below.refl _ w).alloc (Nat.le_refl _) _⟩
  case round =>
    obtain ⟨k, hk, rfl, vs, hr4, hb⟩ := hrel
    have hsz := hb.size
    have hsz2 : w.heap.size < wr.heap.size := (Array.getElem?_eq_some_iff.1 hr4.arr).1
    have hsz4 : w.heap.size ≠ wr.heap.size := by omega
    by_cases hlt : k < l.length
    · obtain ⟨⟨dc, num⟩, hx⟩ : ∃ x, l[k]? = some x := ⟨_, List.getElem?_eq_getElem hlt⟩
      obtain ⟨b, off, rfl, hbB, hc⟩ := b3 (by rintro rfl; simp at hlt)
      obtain ⟨cs, ⟨rfl, hok⟩, _, hu⟩ := hc k _ hx
      have e0 : wr.cell? ⟨b, off + k * 2, none⟩ = some (.int .i64 dc) := (hb.cell hbB).trans (hu 0 _ rfl)
      have e1 : wr.cell? ⟨b, off + k * 2 + 1, none⟩ = some (.int .i64 num) := (hb.cell hbB).trans (hu 1 _ rfl)
      have hri := hR _ (List.mem_of_getElem? hx)
      have hbd : (0 ≤ dc ∧ dc < 4) ∧ 1 ≤ num ∧ num ≤ 1099511627776 := by simpa [Dt.right, and_assoc] using hri
      have HRI := hid hri
      have HR4 := hid hr4
      obtain ⟨d, rfl⟩ : ∃ d : Nat, dc = (d : Int) := ⟨dc.toNat, by omega⟩
      have hd4 : d < 4 := by omega
      have hdi : (d : Int) < 4 := by omega
      have HPD : Hid ((fun i : Nat => numsL (l.take (k + 1)) i) = fun i => if i = d then numsL (l.take k) d ++ [num] else numsL (l.take k) i) := by
        unfold Hid; funext i
        rw [numsL_take hx]
        by_cases e : i = d
        · subst e; rw [if_pos rfl, if_pos rfl]
        · rw [if_neg e, if_neg (by show ¬ (d : Int) = (i : Int); omega), List.append_nil]
      have HL : Hid ((numsL (l.take k) d).length + [num].length ≤ Few) := by have := numsL_len (l.take k) d; rw [List.length_take] at this; unfold Hid Few; simp; omega
      have HRE : Hid (InE num [.int .i64 num]) := ⟨rfl, hok.n⟩
      have hbp : wr.cell? ⟨w.heap.size, d, none⟩ = some (vs d) := HR4.out.at hd4
      have HLT := hid ((HR4.out.own d hd4).lt)
      clear hu hx hc b3 hok hr4 hri hR
      go_upto_region 7 with (go_at_call 44; refine (dright_any ⟨d, num⟩ _).mono ?_; rw [HRI.out]; rintro e wd ⟨rfl, hbd'⟩; have hsd := hbd'.size; simp only [World.size_alloc] at hsd)
      have HB1 : Hid (Below wr.heap.size wr wd) := ((Below.refl _ wr).alloc (Nat.le_refl _) _).trans (hbd'.mono (by simp))
      have hx0 : wd.cell? ⟨wr.heap.size, 0, none⟩ = some (.int .i64 (d : Int)) := by rw [hbd'.cell (p := ⟨wr.heap.size, 0, none⟩) (by simp)]; simp
      have hx1 : wd.cell? ⟨wr.heap.size, 1, none⟩ = some (.int .i64 num) := by rw [hbd'.cell (p := ⟨wr.heap.size, 1, none⟩) (by simp)]; simp
      have hxb : wd.heap[wr.heap.size]? = some (.cells #[.int .i64 (d : Int), .int .i64 num] 27 (0, 0)) := (hbd'.block wr.heap.size (by simp)).trans (heap_new rfl)
      have HXB := hid hxb
      have hbp1 : wd.cell? ⟨w.heap.size, d, none⟩ = some (vs d) := (HB1.out.cell (p := ⟨w.heap.size, d, none⟩) hsz2).trans hbp
      have HR5 := hid (HR4.out.grow HB1.out)
      have hwd1 : w.heap.size < wd.heap.size := by omega
      have hwd2 : w.heap.size ≠ wd.heap.size := by omega
      have hwd3 : wr.heap.size < wd.heap.size := by omega
      have hwd4 : wr.heap.size ≠ wd.heap.size := by omega
      have HBW := hid (hb.trans (HB1.out.mono hsz))
      clear hbp hxb hbd' e0 e1
      go_wp2_with fail
      refine wp_region_pop_n (S := fun w' => w'.cell? ⟨wr.heap.size, 0, none⟩ = some (.int .i64 (d : Int)) ∧ w'.cell? ⟨wr.heap.size, 1, none⟩ = some (.int .i64 num) ∧ w'.cell? ⟨w.heap.size, d, none⟩ = some (vs d)) 11 (by kernel_rfl) (by kernel_rfl) ?_
      simp only [List.take_succ_cons, List.take_zero, List.drop_succ_cons, List.drop_zero]
      have hHeld : (fun w' : World => w'.cell? ⟨wr.heap.size, 0, none⟩ = some (.int .i64 (d : Int)) ∧ w'.cell? ⟨wr.heap.size, 1, none⟩ = some (.int .i64 num) ∧ w'.cell? ⟨w.heap.size, d, none⟩ = some (vs d)) wd.drew := by go_keep
      refine wpAnyH_take (i := 0) (oi := _) (v := ?v0) rfl (by kernel_rfl) (by kernel_rfl) (by kernel_rfl) (fun _ _ _ h => h) (Or.inl ⟨by rfl, ?h0⟩) (by assumption) ?_
      case h0 => (intro w hSw; (try dsimp only at hSw); go_simp; (try with_reducible rfl))
      simp only [Act.put, List.setIfInBounds_toArray]
      refine wpAnyH_take (i := 1) (oi := _) (v := ?v1) rfl (by kernel_rfl) (by kernel_rfl) (by kernel_rfl) (fun _ _ _ h => h) (Or.inl ⟨by rfl, ?h1⟩) (by assumption) ?_
      case h1 => (intro w hSw; (try dsimp only at hSw); go_simp; (try with_reducible rfl))
      simp only [Act.put, List.setIfInBounds_toArray]
      refine wpAnyH_take (i := 2) (oi := _) (v := ?v2) rfl (by kernel_rfl) (by kernel_rfl) (by kernel_rfl) (fun _ _ _ h => h) (Or.inl ⟨by rfl, ?h2⟩) (by assumption) ?_
      case h2 => (intro w hSw; (try dsimp only at hSw); go_simp; (try with_reducible rfl))
      simp only [Act.put, List.setIfInBounds_toArray]
      refine wpAnyH_take (i := 3) (oi := _) (v := ?v3) rfl (by kernel_rfl) (by kernel_rfl) (by kernel_rfl) (fun _ _ _ h => h) (Or.inl ⟨by rfl, ?h3⟩) (by assumption) ?_
      case h3 => (intro w hSw; (try dsimp only at hSw); go_simp; (try with_reducible rfl))
      simp only [Act.put, List.setIfInBounds_toArray]
      refine wpAnyH_take (i := 4) (oi := _) (v := ?v4) rfl (by kernel_rfl) (by kernel_rfl) (by kernel_rfl) (fun _ _ _ h => h) (Or.inl ⟨by rfl, ?h4⟩) (by assumption) ?_
      case h4 => (intro w hSw; (try dsimp only at hSw); go_simp; (try with_reducible rfl))
      simp only [Act.put, List.setIfInBounds_toArray]
      refine wpAnyH_take (i := 5) (oi := _) (v := ?v5) rfl (by kernel_rfl) (by kernel_rfl) (by kernel_rfl) (fun _ _ _ h => h) (Or.inl ⟨by rfl, ?h5⟩) (by assumption) ?_
      case h5 => (intro w hSw; (try dsimp only at hSw); go_simp; (try with_reducible rfl))
      simp only [Act.put, List.setIfInBounds_toArray]
      refine wpAnyH_take (i := 6) (oi := _) (v := ?v6) rfl (by kernel_rfl) (by kernel_rfl) (by kernel_rfl) (fun _ _ _ h => h) (Or.inl ⟨by rfl, ?h6⟩) (by assumption) ?_
      case h6 => (intro w hSw; (try dsimp only at hSw); go_simp; (try with_reducible rfl))
      simp only [Act.put, List.setIfInBounds_toArray]
      refine wpAnyH_take (i := 7) (oi := _) (v := ?v7) rfl (by kernel_rfl) (by kernel_rfl) (by kernel_rfl) (fun _ _ _ h => h) (Or.inl ⟨by rfl, ?h7⟩) (by assumption) ?_
      case h7 => (intro w hSw; (try dsimp only at hSw); go_simp; (try with_reducible rfl))
      simp only [Act.put, List.setIfInBounds_toArray]
      refine wpAnyH_ready (rs := [8]) (by kernel_rfl) (by simp) ?_
      refine AllReadyH.cons (o := _) rfl (fun K hK => ?_) AllReadyH.nil
      go_simp
      refine hK.out _ _ ?_ (fun hHeld8 => ?_)
      · go_keep
      clear hK K
      simp only [List.setIfInBounds_toArray]
      refine wpAnyH_ready (rs := [9]) (by kernel_rfl) (by simp) ?_
      refine AllReadyH.cons (o := _) rfl (fun K hK => ?_) AllReadyH.nil
      (refine step_few4 (v := vs d) rfl (.tmp 24) (.tmp 27) _ rfl eiInt64 (by decide) (by decide) (fun _ _ h => h.one) rfl (((HR5.out.own d hd4).grow ((Below.refl _ wd).alloc (Nat.le_refl _) _)).drew) rfl (SlP.one (x := num) HRE.out rfl _ (by simp)) HL.out (by simp; omega) ?_; intro v1 w4 hown4 hb4 hg4 hv4; have hsh4 := OwnP.shape hown4; simp only [List.length_append, List.length_singleton] at hsh4; obtain ⟨A1, c1, hv1⟩ := hsh4; subst hv1; have hg4h : Hid (w4.heap[w.heap.size]? = some (.cells #[vs 0, vs 1, vs 2, vs 3] 75 (0, 0))) := (hg4.block w.heap.size (by simp; omega) (fun e => by have := HLT.out _ e.symm; omega)).trans ((heap_old hwd1).trans HR5.out.arr); have hc4 : w4.cell? ⟨w.heap.size, d, none⟩ = some (vs d) := (cell_cells hg4h.out).trans (four_get vs hd4); have hf4 : w4.frozen? ⟨w.heap.size, d, none⟩ = false := cells_frz hg4h.out; have hx3 := (hg4.block wr.heap.size (by simp; omega) (fun e => by have := HLT.out _ e.symm; omega)).trans ((heap_old hwd3).trans HXB.out); have hx4 : Hid (w4.cell? ⟨wr.heap.size, 0, none⟩ = some (.int .i64 (d : Int)) ∧ w4.cell? ⟨wr.heap.size, 1, none⟩ = some (.int .i64 num) ∧ w4.cell? ⟨w.heap.size, d, none⟩ = some (vs d)) := ⟨(cell_cells (i := 0) hx3).trans rfl, (cell_cells (i := 1) hx3).trans rfl, hc4⟩; clear hx3)
      refine hK.out _ _ ?_ (fun hHeld9 => ?_)
      · exact hx4.out
      clear hK K
      simp only [Act.put, List.setIfInBounds_toArray]
      refine wpAnyH_take (i := 10) (oi := _) (v := ?v10) rfl (by kernel_rfl) (by kernel_rfl) (by kernel_rfl) (fun _ _ _ h => h) (Or.inl ⟨by rfl, ?h10⟩) (by assumption) ?_
      case h10 => (intro w hSw; (try dsimp only at hSw); go_simp; (try with_reducible rfl))
      simp only [Act.put, List.setIfInBounds_toArray]
      refine wpAnyH_done (by kernel_rfl) ?_ _
      change wpList _ _ _ _ _ _
      go_wp2_with fail
      go_roundw
      case rel =>
        refine ⟨k + 1, by omega, by go_num, fun i => if i = d then .slice A1 ((numsL (l.take k) d).length + 1) c1 else vs i, ?_, ?_⟩
        · rw [HPD.out]
          exact Rows4.put (w := (wd.alloc (.cells #[.int .i64 num] 2)).drew) ((HR5.out.grow ((Below.refl _ _).alloc (Nat.le_refl _) _)).same rfl) hd4 hown4 hg4 hv4
        · exact (((HBW.out.alloc (by omega) _).drew.trans (hb4.mono (by omega))).setCell (Nat.le_refl _) _)
      case measure => simp [intOf]; omega
    · obtain rfl : k = l.length := by omega
      rw [List.take_of_length_le (Nat.le_refl _)] at hr4
      have c0 : wr.cell? ⟨w.heap.size, 0, none⟩ = some (vs 0) := hr4.at (by omega)
      have c1 : wr.cell? ⟨w.heap.size, 1, none⟩ = some (vs 1) := hr4.at (by omega)
      have c2 : wr.cell? ⟨w.heap.size, 2, none⟩ = some (vs 2) := hr4.at (by omega)
      have c3 : wr.cell? ⟨w.heap.size, 3, none⟩ = some (vs 3) := hr4.at (by omega)
      have HR := hid hr4
      have HRR := hid hR
      clear hr4 b3 hR
      go_wp2_with fail
      obtain ⟨w1, rfl⟩ : ∃ w1 : World, w1 = wr := ⟨_, rfl⟩
      go_loopw [32] (fun i wr => ∃ k : Nat, k ≤ 4 ∧ i = .int .i64 k ∧ OfB l w1 k wr) (fun i _ => 4 - (intOf i).toNat)
      case atStart => exact ⟨0, by omega, rfl, fun _ => .slice none 0 0, heap_new rfl, fun j _ => by rw [if_neg (Nat.not_lt_zero _)]; exact OwnP.nil, (Below.refl _ _).alloc (Nat.le_refl _) _⟩
      case round =>
        obtain ⟨k, hk, rfl, ps, hpa, hpo, hbi⟩ := hrel
        have hsi := hbi.size
        have hsi2 : w1.heap.size < wr.heap.size := (Array.getElem?_eq_some_iff.1 hpa).1
        by_cases hk4 : k < 4
        · have hki : (k : Int) < 4 := by omega
          have hidx : ∀ w, (Instr.index 75 (.agg #[vs 0, vs 1, vs 2, vs 3]) (.int .i64 (k : Int))).run Try.prog w = .ok (vs k) w := fun w => by
            match k, hk4 with
            | 0, _ => rfl
            | 1, _ => rfl
            | 2, _ => rfl
            | 3, _ => rfl
          have hnl := numsL_len l k
          have HSL : Hid (SlP wr wr.heap.size 1 InE (vs k) (numsL l k)) := (HR.out.sl hk4 (by show (numsL l k).length ≤ Big; unfold Big; omega)).imp hbi hsi fun _ _ _ h => h
          have HNB : Hid (∀ x ∈ numsL l k, numB x = true) := fun x hx => by
            unfold numsL at hx
            obtain ⟨d, hd, rfl⟩ := List.mem_map.1 hx
            have h1 := HRR.out d (List.mem_filter.1 hd).1
            simp [Dt.right] at h1
            simp [numB]; omega
          have HPA := hid hpa
          have HPO := hid hpo
          have hpc : wr.cell? ⟨w1.heap.size, k, none⟩ = some (ps k) := (cell_cells hpa).trans (four_get ps hk4)
          clear hpa hpo
          go_wp2_with fail
          refine (sof_any (numsL l k) (vs k) wr HSL.out HNB.out (by omega)).mono ?_
          rintro e w2 ⟨v2, rfl, ho2, hb2⟩
          obtain ⟨A2, n2, rfl⟩ := ho2.shape
          have hp2 := (hb2.block w1.heap.size hsi2).trans HPA.out
          have hc2 : w2.cell? ⟨w1.heap.size, k, none⟩ = some (ps k) := (cell_cells hp2).trans (four_get ps hk4)
          have hf2 : w2.frozen? ⟨w1.heap.size, k, none⟩ = false := cells_frz hp2
          have HP2 := hid hp2
          have HO2 := hid ho2
          clear hp2 ho2 hpc hidx
          go_wp2_with fail
          go_roundw
          case rel =>
            refine ⟨k + 1, by omega, by go_num, fun j => if j = k then .slice A2 (ofL (numsL l k)).length n2 else ps j, ?_, fun j hj => ?_, (hbi.trans (hb2.mono hsi)).setCell (Nat.le_refl _) _⟩
            · rw [cells_set HP2.out, four_set ps hk4]
            · by_cases e : j = k
              · subst e
                simp only [if_true, if_pos (Nat.lt_succ_self j)]
                exact (HO2.out.mono (by omega)).setOther (by simp) _
              · have e2 : (if j < k + 1 then ofL (numsL l (j : Int)) else []) = (if j < k then ofL (numsL l (j : Int)) else []) := by
                  by_cases e3 : j < k
                  · rw [if_pos e3, if_pos (by omega)]
                  · rw [if_neg e3, if_neg (by omega)]
                simp only [if_neg e]
                rw [e2]
                exact ((HPO.out j hj).grow hb2).setOther (by simp) _
          case measure => simp [intOf]; omega
        · obtain rfl : k = 4 := by omega
          have d0 : wr.cell? ⟨w1.heap.size, 0, none⟩ = some (ps 0) := cell_cells (i := 0) hpa
          have d1 : wr.cell? ⟨w1.heap.size, 1, none⟩ = some (ps 1) := cell_cells (i := 1) hpa
          have d2 : wr.cell? ⟨w1.heap.size, 2, none⟩ = some (ps 2) := cell_cells (i := 2) hpa
          have d3 : wr.cell? ⟨w1.heap.size, 3, none⟩ = some (ps 3) := cell_cells (i := 3) hpa
          have HOL : ∀ j : Nat, (ofL (numsL l (j : Int))).length ≤ 100001 := fun j => by have := ofL_len (numsL l (j : Int)); have := numsL_len l (j : Int); omega
          have HSP : Hid (∀ j, j < 4 → SlP wr wr.heap.size 2 RuE (ps j) (ofL (numsL l (j : Int)))) := fun j hj => by
            have := hpo j hj
            rw [if_pos hj] at this
            exact this.sl (by have := HOL j; unfold Big; omega)
          have HOLH := hid HOL
          clear hpa hpo HOL
          go_wp2_with fail
          refine (whole_any (fun j => ofL (numsL l (j : Int))) ps wr HSP.out (fun j _ => by have := HOLH.out j; show (ofL _).length ≤ _; omega)).mono ?_
          rintro e w2 ⟨v2, rfl, ho2, hb2⟩
          go_wp2_with fail
          go_ret2
          exact ⟨_, rfl, ho2.mono (by omega), (hb.trans (hbi.mono hsz)).trans (hb2.mono (by omega))⟩
end Go.Proofs.Ytililfcegeddaaa

namespace Go.Proofs.Ytililfcegeddaaa
open Go.RowKit
set_option maxRecDepth 100000

/-- What tree.Dots hands back. -/
def RetDots (t : Tr) (w : World) (e : Ending) (w' : World) : Prop :=
  ∃ v n, e = .returned (.tuple #[v, .int .i64 n]) ∧ n = (if t.right 5 then 0 else 1) ∧ OwnP w' w.heap.size 86 3 SpE v (if t.right 5 then ctxOf t.dots else []) ∧ Below w.heap.size w w'
set_option maxHeartbeats 1000000 in
theorem tdots_any (t : Tr) (ve vk : Value) (w : World) (h : t.rd w w.heap.size ve vk) (hN : t.sz ≤ 90000) :
    Calls Try.prog 43 #[.agg #[ve, vk]] w (RetDots t w) := by
  have HC : Hid (∀ w', Below w.heap.size w w' → t.rd w' w'.heap.size ve vk) := fun w' hb => rd_below hb hb.size _ _ _ h
  have hdl := dots_len t
  obtain ⟨A3, n3, A4, n4, rfl, rfl⟩ := rd_shape h
  have hb0 := (Below.refl w.heap.size w).alloc (Nat.le_refl _) (.cells #[.slice A3 t.es.length n3, .slice A4 t.ks.length n4] 25)
  clear h
  go_enter Try.func43, Try.ntmps43
  go_wp2_with fail
  refine (tRight_any t _ _ _ (HC.out _ hb0)).mono ?_
  rintro e w1 ⟨rfl, hb1⟩
  have hs1 := hb1.size
  simp only [World.size_alloc] at hs1
  have hB1 : Below w.heap.size w w1 := hb0.trans (hb1.mono (by simp))
  have c0 : w1.cell? ⟨w.heap.size, 0, none⟩ = some (.slice A3 t.es.length n3) := by rw [hb1.cell (p := ⟨w.heap.size, 0, none⟩) (by simp)]; simp
  have c1 : w1.cell? ⟨w.heap.size, 1, none⟩ = some (.slice A4 t.ks.length n4) := by rw [hb1.cell (p := ⟨w.heap.size, 1, none⟩) (by simp)]; simp
  cases hr : t.right 5
  · have HR := hid hr
    clear hr
    go_wp2_with fail
    go_ret2
    exact ⟨_, _, rfl, by rw [HR.out]; rfl, by rw [HR.out]; exact OwnP.nil, hB1⟩
  · have HR := hid hr
    have HD := hid (right_dots t 5 hr)
    clear hr
    go_wp2_with fail
    refine (tall_any t _ _ _ (HC.out _ hB1) (by omega)).mono ?_
    rintro e w2 ⟨v2, rfl, ho2, hb2⟩
    have hs2 := hb2.size
    have hsl := ho2.sl (by unfold Big; omega)
    clear ho2
    go_wp2_with fail
    refine (cof_any t.dots v2 w2 hsl HD.out (by omega)).mono ?_
    rintro e w3 ⟨v3, rfl, ho3, hb3⟩
    go_wp2_with fail
    go_ret2
    exact ⟨_, _, rfl, by rw [HR.out]; rfl, by rw [HR.out]; exact ho3.mono (by omega), (hB1.trans (hb2.mono (by omega))).trans (hb3.mono (by omega))⟩

theorem chk_eq {t : Tr} (h : t.right 5 = true) (d : Dt) : cHas (ctxOf t.dots) d = hasC (ctxOf t.dots) d := cHas_eq (apart_ctxOf (right_dots t 5 h)) d

/-- flag.Check's answer: 0 where a change may be made, else 1. -/
def chkI (t : Tr) (d : Dt) : Int := if chkT t d then 0 else 1
set_option maxHeartbeats 2000000 in
theorem fcheck_any (t : Tr) (d : Dt) (ve vk : Value) (w : World) (h : t.rd w w.heap.size ve vk) (hN : t.sz ≤ 90000) :
    Calls Try.prog 21 #[.agg #[ve, vk], .agg #[.int .i64 d.dc, .int .i64 d.n]] w fun e w' => e = .returned (.int .i64 (chkI t d)) ∧ Below w.heap.size w w' := by
  have HC : Hid (∀ w', Below w.heap.size w w' → t.rd w' w'.heap.size ve vk) := fun w' hb => rd_below hb hb.size _ _ _ h
  have hcl : (ctxOf t.dots).length ≤ 900000 := by have := ctxOfK_len t.dots 4; have := dots_len t; unfold ctxOf; omega
  have HCL := hid hcl
  obtain ⟨A3, n3, A4, n4, rfl, rfl⟩ := rd_shape h
  have hb0 := ((Below.refl w.heap.size w).alloc (Nat.le_refl _) (.cells #[.slice A3 t.es.length n3, .slice A4 t.ks.length n4] 25)).alloc (by simp) (.cells #[.int .i64 d.dc, .int .i64 d.n] 27)
  clear h hcl
  go_enter Try.func21, Try.ntmps21
  go_wp2_with fail
  refine (tdots_any t _ _ _ (HC.out _ hb0) hN).mono ?_
  rintro e w1 ⟨v1, n1, rfl, hn1, ho1, hb1⟩
  have hs1 := hb1.size
  simp only [World.size_alloc] at hs1
  have hB1 : Below w.heap.size w w1 := hb0.trans (hb1.mono (by simp; omega))
  have c0 : w1.cell? ⟨w.heap.size + 1, 0, none⟩ = some (.int .i64 d.dc) := by rw [hb1.cell (p := ⟨w.heap.size + 1, 0, none⟩) (by simp)]; simp
  have c1 : w1.cell? ⟨w.heap.size + 1, 1, none⟩ = some (.int .i64 d.n) := by rw [hb1.cell (p := ⟨w.heap.size + 1, 1, none⟩) (by simp)]; simp
  cases hr : t.right 5
  · have HR : Hid (chkT t d = false) := by unfold Hid chkT; rw [hr]; rfl
    rw [hr] at hn1
    obtain rfl : n1 = 1 := hn1
    clear hr ho1
    go_wp2_with fail
    go_ret
    exact ⟨ret_int (by rw [chkI, HR.out]; rfl), hB1⟩
  rw [hr] at hn1 ho1
  obtain rfl : n1 = 0 := hn1
  simp only [if_true] at ho1
  have hsl := ho1.sl (by have := HCL.out; unfold Big; omega)
  have HSL := hid hsl
  cases hd : d.right
  · have HR : Hid (chkT t d = false) := by unfold Hid chkT; rw [hr, hd]; rfl
    have HD := hid hd
    clear hr ho1 hsl hd
    go_wp2_with (go_at_call 44; refine (dright_any d _).mono ?_; rw [HD.out]; rintro e w2 ⟨rfl, hb2⟩)
    go_ret
    exact ⟨ret_int (by rw [chkI, HR.out]; rfl), hB1.trans (hb2.mono (by omega))⟩
  · have HR : Hid (chkT t d = !cHas (ctxOf t.dots) d) := by unfold Hid chkT; rw [hr, hd, chk_eq hr]; rfl
    have HD := hid hd
    clear hr ho1 hsl hd
    go_wp2_with fail
    refine (dright_any d _).mono ?_
    rw [HD.out]
    rintro e w2 ⟨rfl, hb2⟩
    have hs2 := hb2.size
    have d0 : w2.cell? ⟨w.heap.size + 1, 0, none⟩ = some (.int .i64 d.dc) := (hb2.cell (p := ⟨w.heap.size + 1, 0, none⟩) (by show w.heap.size + 1 < _; omega)).trans c0
    have d1 : w2.cell? ⟨w.heap.size + 1, 1, none⟩ = some (.int .i64 d.n) := (hb2.cell (p := ⟨w.heap.size + 1, 1, none⟩) (by show w.heap.size + 1 < _; omega)).trans c1
    go_wp2_with fail
    refine (chas_any (ctxOf t.dots) d v1 w2 (HSL.out.imp hb2 hs2 fun _ _ _ h => h) HCL.out).mono ?_
    rintro e w3 ⟨rfl, hb3⟩
    have hB3 := (hB1.trans (hb2.mono (by omega))).trans (hb3.mono (show w.heap.size ≤ _ by omega))
    generalize cHas (ctxOf t.dots) d = q at *
    cases q
    all_goals
      go_wp2_with fail
      go_ret
      exact ⟨ret_int (by rw [chkI, HR.out]; rfl), hB3⟩
end Go.Proofs.Ytililfcegeddaaa

namespace Go.Proofs.Ytililfcegeddaaa
open Go.RowKit
set_option maxRecDepth 100000

/-- The call hands back what is known, in blocks of its own, and an error's number. -/
def RetCE (w : World) (t : Tr) (c : List Sp) (k : Int) (e : Ending) (w' : World) : Prop :=
  ∃ ve vk vc, e = .returned (.tuple #[.agg #[ve, vk, vc], .int .i64 k]) ∧ t.rda w' (fun b => w.heap.size ≤ b ∧ b < w'.heap.size) ve vk ∧ SlA w' (fun b => w.heap.size ≤ b ∧ b < w'.heap.size) 3 SpE vc c ∧ Below w.heap.size w w'
theorem chkT_right {t : Tr} {d : Dt} (h : chkT t d = true) : d.right = true := by
  unfold chkT at h; simp at h; exact h.1.2
theorem chkT_tree {t : Tr} {d : Dt} (h : chkT t d = true) : t.right 5 = true := by
  unfold chkT at h; simp at h; exact h.1.1
theorem SlA.one {α : Type} {w : World} {ok : Nat → Prop} {sz n : Nat} {E : α → List Value → Prop} {x : α} {cs : List Value} {e : TypeId} {z : Nat × Nat} (hE : E x cs) (hl : cs.length = sz) (h : w.heap[n]? = some (.cells cs.toArray e z)) (ho : ok n) :
    SlA w ok sz E (.slice (some ⟨n, 0, none⟩) 1 1) [x] := by
  refine ⟨_, 1, rfl, Nat.le_refl _, by simp [Big], fun _ => ⟨_, 0, rfl, ho, fun j y hy => ?_⟩⟩
  match j, hy with
  | 0, hy =>
    simp at hy; subst hy
    exact ⟨cs, hE, hl, fun i u hi => by rw [cell_cells h]; simpa using hi⟩
theorem En.Ok.mk' {d : Dt} {n : Int} (hd : d.Ok) (hn : I64 n) : En.Ok ⟨d.dc, d.n, ByteArray.empty, n⟩ := ⟨hd.dc, hd.n, hn, by simp [Big]⟩
end Go.Proofs.Ytililfcegeddaaa

namespace Go.Proofs.Ytililfcegeddaaa
open Go.RowKit
set_option maxRecDepth 100000

theorem ctxOf_len (l : List Dt) : (ctxOf l).length ≤ 4 * (l.length + 1) := ctxOfK_len l 4
theorem ctxBy_len (a b : List Sp) (how : Int) : (ctxBy a b how).length ≤ 4 * (2 * a.length + 2 * b.length + 1) := ctxByK_len a b how 4
theorem right_one {d : Dt} (h : d.right = true) : ∀ x ∈ [d], x.right = true := fun x hx => by simp at hx; subst hx; exact h
/-- What a change of a flag has seen. -/
def seenC (t : Tr) (d : Dt) : List Sp := ctxBy (ctxOf t.dots) (ctxOf [d]) 0
theorem seenC_len (t : Tr) (d : Dt) : (seenC t d).length ≤ 4 * (8 * t.sz + 30) := by
  have h1 := ctxBy_len (ctxOf t.dots) (ctxOf [d]) 0
  have h2 := ctxOf_len t.dots
  have h3 := ctxOf_len [d]
  have h4 := dots_len t
  unfold seenC
  simp at h3
  omega

set_option maxHeartbeats 2000000 in
theorem seen_any (t : Tr) (d : Dt) (ve vk : Value) (w : World) (h : t.rd w w.heap.size ve vk) (hN : t.sz ≤ 4000) (hr : t.right 5 = true) (hd : d.right = true) (ho : d.Ok) :
    Calls Try.prog 46 #[.agg #[ve, vk], .agg #[.int .i64 d.dc, .int .i64 d.n]] w (RetO w 86 3 (fun _ => SpE) (seenC t d)) := by
  have HC : Hid (∀ w', Below w.heap.size w w' → t.rd w' w'.heap.size ve vk) := fun w' hb => rd_below hb hb.size _ _ _ h
  have hdl := dots_len t
  have h2 := ctxOf_len t.dots
  have h3 := ctxOf_len [d]
  simp only [List.length_singleton] at h3
  have HAA := hid (apart_ctxOf (right_dots t 5 hr))
  have HAB := hid (apart_ctxOf (right_one hd))
  have HDR := hid (right_one hd)
  obtain ⟨A3, n3, A4, n4, rfl, rfl⟩ := rd_shape h
  have hb0 := ((Below.refl w.heap.size w).alloc (Nat.le_refl _) (.cells #[.slice A3 t.es.length n3, .slice A4 t.ks.length n4] 25)).alloc (by simp) (.cells #[.int .i64 d.dc, .int .i64 d.n] 27)
  clear h
  go_enter Try.func46, Try.ntmps46
  go_wp2_with fail
  refine (tdots_any t _ _ _ (HC.out _ hb0) (by omega)).mono ?_
  rintro e w1 ⟨v1, n1, rfl, hn1, ho1, hb1⟩
  rw [hr] at ho1 hn1
  obtain rfl : n1 = 0 := hn1
  rw [if_pos rfl] at ho1
  have hs1 := hb1.size
  simp only [World.size_alloc] at hs1
  have hB1 : Below w.heap.size w w1 := hb0.trans (hb1.mono (by simp; omega))
  have c0 : w1.cell? ⟨w.heap.size + 1, 0, none⟩ = some (.int .i64 d.dc) := by rw [hb1.cell (p := ⟨w.heap.size + 1, 0, none⟩) (by simp)]; simp
  have c1 : w1.cell? ⟨w.heap.size + 1, 1, none⟩ = some (.int .i64 d.n) := by rw [hb1.cell (p := ⟨w.heap.size + 1, 1, none⟩) (by simp)]; simp
  have HO1 := hid ho1
  clear hr hd ho1
  go_wp2_with fail
  refine (cof_any [d] _ _ (SlP.oneB (E := DtE) (x := d) (cs := [.int .i64 d.dc, .int .i64 d.n]) ⟨rfl, ho⟩ rfl _ rfl (by simp)) HDR.out (by simp)).mono ?_
  rintro e w2 ⟨v2, rfl, ho2, hb2⟩
  have hs2 := hb2.size
  simp only [World.size_alloc] at hs2
  have hb2' : Below w1.heap.size w1 w2 := ((Below.refl _ w1).alloc (Nat.le_refl _) _).trans (hb2.mono (by simp))
  have hsl1 := (HO1.out.grow hb2').sl (by unfold Big; omega)
  have hsl2 := ho2.sl (by unfold Big; omega)
  have H1 := hid hsl1
  have H2 := hid hsl2
  clear hsl1 hsl2 ho2
  go_wp2_with fail
  refine (cunion_any (ctxOf t.dots) (ctxOf [d]) v1 v2 w2 H1.out H2.out HAA.out HAB.out (by omega) (by omega)).mono ?_
  rintro e w3 ⟨v3, rfl, ho3, hb3⟩
  go_wp2_with fail
  go_ret
  exact ⟨_, rfl, ho3.mono (by omega), (hB1.trans (hb2'.mono (by omega))).trans (hb3.mono (by omega))⟩

/-- flag.On's answer. -/
def onB (t : Tr) : Bool := t.right 5 && decide (0 < t.es.length)
theorem fon_any (t : Tr) (w : World) (ve vk : Value) (h : t.rd w w.heap.size ve vk) :
    Calls Try.prog 24 #[.agg #[ve, vk]] w fun e w' => e = .returned (.bool (onB t)) ∧ Below w.heap.size w w' := by
  have HC : Hid (∀ w', Below w.heap.size w w' → t.rd w' w'.heap.size ve vk) := fun w' hb => rd_below hb hb.size _ _ _ h
  have hfit := fit_rd _ _ _ h
  have hel : t.es.length ≤ 140737488355328 := by obtain ⟨es, ks⟩ := t; exact hfit.1
  obtain ⟨A3, n3, A4, n4, rfl, rfl⟩ := rd_shape h
  have hb0 := (Below.refl w.heap.size w).alloc (Nat.le_refl _) (.cells #[.slice A3 t.es.length n3, .slice A4 t.ks.length n4] 25)
  clear h hfit
  go_enter Try.func24, Try.ntmps24
  go_wp2_with fail
  refine (tRight_any t _ _ _ (HC.out _ hb0)).mono ?_
  rintro e w1 ⟨rfl, hb1⟩
  have hs1 := hb1.size
  simp only [World.size_alloc] at hs1
  have hB1 : Below w.heap.size w w1 := hb0.trans (hb1.mono (by simp))
  have c0 : w1.cell? ⟨w.heap.size, 0, none⟩ = some (.slice A3 t.es.length n3) := by rw [hb1.cell (p := ⟨w.heap.size, 0, none⟩) (by simp)]; simp
  cases hr : t.right 5
  · have HR : Hid (onB t = false) := by unfold Hid onB; rw [hr]; rfl
    clear hr
    go_wp2_with fail
    go_ret
    exact ⟨ret_bool HR.out.symm, hB1⟩
  · have HR : Hid (onB t = decide (0 < t.es.length)) := by unfold Hid onB; rw [hr]; rfl
    clear hr
    go_wp2_with fail
    go_ret
    exact ⟨ret_bool HR.out.symm, hB1⟩

/-- What flag.Disable knows. -/
def disC (t : Tr) (d : Dt) : List Sp := if chkT t d then seenC t d else []
set_option maxHeartbeats 4000000 in
theorem fdisable_any (t : Tr) (d : Dt) (ve vk : Value) (w : World) (h : t.rd w w.heap.size ve vk) (hN : t.sz ≤ 4000) (hd : d.Ok) :
    Calls Try.prog 25 #[.agg #[ve, vk], .agg #[.int .i64 d.dc, .int .i64 d.n]] w (RetCE w (.mk [] []) (disC t d) (chkI t d)) := by
  have HC : Hid (∀ w', Below w.heap.size w w' → t.rd w' w'.heap.size ve vk) := fun w' hb => rd_below hb hb.size _ _ _ h
  obtain ⟨A3, n3, A4, n4, rfl, rfl⟩ := rd_shape h
  have hb0 := (((Below.refl w.heap.size w).alloc (Nat.le_refl _) (.cells #[.slice A3 t.es.length n3, .slice A4 t.ks.length n4] 25)).alloc (by simp) (.cells #[.int .i64 d.dc, .int .i64 d.n] 27)).alloc (by simp; omega) (.cells #[.slice none 0 0, .slice none 0 0, .slice none 0 0] 33)
  clear h
  go_enter Try.func25, Try.ntmps25
  go_wp2_with fail
  refine (fcheck_any t d _ _ _ (HC.out _ hb0) (by omega)).mono ?_
  rintro e w1 ⟨rfl, hb1⟩
  have hs1 := hb1.size
  simp only [World.size_alloc] at hs1
  have hB1 : Below w.heap.size w w1 := hb0.trans (hb1.mono (by simp; omega))
  have c0 : w1.cell? ⟨w.heap.size, 0, none⟩ = some (.slice A3 t.es.length n3) := by
    rw [hb1.cell (p := ⟨w.heap.size, 0, none⟩) (by simp; omega)]
    rw [World.cell?_alloc_lt _ _ _ (by simp; omega), World.cell?_alloc_lt _ _ _ (by simp)]; simp
  have c1 : w1.cell? ⟨w.heap.size, 1, none⟩ = some (.slice A4 t.ks.length n4) := by
    rw [hb1.cell (p := ⟨w.heap.size, 1, none⟩) (by simp; omega)]
    rw [World.cell?_alloc_lt _ _ _ (by simp; omega), World.cell?_alloc_lt _ _ _ (by simp)]; simp
  have d0 : w1.cell? ⟨w.heap.size + 1, 0, none⟩ = some (.int .i64 d.dc) := by rw [hb1.cell (p := ⟨w.heap.size + 1, 0, none⟩) (by simp), World.cell?_alloc_lt _ _ _ (by simp)]; simp
  have d1 : w1.cell? ⟨w.heap.size + 1, 1, none⟩ = some (.int .i64 d.n) := by rw [hb1.cell (p := ⟨w.heap.size + 1, 1, none⟩) (by simp), World.cell?_alloc_lt _ _ _ (by simp)]; simp
  have hg : w1.heap[w.heap.size + 2]? = some (.cells #[.slice none 0 0, .slice none 0 0, .slice none 0 0] 33 (0, 0)) := (hb1.block (w.heap.size + 2) (by simp)).trans (heap_new (by simp))
  have HG := hid hg
  have k0 : w1.cell? ⟨w.heap.size + 2, 0, none⟩ = some (.slice none 0 0) := cell_cells (i := 0) hg
  have k1 : w1.cell? ⟨w.heap.size + 2, 1, none⟩ = some (.slice none 0 0) := cell_cells (i := 1) hg
  have k2 : w1.cell? ⟨w.heap.size + 2, 2, none⟩ = some (.slice none 0 0) := cell_cells (i := 2) hg
  have z0 := cells_frz (i := 0) hg
  have z1 := cells_frz (i := 1) hg
  have z2 := cells_frz (i := 2) hg
  clear hg hb1
  cases hc : chkT t d
  · have HE : Hid (chkI t d = 1) := by unfold Hid chkI; rw [hc]; rfl
    have HD : Hid (disC t d = []) := by unfold Hid disC; rw [hc]; rfl
    rw [HE.out]
    clear hc
    go_wp2_with fail
    obtain ⟨r0, r1, r2, hK, hS⟩ := box3 HG.out (.slice none 0 0) (.slice none 0 0) (.slice none 0 0)
    have hBW := ((hB1.setCell (p := ⟨w.heap.size + 2, 0, none⟩) (by simp) (.slice none 0 0)).setCell (p := ⟨w.heap.size + 2, 1, none⟩) (by simp) (.slice none 0 0)).setCell (p := ⟨w.heap.size + 2, 2, none⟩) (by simp) (.slice none 0 0)
    refine bodyPost_ret (v := .tuple #[.agg #[.slice none 0 0, .slice none 0 0, .slice none 0 0], .int .i64 1]) (by simp [results, Try.results25, go_sem, r0, r1, r2]) rfl ⟨_, _, _, by rw [HE.out], ?_, ?_, hBW⟩
    · exact rda_nil _ _
    · rw [HD.out]; exact SlA.nil
  · have HE : Hid (chkI t d = 0) := by unfold Hid chkI; rw [hc]; rfl
    have HD : Hid (disC t d = seenC t d) := by unfold Hid disC; rw [hc]; rfl
    have HDR := hid (chkT_right hc)
    have HTR := hid (chkT_tree hc)
    rw [HE.out]
    clear hc
    go_wp2_with fail
    refine (seen_any t d _ _ w1 (HC.out _ hB1) hN HTR.out HDR.out hd).mono ?_
    rintro e w2 ⟨v2, rfl, ho2, hb2⟩
    obtain ⟨A2, c2, rfl⟩ := ho2.shape
    have hs2 := hb2.size
    have hB2 : Below w.heap.size w w2 := hB1.trans (hb2.mono (by omega))
    have HG2 := hid ((hb2.block (w.heap.size + 2) (by omega)).trans HG.out)
    clear k0 k1 k2 z0 z1 z2 c0 c1 d0 d1
    have k0 : w2.cell? ⟨w.heap.size + 2, 0, none⟩ = some (.slice none 0 0) := cell_cells (i := 0) HG2.out
    have k1 : w2.cell? ⟨w.heap.size + 2, 1, none⟩ = some (.slice none 0 0) := cell_cells (i := 1) HG2.out
    have k2 : w2.cell? ⟨w.heap.size + 2, 2, none⟩ = some (.slice none 0 0) := cell_cells (i := 2) HG2.out
    have z0 := cells_frz (i := 0) HG2.out
    have z1 := cells_frz (i := 1) HG2.out
    have z2 := cells_frz (i := 2) HG2.out
    have HO2 := hid ho2
    have hsc := seenC_len t d
    clear ho2
    go_wp2_with fail
    obtain ⟨r0, r1, r2, hK, hS⟩ := box3 HG2.out (.slice none 0 0) (.slice none 0 0) (.slice A2 (seenC t d).length c2)
    have hBW := ((hB2.setCell (p := ⟨w.heap.size + 2, 0, none⟩) (by simp) (.slice none 0 0)).setCell (p := ⟨w.heap.size + 2, 1, none⟩) (by simp) (.slice none 0 0)).setCell (p := ⟨w.heap.size + 2, 2, none⟩) (by simp) (.slice A2 (seenC t d).length c2)
    refine bodyPost_ret (v := .tuple #[.agg #[.slice none 0 0, .slice none 0 0, .slice A2 (seenC t d).length c2], .int .i64 0]) (by simp [results, Try.results25, go_sem, r0, r1, r2]) rfl ⟨_, _, _, by rw [HE.out], rda_nil _ _, ?_, hBW⟩
    rw [HD.out]
    refine (HO2.out.sla (by unfold Big; omega)).up (fun b hb => hK b (by have := hb.1; omega)) (fun b hb => ⟨by have := hb.1; omega, by rw [hS]; exact hb.2.1⟩) (fun _ _ _ h => h)
end Go.Proofs.Ytililfcegeddaaa

namespace Go.Proofs.Ytililfcegeddaaa
open Go.RowKit
set_option maxRecDepth 100000

/-- What flag.Enable makes. -/
def enT (t : Tr) (d : Dt) : Tr := if chkT t d then .mk [⟨d.dc, d.n, ByteArray.empty, 0⟩] [] else .mk [] []
theorem EnE.mk' {d : Dt} (hd : d.Ok) : EnE (⟨d.dc, d.n, ByteArray.empty, 0⟩ : En) [.int .i64 d.dc, .int .i64 d.n, .string ByteArray.empty, .int .i64 0] := ⟨rfl, En.Ok.mk' hd ⟨by decide, by decide⟩⟩
theorem cell_box3 {w3 : World} {b : Nat} {x0 x1 x2 : Value} {a : Addr} {v : Value} {o : Obj} (hne : b ≠ a.block) (hlt : a.block < w3.heap.size) (h : w3.cell? a = some v) :
    ((((w3.setCell ⟨b, 0, none⟩ x0).setCell ⟨b, 1, none⟩ x1).setCell ⟨b, 2, none⟩ x2).alloc o).cell? a = some v := by
  rw [World.cell?_alloc_lt _ _ _ (by simpa using hlt), World.cell?_setCell_far _ _ _ _ hne, World.cell?_setCell_far _ _ _ _ hne, World.cell?_setCell_far _ _ _ _ hne]; exact h
set_option maxHeartbeats 4000000 in
theorem fenable_any (t : Tr) (d : Dt) (ve vk : Value) (w : World) (h : t.rd w w.heap.size ve vk) (hN : t.sz ≤ 4000) (hd : d.Ok) :
    Calls Try.prog 22 #[.agg #[ve, vk], .agg #[.int .i64 d.dc, .int .i64 d.n]] w (RetCE w (enT t d) (disC t d) (chkI t d)) := by
  have HC : Hid (∀ w', Below w.heap.size w w' → t.rd w' w'.heap.size ve vk) := fun w' hb => rd_below hb hb.size _ _ _ h
  obtain ⟨A3, n3, A4, n4, rfl, rfl⟩ := rd_shape h
  have hb0 := (((Below.refl w.heap.size w).alloc (Nat.le_refl _) (.cells #[.slice A3 t.es.length n3, .slice A4 t.ks.length n4] 25)).alloc (by simp) (.cells #[.int .i64 d.dc, .int .i64 d.n] 27)).alloc (by simp; omega) (.cells #[.slice none 0 0, .slice none 0 0, .slice none 0 0] 33)
  clear h
  go_enter Try.func22, Try.ntmps22
  go_wp2_with fail
  refine (fcheck_any t d _ _ _ (HC.out _ hb0) (by omega)).mono ?_
  rintro e w1 ⟨rfl, hb1⟩
  have hs1 := hb1.size
  simp only [World.size_alloc] at hs1
  have hB1 : Below w.heap.size w w1 := hb0.trans (hb1.mono (by simp; omega))
  have c0 : w1.cell? ⟨w.heap.size, 0, none⟩ = some (.slice A3 t.es.length n3) := by
    rw [hb1.cell (p := ⟨w.heap.size, 0, none⟩) (by simp; omega)]
    rw [World.cell?_alloc_lt _ _ _ (by simp; omega), World.cell?_alloc_lt _ _ _ (by simp)]; simp
  have c1 : w1.cell? ⟨w.heap.size, 1, none⟩ = some (.slice A4 t.ks.length n4) := by
    rw [hb1.cell (p := ⟨w.heap.size, 1, none⟩) (by simp; omega)]
    rw [World.cell?_alloc_lt _ _ _ (by simp; omega), World.cell?_alloc_lt _ _ _ (by simp)]; simp
  have d0 : w1.cell? ⟨w.heap.size + 1, 0, none⟩ = some (.int .i64 d.dc) := by rw [hb1.cell (p := ⟨w.heap.size + 1, 0, none⟩) (by simp), World.cell?_alloc_lt _ _ _ (by simp)]; simp
  have d1 : w1.cell? ⟨w.heap.size + 1, 1, none⟩ = some (.int .i64 d.n) := by rw [hb1.cell (p := ⟨w.heap.size + 1, 1, none⟩) (by simp), World.cell?_alloc_lt _ _ _ (by simp)]; simp
  have hg : w1.heap[w.heap.size + 2]? = some (.cells #[.slice none 0 0, .slice none 0 0, .slice none 0 0] 33 (0, 0)) := (hb1.block (w.heap.size + 2) (by simp)).trans (heap_new (by simp))
  have HG := hid hg
  have k0 : w1.cell? ⟨w.heap.size + 2, 0, none⟩ = some (.slice none 0 0) := cell_cells (i := 0) hg
  have k1 : w1.cell? ⟨w.heap.size + 2, 1, none⟩ = some (.slice none 0 0) := cell_cells (i := 1) hg
  have k2 : w1.cell? ⟨w.heap.size + 2, 2, none⟩ = some (.slice none 0 0) := cell_cells (i := 2) hg
  have z0 := cells_frz (i := 0) hg
  have z1 := cells_frz (i := 1) hg
  have z2 := cells_frz (i := 2) hg
  clear hg hb1
  cases hc : chkT t d
  · have HE : Hid (chkI t d = 1) := by unfold Hid chkI; rw [hc]; rfl
    have HD : Hid (disC t d = []) := by unfold Hid disC; rw [hc]; rfl
    have HT : Hid (enT t d = .mk [] []) := by unfold Hid enT; rw [hc]; rfl
    rw [HE.out]
    clear hc
    go_wp2_with fail
    obtain ⟨r0, r1, r2, hK, hS⟩ := box3 HG.out (.slice none 0 0) (.slice none 0 0) (.slice none 0 0)
    have hBW := ((hB1.setCell (p := ⟨w.heap.size + 2, 0, none⟩) (by simp) (.slice none 0 0)).setCell (p := ⟨w.heap.size + 2, 1, none⟩) (by simp) (.slice none 0 0)).setCell (p := ⟨w.heap.size + 2, 2, none⟩) (by simp) (.slice none 0 0)
    refine bodyPost_ret (v := .tuple #[.agg #[.slice none 0 0, .slice none 0 0, .slice none 0 0], .int .i64 1]) (by simp [results, Try.results22, go_sem, r0, r1, r2]) rfl ⟨_, _, _, by rw [HE.out], ?_, ?_, hBW⟩
    · rw [HT.out]; exact rda_nil _ _
    · rw [HD.out]; exact SlA.nil
  · have HE : Hid (chkI t d = 0) := by unfold Hid chkI; rw [hc]; rfl
    have HD : Hid (disC t d = seenC t d) := by unfold Hid disC; rw [hc]; rfl
    have HT : Hid (enT t d = .mk [⟨d.dc, d.n, ByteArray.empty, 0⟩] []) := by unfold Hid enT; rw [hc]; rfl
    have HDR := hid (chkT_right hc)
    have HTR := hid (chkT_tree hc)
    have hsc := seenC_len t d
    have HK : Hid (∀ w', Below w1.heap.size w1 w' → w'.cell? ⟨w.heap.size + 1, 0, none⟩ = some (.int .i64 d.dc) ∧ w'.cell? ⟨w.heap.size + 1, 1, none⟩ = some (.int .i64 d.n) ∧ w'.cell? ⟨w.heap.size, 0, none⟩ = some (.slice A3 t.es.length n3) ∧ w'.cell? ⟨w.heap.size, 1, none⟩ = some (.slice A4 t.ks.length n4)) := fun w' hb =>
      ⟨(hb.cell (p := ⟨w.heap.size + 1, 0, none⟩) (by show w.heap.size + 1 < _; omega)).trans d0, (hb.cell (p := ⟨w.heap.size + 1, 1, none⟩) (by show w.heap.size + 1 < _; omega)).trans d1, (hb.cell (p := ⟨w.heap.size, 0, none⟩) (by show w.heap.size < _; omega)).trans c0, (hb.cell (p := ⟨w.heap.size, 1, none⟩) (by show w.heap.size < _; omega)).trans c1⟩
    rw [HE.out]
    have hne5 : w.heap.size + 1 + 1 ≠ w.heap.size := by omega
    have hne6 : w.heap.size ≠ w.heap.size + 1 + 1 := by omega
    clear hc k0 k1 k2 z0 z1 z2
    go_upto_region 4 with (fail)
    go_region_held3 (fun w' => w'.cell? ⟨w.heap.size + 1, 0, none⟩ = some (.int .i64 d.dc) ∧ w'.cell? ⟨w.heap.size + 1, 1, none⟩ = some (.int .i64 d.n) ∧ w'.cell? ⟨w.heap.size, 0, none⟩ = some (.slice A3 t.es.length n3) ∧ w'.cell? ⟨w.heap.size, 1, none⟩ = some (.slice A4 t.ks.length n4))
      (first | go_keep | exact HK.out _ hbx.out | exact ⟨cell_box3 (by simp) (by show w.heap.size + 1 < _; omega) (HK.out _ hbx.out).1, cell_box3 (by simp) (by show w.heap.size + 1 < _; omega) (HK.out _ hbx.out).2.1, cell_box3 (by show w.heap.size + 1 + 1 ≠ w.heap.size; omega) (by show w.heap.size < _; omega) (HK.out _ hbx.out).2.2.1, cell_box3 (by show w.heap.size + 1 + 1 ≠ w.heap.size; omega) (by show w.heap.size < _; omega) (HK.out _ hbx.out).2.2.2⟩)
      (first | (go_at_call 46; go_loud ((refine (seen_any t d _ _ _ (HC.out _ (by first | exact hB1.drew | exact (hB1.alloc (by omega) _).drew | exact hB1.drew.alloc (by show w.heap.size ≤ w1.heap.size; omega) _)) hN HTR.out HDR.out hd).mono ?_); rintro e w3 ⟨v3, rfl, ho3, hb3⟩; obtain ⟨A5, c5, hv3⟩ := ho3.shape; subst hv3; have HO3 := hid ho3; have HB3 := hid hb3; have hbx : Hid (Below w1.heap.size w1 w3) := (by first | exact ((Below.refl _ w1).drew).trans hb3 | exact (((Below.refl _ w1).alloc (Nat.le_refl _) _).drew).trans (hb3.mono (Nat.le_of_lt (by simp))) | exact (((Below.refl _ w1).drew).alloc (Nat.le_refl _) _).trans (hb3.mono (Nat.le_of_lt (by simp)))); have hs3 := hbx.out.size; have HG3 := hid ((hbx.out.block (w.heap.size + 2) (by omega)).trans HG.out); have k0 : w3.cell? ⟨w.heap.size + 2, 0, none⟩ = some (.slice none 0 0) := cell_cells (i := 0) HG3.out; have k1 : w3.cell? ⟨w.heap.size + 2, 1, none⟩ = some (.slice none 0 0) := cell_cells (i := 1) HG3.out; have k2 : w3.cell? ⟨w.heap.size + 2, 2, none⟩ = some (.slice none 0 0) := cell_cells (i := 2) HG3.out; have z0 := cells_frz (i := 0) HG3.out; have z1 := cells_frz (i := 1) HG3.out; have z2 := cells_frz (i := 2) HG3.out; have hlt3 : w.heap.size + 2 < w3.heap.size := (by omega); have hne3 : w.heap.size + 2 ≠ w3.heap.size := (by omega); clear ho3 hb3)))
    all_goals go_wp2_with fail
    · have hE3 : w3.heap[w1.heap.size]? = some (.cells #[.int .i64 d.dc, .int .i64 d.n, .string ⟨#[]⟩, .int .i64 0] 41 (0, 0)) := (HB3.out.block w1.heap.size (by simp)).trans (heap_new rfl)
      obtain ⟨r0, r1, r2, hK, hS⟩ := box3 HG3.out (.slice (some ⟨w1.heap.size, 0, none⟩) 1 1) (.slice none 0 0) (.slice A5 (seenC t d).length c5)
      have hBW : Below w.heap.size w (((w3.setCell ⟨w.heap.size + 2, 0, none⟩ (.slice (some ⟨w1.heap.size, 0, none⟩) 1 1)).setCell ⟨w.heap.size + 2, 1, none⟩ (.slice none 0 0)).setCell ⟨w.heap.size + 2, 2, none⟩ (.slice A5 (seenC t d).length c5)) := (((hB1.trans (hbx.out.mono (by omega))).setCell (by simp) _).setCell (by simp) _).setCell (by simp) _
      clear k0 k1 k2 z0 z1 z2
      generalize (((w3.setCell ⟨w.heap.size + 2, 0, none⟩ (.slice (some ⟨w1.heap.size, 0, none⟩) 1 1)).setCell ⟨w.heap.size + 2, 1, none⟩ (.slice none 0 0)).setCell ⟨w.heap.size + 2, 2, none⟩ (.slice A5 (seenC t d).length c5)) = W at *
      refine bodyPost_ret (v := .tuple #[.agg #[.slice (some ⟨w1.heap.size, 0, none⟩) 1 1, .slice none 0 0, .slice A5 (seenC t d).length c5], .int .i64 0]) (by simp [results, Try.results22, go_sem, r0, r1, r2]) rfl ⟨_, _, _, by rw [HE.out], ?_, ?_, hBW⟩
      · rw [HT.out, rda_iff]
        refine ⟨?_, SlA.nil⟩
        exact SlA.one (x := (⟨d.dc, d.n, ByteArray.empty, 0⟩ : En)) (cs := [.int .i64 d.dc, .int .i64 d.n, .string ByteArray.empty, .int .i64 0]) (e := 41) (z := (0, 0)) ⟨rfl, En.Ok.mk' hd ⟨by decide, by decide⟩⟩ rfl ((hK _ (by omega)).trans hE3) ⟨by omega, by have := HB3.out.size; simp at this; omega⟩
      · rw [HD.out]
        refine (HO3.out.sla (by unfold Big; omega)).up (fun b hb => hK b (by have := hb.1; simp only [World.size_alloc, World.size_drew] at this; omega)) (fun b hb => ⟨by have := hb.1; simp only [World.size_alloc, World.size_drew] at this; omega, by have := hb.2.1; omega⟩) (fun _ _ _ h => h)
    · obtain ⟨r0, r1, r2, hK, hS⟩ := box3 HG3.out (.slice (some ⟨w3.heap.size, 0, none⟩) 1 1) (.slice none 0 0) (.slice A5 (seenC t d).length c5)
      have hBW : Below w.heap.size w (((w3.setCell ⟨w.heap.size + 2, 0, none⟩ (.slice (some ⟨w3.heap.size, 0, none⟩) 1 1)).setCell ⟨w.heap.size + 2, 1, none⟩ (.slice none 0 0)).setCell ⟨w.heap.size + 2, 2, none⟩ (.slice A5 (seenC t d).length c5)) := (((hB1.trans (hbx.out.mono (by omega))).setCell (by simp) _).setCell (by simp) _).setCell (by simp) _
      clear k0 k1 k2 z0 z1 z2
      generalize (((w3.setCell ⟨w.heap.size + 2, 0, none⟩ (.slice (some ⟨w3.heap.size, 0, none⟩) 1 1)).setCell ⟨w.heap.size + 2, 1, none⟩ (.slice none 0 0)).setCell ⟨w.heap.size + 2, 2, none⟩ (.slice A5 (seenC t d).length c5)) = W at *
      have q0 : (W.alloc (.cells #[.int .i64 d.dc, .int .i64 d.n, .string ⟨#[]⟩, .int .i64 0] 41)).cell? ⟨w.heap.size + 1 + 1, 0, none⟩ = some (.slice (some ⟨w3.heap.size, 0, none⟩) 1 1) := by rw [World.cell?_alloc_lt _ _ _ (by show w.heap.size + 2 < _; omega)]; exact r0
      have q1 : (W.alloc (.cells #[.int .i64 d.dc, .int .i64 d.n, .string ⟨#[]⟩, .int .i64 0] 41)).cell? ⟨w.heap.size + 1 + 1, 1, none⟩ = some (.slice none 0 0) := by rw [World.cell?_alloc_lt _ _ _ (by show w.heap.size + 2 < _; omega)]; exact r1
      have q2 : (W.alloc (.cells #[.int .i64 d.dc, .int .i64 d.n, .string ⟨#[]⟩, .int .i64 0] 41)).cell? ⟨w.heap.size + 1 + 1, 2, none⟩ = some (.slice A5 (seenC t d).length c5) := by rw [World.cell?_alloc_lt _ _ _ (by show w.heap.size + 2 < _; omega)]; exact r2
      refine bodyPost_ret (v := .tuple #[.agg #[.slice (some ⟨w3.heap.size, 0, none⟩) 1 1, .slice none 0 0, .slice A5 (seenC t d).length c5], .int .i64 0]) (by simp [results, Try.results22, go_sem, q0, q1, q2]) rfl ⟨_, _, _, by rw [HE.out], ?_, ?_, hBW.alloc (by omega) _⟩
      · rw [HT.out, rda_iff]
        refine ⟨?_, SlA.nil⟩
        exact SlA.one (x := (⟨d.dc, d.n, ByteArray.empty, 0⟩ : En)) (cs := [.int .i64 d.dc, .int .i64 d.n, .string ByteArray.empty, .int .i64 0]) (e := 41) (z := (0, 0)) ⟨rfl, En.Ok.mk' hd ⟨by decide, by decide⟩⟩ rfl (heap_new hS.symm) ⟨by omega, by rw [World.size_alloc]; omega⟩
      · rw [HD.out]
        refine (HO3.out.sla (by unfold Big; omega)).up (fun b hb => (heap_old (by have := hb.2.1; omega)).trans (hK b (by have := hb.1; simp only [World.size_drew] at this; omega))) (fun b hb => ⟨by have := hb.1; simp only [World.size_drew] at this; omega, by rw [World.size_alloc]; have := hb.2.1; omega⟩) (fun _ _ _ h => h)
end Go.Proofs.Ytililfcegeddaaa

namespace Go.Proofs.Ytililfcegeddaaa
open Go.RowKit
set_option maxRecDepth 100000

theorem awk10_E : chkI (.mk [] []) ⟨1, 1⟩ = 0 := by kernel_rfl
set_option maxHeartbeats 4000000 in
theorem awake10_any (w : World) : Calls Try.prog 19 #[] w fun e w' => e = .returned (.bool true) ∧ Below w.heap.size w w' := by
  have hb0 := (Below.refl w.heap.size w).alloc (Nat.le_refl _) (.cells #[.int .i64 1, .int .i64 1] 27)
  go_enter Try.func19, Try.ntmps19
  go_wp2_with fail
  refine (fenable_any (.mk [] []) ⟨1, 1⟩ _ _ _ rd_empty (by simp [Tr.sz, Tr.szL]) ⟨⟨by decide, by decide⟩, ⟨by decide, by decide⟩⟩).mono ?_
  rintro e w1 ⟨ve, vk, vc, rfl, hrd, hsc, hb1⟩
  rw [awk10_E]
  have hv : onB (enT (.mk [] []) ⟨1, 1⟩) = true := by kernel_rfl
  have HV := hid hv
  clear hv
  have ht1 : chkT (.mk [] []) ⟨1, 1⟩ = true := by kernel_rfl
  have HT1 : Hid (enT (.mk [] []) ⟨1, 1⟩ = .mk [⟨1, 1, ByteArray.empty, 0⟩] []) := by unfold Hid enT; rw [ht1]; rfl
  clear ht1
  have hc1 : disC (.mk [] []) ⟨1, 1⟩ = ctxOf [⟨1, 1⟩] := by kernel_rfl
  have HC1 := hid hc1
  clear hc1
  generalize enT (.mk [] []) ⟨1, 1⟩ = T at *
  generalize disC (.mk [] []) ⟨1, 1⟩ = C at *
  obtain ⟨Ae, ne, Ak, nk, rfl, rfl⟩ := rda_shape hrd
  obtain ⟨Ac, nc, rfl⟩ := hsc.shape
  have hs1 := hb1.size
  simp only [World.size_alloc] at hs1
  have hB1 : Below w.heap.size w w1 := hb0.trans (hb1.mono (by simp))
  have d0 : w1.cell? ⟨w.heap.size, 0, none⟩ = some (.int .i64 1) := by rw [hb1.cell (p := ⟨w.heap.size, 0, none⟩) (by simp)]; simp
  have d1 : w1.cell? ⟨w.heap.size, 1, none⟩ = some (.int .i64 1) := by rw [hb1.cell (p := ⟨w.heap.size, 1, none⟩) (by simp)]; simp
  have HT : Hid (∀ w', Below w1.heap.size w1 w' → T.rd w' w'.heap.size (.slice Ae T.es.length ne) (.slice Ak T.ks.length nk)) := fun w' hb => rda_rd hrd (fun b hb => hb.2) hb
  have HCt : Hid (∀ w', Below w1.heap.size w1 w' → SlP w' w'.heap.size 3 SpE (.slice Ac C.length nc) C) := fun w' hb => hsc.slp (fun b hb => hb.2) hb
  have HSM : Hid ((trEq T (buildL [([], ⟨1, 1, ByteArray.empty, 0⟩)]) && decide (C = ctxBy [] [⟨1, 1, 1⟩] 0)) = true) := by
    unfold Hid
    rw [HT1.out, HC1.out, build_one_leaf, put_ctx (d := ⟨1, 1⟩) (by decide)]
    simp [trEq]
  have HB : Hid (∀ w', Below (w1.heap.size + 1) (w1.alloc (.cells #[.slice Ae T.es.length ne, .slice Ak T.ks.length nk, .slice Ac C.length nc] 33)) w' → Below w.heap.size w w' ∧ Below w1.heap.size w1 w' ∧ (w'.cell? ⟨w.heap.size, 0, none⟩ = some (.int .i64 1) ∧ w'.cell? ⟨w.heap.size, 1, none⟩ = some (.int .i64 1) ∧ w'.cell? ⟨w1.heap.size, 0, none⟩ = some (.slice Ae T.es.length ne) ∧ w'.cell? ⟨w1.heap.size, 1, none⟩ = some (.slice Ak T.ks.length nk) ∧ w'.cell? ⟨w1.heap.size, 2, none⟩ = some (.slice Ac C.length nc))) := fun w' hb => by
    have hB : Below w1.heap.size w1 w' := ((Below.refl _ w1).alloc (Nat.le_refl _) _).trans (hb.mono (by omega))
    refine ⟨hB1.trans (hB.mono (by omega)), hB, ?_, ?_, ?_, ?_, ?_⟩
    · rw [hB.cell (p := ⟨w.heap.size, 0, none⟩) (by show w.heap.size < _; omega)]; exact d0
    · rw [hB.cell (p := ⟨w.heap.size, 1, none⟩) (by show w.heap.size < _; omega)]; exact d1
    · rw [hb.cell (p := ⟨w1.heap.size, 0, none⟩) (by simp), World.cell?_alloc_new]; rfl
    · rw [hb.cell (p := ⟨w1.heap.size, 1, none⟩) (by simp), World.cell?_alloc_new]; rfl
    · rw [hb.cell (p := ⟨w1.heap.size, 2, none⟩) (by simp), World.cell?_alloc_new]; rfl
  have hne1 : w.heap.size < w1.heap.size := by omega
  clear hrd hsc
  go_upto_region 3 with (fail)
  go_region_held3 (fun w' => w'.cell? ⟨w.heap.size, 0, none⟩ = some (.int .i64 1) ∧ w'.cell? ⟨w.heap.size, 1, none⟩ = some (.int .i64 1) ∧ w'.cell? ⟨w1.heap.size, 0, none⟩ = some (.slice Ae T.es.length ne) ∧ w'.cell? ⟨w1.heap.size, 1, none⟩ = some (.slice Ak T.ks.length nk) ∧ w'.cell? ⟨w1.heap.size, 2, none⟩ = some (.slice Ac C.length nc))
    (first | go_keep | exact (HB.out _ hb4.out).2.2 | exact (HB.out _ hb3.out).2.2 | exact (HB.out _ hb2.out).2.2)
    (first | (go_at_call 24; go_loud ((refine (fon_any T _ _ _ (HT.out _ (((Below.refl _ w1).alloc (Nat.le_refl _) _).drew))).mono ?_); rw [HV.out]; rintro e w2 ⟨rfl, hb⟩; have hb2 := hid (((Below.refl (w1.heap.size + 1) (w1.alloc (.cells #[.slice Ae T.es.length ne, .slice Ak T.ks.length nk, .slice Ac C.length nc] 33))).drew).trans (hb.mono (by simp)))))
           | (go_at_call 15; go_loud ((refine (r10put_any [] ⟨1, 1, ByteArray.empty, 0⟩ [] _ _ w2 ⟨⟨by decide, by decide⟩, ⟨by decide, by decide⟩, ⟨by decide, by decide⟩, by simp [Big]⟩ SlP.nil SlP.nil (by simp) (fun _ h => by cases h) (fun s hs => by simp at hs; subst hs; decide)).mono ?_); rintro e w3 ⟨ve3, vk3, vc3, rfl, hrd3, hsc3, hb⟩; obtain ⟨A5, n5, A6, n6, hv5, hv6⟩ := rda_shape hrd3; subst hv5; subst hv6; obtain ⟨A7, n7, hv7⟩ := hsc3.shape; subst hv7; have hrd4 := hid (rda_rd hrd3 (fun b hb => hb.2) (Below.refl _ _)); have hsc4 := hid (hsc3.slp (fun b hb => hb.2) (Below.refl _ _)); clear hrd3 hsc3; have hb3 := hid (hb2.out.trans (hb.mono (by have := hb2.out.size; simpa using this)))))
           | (go_at_call 14; go_loud ((refine (r09same_any T _ C _ _ _ _ _ _ _ w3 (HT.out _ (HB.out _ hb3.out).2.1) hrd4.out (HCt.out _ (HB.out _ hb3.out).2.1) hsc4.out).mono ?_); rw [HSM.out]; rintro e w4 ⟨rfl, hb⟩; have hb4 := hid (hb3.out.trans (hb.mono (by have := hb3.out.size; simpa using this))))))
  go_wp2_with fail
  go_ret
  exact ⟨rfl, (HB.out _ hb4.out).1⟩
end Go.Proofs.Ytililfcegeddaaa

namespace Go.Proofs.Ytililfcegeddaaa
open Go.RowKit
set_option maxRecDepth 100000

theorem small10_any (t : Tr) (w : World) (ve vk : Value) (h : t.rd w w.heap.size ve vk) :
    Calls Try.prog 20 #[.agg #[ve, vk]] w fun e w' => e = .returned (.bool (smlB t 40)) ∧ Below w.heap.size w w' := by
  have HC : Hid (∀ w', Below w.heap.size w w' → t.rd w' w'.heap.size ve vk) := fun w' hb => rd_below hb hb.size _ _ _ h
  obtain ⟨A3, n3, A4, n4, rfl, rfl⟩ := rd_shape h
  have hb0 := (Below.refl w.heap.size w).alloc (Nat.le_refl _) (.cells #[.slice A3 t.es.length n3, .slice A4 t.ks.length n4] 25)
  clear h
  go_enter Try.func20, Try.ntmps20
  go_wp2_with fail
  refine (r08small_any t _ _ _ 40 (HC.out _ hb0) (by omega) (by omega)).mono ?_
  rintro e w1 ⟨rfl, hb1⟩
  rw [show decide (0 ≤ t.room 40 8) = smlB t 40 from rfl]
  go_wp2_with fail
  go_ret
  exact ⟨rfl, hb0.trans (hb1.mono (by simp))⟩

set_option maxHeartbeats 4000000 in
theorem lawFOn_any (t : Tr) (w : World) (ve vk : Value) (h : t.rd w w.heap.size ve vk) :
    Calls Try.prog 7 #[.agg #[ve, vk]] w fun e w' => e = .returned (.bool true) ∧ Below w.heap.size w w' := by
  have HC : Hid (∀ w', Below w.heap.size w w' → t.rd w' w'.heap.size ve vk) := fun w' hb => rd_below hb hb.size _ _ _ h
  have hfit := fit_rd _ _ _ h
  have hel : t.es.length ≤ 140737488355328 := by obtain ⟨es, ks⟩ := t; exact hfit.1
  obtain ⟨A3, n3, A4, n4, rfl, rfl⟩ := rd_shape h
  have HB : Hid (∀ w', Below (w.heap.size + 1) (w.alloc (.cells #[.slice A3 t.es.length n3, .slice A4 t.ks.length n4] 25)) w' → Below w.heap.size w w' ∧ w.heap.size + 1 ≤ w'.heap.size ∧ w'.cell? ⟨w.heap.size, 0, none⟩ = some (.slice A3 t.es.length n3) ∧ w'.cell? ⟨w.heap.size, 1, none⟩ = some (.slice A4 t.ks.length n4)) := fun w' hb =>
    ⟨((Below.refl _ w).alloc (Nat.le_refl _) _).trans (hb.mono (by omega)), by have := hb.size; simpa using this, by rw [hb.cell (p := ⟨w.heap.size, 0, none⟩) (by simp)]; simp, by rw [hb.cell (p := ⟨w.heap.size, 1, none⟩) (by simp)]; simp⟩
  clear h hfit
  go_enter Try.func7, Try.ntmps7
  go_wp2_with fail
  refine (awake10_any _).mono ?_
  rintro e w1 ⟨rfl, hb1⟩
  have hb1' := hid (hb1.mono (show w.heap.size + 1 ≤ _ by simp))
  clear hb1
  obtain ⟨_, _, c0, c1⟩ := HB.out _ hb1'.out
  go_wp2_with fail
  refine (small10_any t w1 _ _ (HC.out _ (HB.out _ hb1'.out).1)).mono ?_
  rintro e w2 ⟨rfl, hb2⟩
  have hb2' := hid (hb1'.out.trans (hb2.mono (HB.out _ hb1'.out).2.1))
  clear hb2 c0 c1
  obtain ⟨hB2, hs2, c0, c1⟩ := HB.out _ hb2'.out
  cases hs : smlB t 40
  · clear hs
    go_wp2_with fail
    refine (awake10_any _).mono ?_
    rintro e w3 ⟨rfl, hb3⟩
    have hb3' := hb2'.out.trans (hb3.mono hs2)
    go_wp2_with fail
    go_ret
    exact ⟨rfl, (HB.out _ hb3').1⟩
  · clear hs
    have f0 := far_cell (B := w2.heap.size) c0 (by omega)
    have f1 := far_cell (B := w2.heap.size) c1 (by omega)
    have HC2 : Hid (∀ w', Below w2.heap.size w2 w' → t.rd w' w'.heap.size (.slice A3 t.es.length n3) (.slice A4 t.ks.length n4)) := fun w' hb => HC.out _ (hB2.trans (hb.mono (by omega)))
    have h0 : decide ((0 : Int) < (t.es.length : Int)) = decide (0 < t.es.length) := by simp
    cases hr : t.right 5
    · have HR : Hid (onB t = false) := by unfold Hid onB; rw [hr]; rfl
      go_upto_region 3 with (fail)
      refine wp_region_far w2.heap.size (by kernel_rfl) (by kernel_rfl) ?_
      repeat (go_big_quiet_step (first | (go_at_call 24; exact Calls.far_all (by simp) (fun w' hb' => HR.out ▸ fon_any t w' _ _ (HC2.out w' hb'))) | (go_at_call 16; exact Calls.far_all (by simp) (fun w' hb' => hr ▸ r08Right_any t w' _ _ (HC2.out w' hb')))))
      refine wpQuiet_nil ?_
      intro wq hbq
      go_wp2_with fail
      go_ret
      exact ⟨rfl, hB2.trans (hbq.mono (by omega))⟩
    · cases hl : decide (0 < t.es.length)
      · have HR : Hid (onB t = false) := by unfold Hid onB; rw [hr, hl]; rfl
        rw [hl] at h0
        go_upto_region 3 with (fail)
        refine wp_region_far w2.heap.size (by kernel_rfl) (by kernel_rfl) ?_
        repeat (go_big_quiet_step (first | (go_at_call 24; exact Calls.far_all (by simp) (fun w' hb' => HR.out ▸ fon_any t w' _ _ (HC2.out w' hb'))) | (go_at_call 16; exact Calls.far_all (by simp) (fun w' hb' => hr ▸ r08Right_any t w' _ _ (HC2.out w' hb')))))
        refine wpQuiet_nil ?_
        intro wq hbq
        go_wp2_with fail
        go_ret
        exact ⟨rfl, hB2.trans (hbq.mono (by omega))⟩
      · have HR : Hid (onB t = true) := by unfold Hid onB; rw [hr, hl]; rfl
        rw [hl] at h0
        go_upto_region 3 with (fail)
        refine wp_region_far w2.heap.size (by kernel_rfl) (by kernel_rfl) ?_
        repeat (go_big_quiet_step (first | (go_at_call 24; exact Calls.far_all (by simp) (fun w' hb' => HR.out ▸ fon_any t w' _ _ (HC2.out w' hb'))) | (go_at_call 16; exact Calls.far_all (by simp) (fun w' hb' => hr ▸ r08Right_any t w' _ _ (HC2.out w' hb')))))
        refine wpQuiet_nil ?_
        intro wq hbq
        go_wp2_with fail
        go_ret
        exact ⟨rfl, hB2.trans (hbq.mono (by omega))⟩

set_option maxHeartbeats 4000000 in
theorem lawFC_any (t : Tr) (d : Dt) (w : World) (ve vk : Value) (h : t.rd w w.heap.size ve vk) (_ : d.Ok) :
    Calls Try.prog 5 #[.agg #[ve, vk], .agg #[.int .i64 d.dc, .int .i64 d.n]] w fun e w' => e = .returned (.bool true) ∧ Below w.heap.size w w' := by
  have HC : Hid (∀ w', Below w.heap.size w w' → t.rd w' w'.heap.size ve vk) := fun w' hb => rd_below hb hb.size _ _ _ h
  have hfit := fit_rd _ _ _ h
  have hel : t.es.length ≤ 140737488355328 := by obtain ⟨es, ks⟩ := t; exact hfit.1
  obtain ⟨A3, n3, A4, n4, rfl, rfl⟩ := rd_shape h
  have HB : Hid (∀ w', Below (w.heap.size + 2) ((w.alloc (.cells #[.slice A3 t.es.length n3, .slice A4 t.ks.length n4] 25)).alloc (.cells #[.int .i64 d.dc, .int .i64 d.n] 27)) w' → Below w.heap.size w w' ∧ w.heap.size + 2 ≤ w'.heap.size ∧ w'.cell? ⟨w.heap.size, 0, none⟩ = some (.slice A3 t.es.length n3) ∧ w'.cell? ⟨w.heap.size, 1, none⟩ = some (.slice A4 t.ks.length n4) ∧ w'.cell? ⟨w.heap.size + 1, 0, none⟩ = some (.int .i64 d.dc) ∧ w'.cell? ⟨w.heap.size + 1, 1, none⟩ = some (.int .i64 d.n)) := fun w' hb => by
    refine ⟨(((Below.refl _ w).alloc (Nat.le_refl _) _).alloc (by simp) _).trans (hb.mono (by omega)), by have := hb.size; simpa using this, ?_, ?_, ?_, ?_⟩
    · rw [hb.cell (p := ⟨w.heap.size, 0, none⟩) (by simp), World.cell?_alloc_lt _ _ _ (by simp)]; simp
    · rw [hb.cell (p := ⟨w.heap.size, 1, none⟩) (by simp), World.cell?_alloc_lt _ _ _ (by simp)]; simp
    · rw [hb.cell (p := ⟨w.heap.size + 1, 0, none⟩) (by simp)]; simp
    · rw [hb.cell (p := ⟨w.heap.size + 1, 1, none⟩) (by simp)]; simp
  clear h hfit
  go_enter Try.func5, Try.ntmps5
  go_wp2_with fail
  refine (awake10_any _).mono ?_
  rintro e w1 ⟨rfl, hb1⟩
  have hb1' := hid (hb1.mono (show w.heap.size + 2 ≤ _ by simp))
  clear hb1
  obtain ⟨_, _, c0, c1, d0, d1⟩ := HB.out _ hb1'.out
  go_wp2_with fail
  refine (small10_any t w1 _ _ (HC.out _ (HB.out _ hb1'.out).1)).mono ?_
  rintro e w2 ⟨rfl, hb2⟩
  have hb2' := hid (hb1'.out.trans (hb2.mono (HB.out _ hb1'.out).2.1))
  clear hb2 c0 c1 d0 d1
  obtain ⟨hB2, hs2, c0, c1, d0, d1⟩ := HB.out _ hb2'.out
  cases hs : smlB t 40
  · clear hs
    go_wp2_with fail
    refine (awake10_any _).mono ?_
    rintro e w3 ⟨rfl, hb3⟩
    have hb3' := hb2'.out.trans (hb3.mono hs2)
    go_wp2_with fail
    go_ret
    exact ⟨rfl, (HB.out _ hb3').1⟩
  · have hsz : t.sz ≤ 90000 := by have := sml_sz hs; omega
    clear hs
    have f0 := far_cell (B := w2.heap.size) c0 (by omega)
    have f1 := far_cell (B := w2.heap.size) c1 (by omega)
    have f2 := far_cell (B := w2.heap.size) d0 (by omega)
    have f3 := far_cell (B := w2.heap.size) d1 (by omega)
    have HC2 : Hid (∀ w', Below w2.heap.size w2 w' → t.rd w' w'.heap.size (.slice A3 t.es.length n3) (.slice A4 t.ks.length n4)) := fun w' hb => HC.out _ (hB2.trans (hb.mono (by omega)))
    cases hc : chkT t d
    · have HI : Hid (chkI t d = 1) := by unfold Hid chkI; rw [hc]; rfl
      go_upto_region 3 with (fail)
      refine wp_region_far w2.heap.size (by kernel_rfl) (by kernel_rfl) ?_
      repeat (go_big_quiet_step (first | (go_at_call 21; exact Calls.far_all (by simp) (fun w' hb' => HI.out ▸ fcheck_any t d _ _ w' (HC2.out w' hb') hsz)) | (go_at_call 13; exact Calls.far_all (by simp) (fun w' hb' => hc ▸ r10check_any t d _ _ w' (HC2.out w' hb') hsz))))
      refine wpQuiet_nil ?_
      intro wq hbq
      go_wp2_with fail
      go_ret
      exact ⟨rfl, hB2.trans (hbq.mono (by omega))⟩
    · have HI : Hid (chkI t d = 0) := by unfold Hid chkI; rw [hc]; rfl
      go_upto_region 3 with (fail)
      refine wp_region_far w2.heap.size (by kernel_rfl) (by kernel_rfl) ?_
      repeat (go_big_quiet_step (first | (go_at_call 21; exact Calls.far_all (by simp) (fun w' hb' => HI.out ▸ fcheck_any t d _ _ w' (HC2.out w' hb') hsz)) | (go_at_call 13; exact Calls.far_all (by simp) (fun w' hb' => hc ▸ r10check_any t d _ _ w' (HC2.out w' hb') hsz))))
      refine wpQuiet_nil ?_
      intro wq hbq
      go_wp2_with fail
      go_ret
      exact ⟨rfl, hB2.trans (hbq.mono (by omega))⟩
end Go.Proofs.Ytililfcegeddaaa

namespace Go.Proofs.Ytililfcegeddaaa
open Go.ChangeShapes Go.WideShapes Go.ChangeAt Go.RowKit
set_option maxRecDepth 100000

/-- No weight of a datum is beyond the reach. -/
def Wt {H : Type} (P : Program) (t : TypeId) (d : DataW H) : Prop := ∀ m ∈ d.weights P t, m ≤ reachBytes

section
variable {H : Type} {enc : TypeId × Value → H} {w : World}

theorem Wt.field {P : Program} {t : TypeId} {fs : Array Field} {parts : List (DataW H)} (hu : P.underlying t = some (.struct fs)) (h : Wt P t (.agg parts)) {i : Nat} {f : Field} {d : DataW H} (hf : fs[i]? = some f) (hd : parts[i]? = some d) : Wt P f.type d := fun m hm => by
  refine h m ?_
  unfold DataW.weights
  rw [hu]
  exact DataW.weights_mem_each (j := i) (t := f.type) (d := d) (by simp [hf]) hd m hm
theorem Wt.all {P : Program} {e : TypeId} : ∀ {ds : List (DataW H)} {d : DataW H}, d ∈ ds → ∀ m ∈ d.weights P e, m ∈ DataW.weightsAll P e ds
  | x :: ds, d, hd, m, hm => by
    rw [DataW.weightsAll]
    rcases List.mem_cons.1 hd with rfl | hd
    · exact List.mem_append_left _ hm
    · exact List.mem_append_right _ (Wt.all hd m hm)
theorem Wt.elem {P : Program} {t e : TypeId} {elems spare : List (DataW H)} (hu : P.underlying t = some (.slice e)) (h : Wt P t (.slice elems spare)) : (elems.length + spare.length) * P.bytesOf e ≤ reachBytes ∧ ∀ d ∈ elems, Wt P e d := by
  unfold Wt at h
  unfold DataW.weights at h
  rw [hu] at h
  refine ⟨h _ (by simp), fun d hd m hm => h m ?_⟩
  exact List.mem_cons_of_mem _ (List.mem_append_left _ (Wt.all hd m hm))

theorem wf_i64 {n : Int} (h : (Lit.int .i64 n).wf = true) : I64 n := by
  have h1 : IntKind.i64.min = -9223372036854775808 := rfl
  have h2 : IntKind.i64.max = 9223372036854775807 := rfl
  simp only [Lit.wf, Bool.and_eq_true, decide_eq_true_eq] at h
  unfold I64; omega

/-- A slice, whose elements are opened by hel. -/
theorem slc_open {α : Type} {E : α → List Value → Prop} {t e : TypeId} {sz bytes fuel : Nat} {cs : List Value} {x : DataW H × List MemPlace} (hu : Try.prog.underlying t = some (.slice e)) (hC : Try.prog.cellsOf e = sz) (hsz : 0 < sz) (hB : Try.prog.bytesOf e = bytes) (hb : 0 < bytes)
    (h : DataW.trod enc Try.prog w 0 (fun _ => true) true fuel t cs = some x) (hw : Wt Try.prog t x.1)
    (hel : ∀ n cs y, n < fuel → DataW.trod enc Try.prog w 0 (fun _ => true) true n e cs = some y → Wt Try.prog e y.1 → ∃ a, E a cs) :
    ∃ v xs, cs = [v] ∧ SlP w w.heap.size sz E v xs := by
  rcases DataW.trod_slice hu h with ⟨rfl, rfl⟩ | ⟨a, len, cap, elems, rest, n, rfl, rfl, rfl, _, hl, hm, hlen, he, hs, _⟩
  · exact ⟨_, [], rfl, SlP.nil⟩
  · obtain ⟨hr, hwe⟩ := Wt.elem hu hw
    rw [hB, List.length_map, List.length_map] at hr
    have hrl := (hs rfl).1
    have hcap : cap ≤ Big := by
      have h1 : (elems.length + rest.length) * 1 ≤ (elems.length + rest.length) * bytes := Nat.mul_le_mul_left _ hb
      unfold reachBytes at hr; unfold Big; omega
    have key : ∀ i, i < len → ∃ (x : α) (c : List Value), E x c ∧ c.length = sz ∧ ∀ j, j < sz → w.cell? (a.add (i * sz + j)) = c[j]? := fun i hi => by
      have h1 := he i hi
      have h2 : elems[i]? = some elems[i] := List.getElem?_eq_getElem (by omega)
      rw [h2] at h1
      obtain ⟨c, h3, h4⟩ := Option.bind_eq_some_iff.1 h1
      obtain ⟨_, h5, h6⟩ := World.cells?_some h3
      obtain ⟨x, hx⟩ := hel n c elems[i] (Nat.lt_succ_self n) h4 (hwe _ (List.mem_map.2 ⟨elems[i], List.getElem_mem _, rfl⟩))
      rw [hC] at h5 h6
      exact ⟨x, c, hx, h5, fun j hj => by rw [← Go.Deep.add_add]; exact h6 j hj⟩
    rcases Nat.eq_zero_or_pos len with h0 | h0
    · subst h0
      exact ⟨_, [], rfl, ⟨some a, cap, rfl, Nat.zero_le _, Nat.zero_le _, fun h => absurd rfl h⟩⟩
    · obtain ⟨x0, c0, _, hc0, hcell0⟩ := key 0 h0
      have hv0 := hcell0 0 hsz
      rw [List.getElem?_eq_getElem (by omega)] at hv0
      obtain ⟨b, off, spot⟩ := a
      have hspot : spot = none := by simpa [Addr.add] using World.cell?_spot hv0
      subst hspot
      have hbl : b < w.heap.size := by
        have := World.block_lt_of_cell? w _ hv0
        simpa [Addr.add] using this
      classical
      refine ⟨_, (List.range len).map fun i => if hi : i < len then Classical.choose (key i hi) else x0, rfl, some ⟨b, off, none⟩, cap, by simp, by simp; omega, by simp; omega, fun _ => ⟨b, off, rfl, hbl, fun j x hx => ?_⟩⟩
      have hj : j < len := by have := (List.getElem?_eq_some_iff.1 hx).1; simpa using this
      rw [List.getElem?_map, List.getElem?_range hj] at hx
      simp only [Option.map_some, dif_pos hj, Option.some.injEq] at hx
      obtain ⟨c, h1, h2, h3⟩ := Classical.choose_spec (key j hj)
      rw [hx] at h1
      refine ⟨c, h1, h2, fun i u hi => ?_⟩
      have hlt : i < sz := by have := (List.getElem?_eq_some_iff.1 hi).1; omega
      have := h3 i hlt
      rw [hi] at this
      rw [← this]
      congr 1
      simp [Addr.add, Nat.add_assoc]

theorem cellsDot : Try.prog.cellsOf 27 = 2 := by kernel_rfl
theorem cellsEntry : Try.prog.cellsOf 41 = 4 := by kernel_rfl
theorem cellsTree : Try.prog.cellsOf 25 = 2 := by kernel_rfl
theorem cellsKid : Try.prog.cellsOf 72 = 3 := by kernel_rfl
theorem cellsOne : Try.prog.cellsOf 9 = 1 ∧ Try.prog.cellsOf 3 = 1 ∧ Try.prog.cellsOf 2 = 1 ∧ Try.prog.cellsOf 22 = 1 ∧ Try.prog.cellsOf 23 = 1 := by refine ⟨?_, ?_, ?_, ?_, ?_⟩ <;> kernel_rfl
theorem bytesEntry : Try.prog.bytesOf 41 = 40 := by kernel_rfl
theorem bytesKid : Try.prog.bytesOf 72 = 64 := by kernel_rfl

theorem dot_open {fuel : Nat} {cs : List Value} {x : DataW H × List MemPlace} (h : DataW.trod enc Try.prog w 0 (fun _ => true) true fuel 27 cs = some x) : ∃ d : Dt, DtE d cs := by
  obtain ⟨xs, n, rfl, rfl, hl, hx, hf⟩ := DataW.trod_struct Try.underlying27 h
  rw [cellsDot] at hl
  match cs, hl with
  | [c0, c1], _ =>
    match xs, hx with
    | [y0, y1], _ =>
      have f0 : DataW.trod enc Try.prog w 0 (fun _ => true) true n 3 (([c0, c1].drop 0).take (Try.prog.cellsOf 3)) = some y0 := hf 0 _ rfl
      rw [cellsOne.2.1] at f0
      have f1 : DataW.trod enc Try.prog w 0 (fun _ => true) true n 2 (([c0, c1].drop 1).take (Try.prog.cellsOf 2)) = some y1 := hf 1 _ rfl
      rw [cellsOne.2.2.1] at f1
      obtain ⟨a, e0, _, w0⟩ := DataW.trod_int Try.underlying3 (show DataW.trod enc Try.prog w 0 (fun _ => true) true n 3 [c0] = some y0 from f0)
      obtain ⟨b, e1, _, w1⟩ := DataW.trod_int Try.underlying2 (show DataW.trod enc Try.prog w 0 (fun _ => true) true n 2 [c1] = some y1 from f1)
      simp at e0 e1
      subst e0; subst e1
      exact ⟨⟨a, b⟩, rfl, wf_i64 w0, wf_i64 w1⟩
theorem entry_open {fuel : Nat} {cs : List Value} {x : DataW H × List MemPlace} (h : DataW.trod enc Try.prog w 0 (fun _ => true) true fuel 41 cs = some x) (hw : Wt Try.prog 41 x.1) : ∃ e : En, EnE e cs := by
  obtain ⟨xs, n, rfl, rfl, hl, hx, hf⟩ := DataW.trod_struct Try.underlying41 h
  rw [cellsEntry] at hl
  match cs, hl with
  | [c0, c1, c2, c3], _ =>
    match xs, hx with
    | [y0, y1, y2], _ =>
      have f0 : DataW.trod enc Try.prog w 0 (fun _ => true) true n 27 (([c0, c1, c2, c3].drop 0).take (Try.prog.cellsOf 27)) = some y0 := hf 0 _ rfl
      rw [cellsDot] at f0
      have f1 : DataW.trod enc Try.prog w 0 (fun _ => true) true n 9 (([c0, c1, c2, c3].drop 2).take (Try.prog.cellsOf 9)) = some y1 := hf 1 _ rfl
      rw [cellsOne.1] at f1
      have f2 : DataW.trod enc Try.prog w 0 (fun _ => true) true n 2 (([c0, c1, c2, c3].drop 3).take (Try.prog.cellsOf 2)) = some y2 := hf 2 _ rfl
      rw [cellsOne.2.2.1] at f2
      obtain ⟨d, ed, od⟩ := dot_open (show DataW.trod enc Try.prog w 0 (fun _ => true) true n 27 [c0, c1] = some y0 from f0)
      obtain ⟨s, e1, hy1, _⟩ := DataW.trod_string Try.underlying9 (show DataW.trod enc Try.prog w 0 (fun _ => true) true n 9 [c2] = some y1 from f1)
      obtain ⟨b, e2, _, w2⟩ := DataW.trod_int Try.underlying2 (show DataW.trod enc Try.prog w 0 (fun _ => true) true n 2 [c3] = some y2 from f2)
      have hs : s.size ≤ Big := by
        have := Wt.field Try.underlying41 hw (i := 1) (d := y1.1) rfl rfl s.size (by rw [hy1]; simp [DataW.weights])
        unfold reachBytes at this; unfold Big; omega
      simp at ed e1 e2
      obtain ⟨rfl, rfl⟩ := ed
      subst e1; subst e2
      exact ⟨⟨d.dc, d.n, s, b⟩, rfl, od.dc, od.n, wf_i64 w2, hs⟩
theorem tree_open : ∀ (fuel : Nat) (cs : List Value) (x : DataW H × List MemPlace), DataW.trod enc Try.prog w 0 (fun _ => true) true fuel 25 cs = some x → Wt Try.prog 25 x.1 → ∃ t ve vk, cs = [ve, vk] ∧ Tr.rd w w.heap.size t ve vk := by
  intro fuel
  induction fuel using Nat.strongRecOn with
  | ind fuel ih =>
  intro cs x h hw
  obtain ⟨xs, n, rfl, rfl, hl, hx, hf⟩ := DataW.trod_struct Try.underlying25 h
  rw [cellsTree] at hl
  match cs, hl with
  | [c0, c1], _ =>
    match xs, hx with
    | [y0, y1], _ =>
      have f0 : DataW.trod enc Try.prog w 0 (fun _ => true) true n 22 (([c0, c1].drop 0).take (Try.prog.cellsOf 22)) = some y0 := hf 0 _ rfl
      rw [cellsOne.2.2.2.1] at f0
      have f1 : DataW.trod enc Try.prog w 0 (fun _ => true) true n 23 (([c0, c1].drop 1).take (Try.prog.cellsOf 23)) = some y1 := hf 1 _ rfl
      rw [cellsOne.2.2.2.2] at f1
      obtain ⟨v0, es, e0, h0⟩ := slc_open (E := EnE) Try.underlying22 cellsEntry (by decide) bytesEntry (by decide) (show DataW.trod enc Try.prog w 0 (fun _ => true) true n 22 [c0] = some y0 from f0) (Wt.field Try.underlying25 hw (i := 0) rfl rfl)
        (fun m cs y _ hy hwy => entry_open hy hwy)
      obtain ⟨v1, ks, e1, h1⟩ := slc_open (E := KdE w w.heap.size) Try.underlying23 cellsKid (by decide) bytesKid (by decide) (show DataW.trod enc Try.prog w 0 (fun _ => true) true n 23 [c1] = some y1 from f1) (Wt.field Try.underlying25 hw (i := 1) rfl rfl)
        (fun m cs y hm hy hwy => by
          obtain ⟨zs, k, rfl, rfl, hl, hz, hg⟩ := DataW.trod_struct Try.underlying72 hy
          rw [cellsKid] at hl
          match cs, hl with
          | [d0, d1, d2], _ =>
            match zs, hz with
            | [z0, z1], _ =>
              have g0 : DataW.trod enc Try.prog w 0 (fun _ => true) true k 9 (([d0, d1, d2].drop 0).take (Try.prog.cellsOf 9)) = some z0 := hg 0 _ rfl
              rw [cellsOne.1] at g0
              have g1 : DataW.trod enc Try.prog w 0 (fun _ => true) true k 25 (([d0, d1, d2].drop 1).take (Try.prog.cellsOf 25)) = some z1 := hg 1 _ rfl
              rw [cellsTree] at g1
              obtain ⟨s, u1, hy1, _⟩ := DataW.trod_string Try.underlying9 (show DataW.trod enc Try.prog w 0 (fun _ => true) true k 9 [d0] = some z0 from g0)
              obtain ⟨t, ve, vk, u2, ht⟩ := ih k (by omega) [d1, d2] z1 (show DataW.trod enc Try.prog w 0 (fun _ => true) true k 25 [d1, d2] = some z1 from g1) (Wt.field Try.underlying72 hwy (i := 1) rfl rfl)
              have hs : s.size ≤ Big := by
                have := Wt.field Try.underlying72 hwy (i := 0) (d := z0.1) rfl rfl s.size (by rw [hy1]; simp [DataW.weights])
                unfold reachBytes at this; unfold Big; omega
              simp at u1 u2
              obtain ⟨rfl, rfl⟩ := u2
              subst u1
              exact ⟨(s, t), d1, d2, rfl, hs, ht⟩)
      simp at e0 e1
      subst e0; subst e1
      exact ⟨.mk es ks, c0, c1, rfl, rd_iff.2 ⟨h0, h1⟩⟩

/-- Behind a call that turns nothing that was there, the arguments read as before. -/
theorem trodAll_below (hl : laidOutB Try.prog = true) {W' : World} : ∀ (ts : List TypeId) (vs : List Value) (ds : List (DataW H)) (ps : List MemPlace), (∀ t ∈ ts, Try.prog.readableRec t = true ∧ t < Try.prog.types.size) →
    DataW.TrodAll enc Try.prog w 0 (fun _ => true) true ts vs ds ps → Below w.heap.size w W' → (∀ x ∈ ps, x.block < w.heap.size) → DataW.TrodAll enc Try.prog W' 0 (fun b => decide (b < w.heap.size)) true ts vs ds ps
  | [], [], [], ps, _, h, _, _ => h
  | t :: ts, v :: vs, d :: ds, ps, hr, h, hb, hlt => by
    obtain ⟨p, q, h1, h2, rfl⟩ := h
    exact ⟨p, q, Below.trod hl (hr t (by simp)).1 (hr t (by simp)).2 h1 hb (fun x hx => hlt x (List.mem_append_left _ hx)), trodAll_below hl ts vs ds q (fun t ht => hr t (by simp [ht])) h2 hb (fun x hx => hlt x (List.mem_append_right _ hx)), rfl⟩
end
end Go.Proofs.Ytililfcegeddaaa

namespace Go.Proofs.Ytililfcegeddaaa
open Go.ChangeShapes Go.WideShapes Go.ChangeAt Go.RowKit
set_option maxRecDepth 100000

theorem own : ownKnob Try.prog.godebug = none := by kernel_rfl
theorem laidOut : laidOutB Try.prog = true := by kernel_rfl
theorem okTree : Try.prog.readableRec 25 = true ∧ 25 < Try.prog.types.size := ⟨by kernel_rfl, of_decide_eq_true (by kernel_rfl)⟩
theorem okDot : Try.prog.readableRec 27 = true ∧ 27 < Try.prog.types.size := ⟨by kernel_rfl, of_decide_eq_true (by kernel_rfl)⟩
theorem okInt64 : Try.prog.readableRec 2 = true ∧ 2 < Try.prog.types.size := ⟨by kernel_rfl, of_decide_eq_true (by kernel_rfl)⟩

theorem tree_arg {H : Type} {enc : TypeId × Value → H} {W : World} {base : Nat} {v : Value} {d : DataW H} {p : List MemPlace} (hv : Value.okWide Try.prog W .any base 25 v) (h : DataW.Trod enc Try.prog W 0 (fun _ => true) true 25 v d p) (hw : Wt Try.prog 25 d) :
    ∃ t ve vk, v = .agg #[ve, vk] ∧ Tr.rd W W.heap.size t ve vk := by
  obtain ⟨cs, rfl, hs⟩ := okWide_struct Try.underlying25 hv
  obtain ⟨fuel, hf⟩ := h
  obtain ⟨t, ve, vk, e, ht⟩ := tree_open fuel _ _ hf hw
  refine ⟨t, ve, vk, ?_, ht⟩
  simp [Value.cells] at e
  obtain ⟨l⟩ := cs
  simp at e
  rw [e]
theorem dot_arg {H : Type} {enc : TypeId × Value → H} {W : World} {base : Nat} {v : Value} {d : DataW H} {p : List MemPlace} (hv : Value.okWide Try.prog W .any base 27 v) (h : DataW.Trod enc Try.prog W 0 (fun _ => true) true 27 v d p) :
    ∃ x : Dt, v = .agg #[.int .i64 x.dc, .int .i64 x.n] ∧ x.Ok := by
  obtain ⟨cs, rfl, hs⟩ := okWide_struct Try.underlying27 hv
  obtain ⟨fuel, hf⟩ := h
  obtain ⟨x, e, ho⟩ := dot_open hf
  refine ⟨x, ?_, ho⟩
  simp [Value.cells] at e
  obtain ⟨l⟩ := cs
  simp at e
  rw [e]
theorem int_arg {H : Type} {enc : TypeId × Value → H} {W : World} {base : Nat} {v : Value} {d : DataW H} {p : List MemPlace} (hv : Value.okWide Try.prog W .any base 2 v) (h : DataW.Trod enc Try.prog W 0 (fun _ => true) true 2 v d p) :
    ∃ n : Int, v = .int .i64 n ∧ I64 n := by
  obtain ⟨n, rfl, _, _, hw⟩ := open_int Try.underlying2 hv h
  exact ⟨n, rfl, wf_i64 hw⟩
end Go.Proofs.Ytililfcegeddaaa
