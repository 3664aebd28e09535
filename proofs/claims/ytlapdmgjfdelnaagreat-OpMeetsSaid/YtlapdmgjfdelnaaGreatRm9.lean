/- What the laws need, part 9: tributaryref15.Op: why a change can't be. No condition. op.leaf: what changes at a path's end. Condition: not too big. tributarylaw09.small and right, at one and at two. No condition. Lists of what is known, in a block. No condition. tributaryref10.Own. No condition but that there are not too many entries. Plain law: the context of one dot more. No condition. What is read at once behind a change: plain. What is read hangs on no name of a change: plain. A go: its ground, its changes, and what they have made of it: plain. op.Read, op.Same. Condition: not too big. op.Same, tributaryref15.Same, begins, undoes; slices.Equal at texts. No condition. tributaryref15.stands, Visible, Short. Condition: not too many. tributaryref15.Read. Condition: not too big. tributaryref15.Spec. Condition: not too many; a right path. causal.JoinAll. Condition: not too big, all in all. -/
import Derived.Test.YtlapdmgjfdelnaaGreatRm8
namespace Go.Proofs.YtlapdmgjfdelnaaGreat
open Go.RowKit
set_option maxRecDepth 100000

set_option maxHeartbeats 8000000 in
theorem r15op_any (o : Opr) (vp : Value) (w : World) (h : SlP w w.heap.size 1 StE vp o.path) (ho : o.Ok) :
    Calls Tryz.prog 140 #[.agg #[vp, .int .i64 o.act, .string o.s, .int .i64 o.n]] w fun e w' => e = .returned (.int .i64 (opI o)) ∧ Below w.heap.size w w' := by
  have HC : Hid (∀ w', Below w.heap.size w w' → SlP w' w'.heap.size 1 StE vp o.path) := fun w' hb => h.imp hb hb.size fun _ _ _ h => h
  obtain ⟨A, c, rfl, c1, c2, c3⟩ := h
  have hs := ho.s
  unfold Big at c2 hs
  obtain ⟨path, act, s, n⟩ := o
  simp only at HC c1 c2 c3 hs ⊢
  have HX : Hid (∀ W, Below (w.heap.size + 1) (w.alloc (.cells #[.slice A path.length c, .int .i64 act, .string s, .int .i64 n] 67)) W → (Below w.heap.size w W ∧ SlP W W.heap.size 1 StE (.slice A path.length c) path ∧ W.cell? ⟨w.heap.size, 0, none⟩ = some (.slice A path.length c) ∧ W.cell? ⟨w.heap.size, 1, none⟩ = some (.int .i64 act) ∧ W.cell? ⟨w.heap.size, 2, none⟩ = some (.string s) ∧ W.cell? ⟨w.heap.size, 3, none⟩ = some (.int .i64 n))) := fun W hW => by
    have g0 : W.heap[w.heap.size]? = some (.cells #[.slice A path.length c, .int .i64 act, .string s, .int .i64 n] 67 (0, 0)) := (hW.block _ (by omega)).trans (heap_new rfl)
    have hB : Below w.heap.size w W := ((Below.refl _ w).alloc (Nat.le_refl _) _).trans (hW.mono (by omega))
    exact ⟨hB, HC.out _ hB, cell_cells (i := 0) g0, cell_cells (i := 1) g0, cell_cells (i := 2) g0, cell_cells (i := 3) g0⟩
  go_enter Tryz.func140, Tryz.ntmps140
  go_wp2_with fail
  obtain ⟨hB, hp, q0, q1, q2, q3⟩ := HX.out _ (Below.refl _ _)
  refine (r15path_any path _ _ hp).mono ?_
  rintro e w1 ⟨rfl, hb1⟩
  have HB1 := hid (hb1.mono (show w.heap.size + 1 ≤ _ by simp))
  clear hB hp q0 q1 q2 q3 hb1
  obtain ⟨hB, hp, q0, q1, q2, q3⟩ := HX.out _ HB1.out
  by_cases hpz : pathI path = 0
  case neg =>
    have hO : Hid (opI ⟨path, act, s, n⟩ = pathI path) := by unfold Hid opI; simp only; rw [if_pos hpz]
    have hne : (pathI path == 0) = false := by simpa using hpz
    clear hpz
    go_wp2_with fail
    go_ret
    exact ⟨ret_int hO.out.symm, hB⟩
  have hpl := (path_ok hpz).1
  have hpu := (path_ok hpz).2.1
  have HPZ := hid hpz
  rw [hpz]
  clear hpz
  obtain ⟨bq, offq, hAq, hbq, hcq⟩ := c3 (by rintro rfl; simp at hpl)
  subst hAq
  obtain ⟨cs, ⟨rfl, hok⟩, _, hu⟩ := hcq (path.length - 1) _ (last_at hpl)
  have e0 := (hB.cell (p := ⟨bq, offq + (path.length - 1), none⟩) hbq).trans (by simpa using hu 0 _ rfl)
  have HOK := hid hok
  have hbq1 : bq < w1.heap.size := by have := hB.size; omega
  have hl1 : w.heap.size < w1.heap.size := by have := HB1.out.size; simp at this; omega
  clear hu hcq c3 hok
  go_upto_region 4 with (fail)
  have HQK := hid (fun (w2 : World) (_ : Below w1.heap.size w1 w2) => r15kind_any (lastK path) w2 HOK.out)
  have HQA := hid (fun (w2 : World) (_ : Below w1.heap.size w1 w2) => act15_any act (kindB (lastK path)) w2)
  have f0 := far_cell (B := w1.heap.size) q0 (by simpa using hl1)
  have f1 := far_cell (B := w1.heap.size) q1 (by simpa using hl1)
  have f2 := far_cell (B := w1.heap.size) e0 (by simpa using hbq1)
  refine wp_region_far w1.heap.size (by kernel_rfl) (by kernel_rfl) ?_
  repeat (go_big_quiet_step (first | (go_at_call 86; with_reducible exact Calls.far_all (Nat.le_refl _) HQK.out) | (go_at_call 193; with_reducible exact Calls.far_all (Nat.le_refl _) HQA.out)))
  refine wpQuiet_nil ?_
  intro w2 hb2
  have HB3 := hid (HB1.out.trans (hb2.mono (by omega)))
  clear f0 f1 f2 hB hp q0 q1 q2 q3 hb2 e0 HQK HQA
  obtain ⟨hB, hp, q0, q1, q2, q3⟩ := HX.out _ HB3.out
  cases ha : actB act (kindB (lastK path))
  · have HO : Hid (opI ⟨path, act, s, n⟩ = 6) := by unfold Hid opI; simp only; rw [if_neg (by rw [HPZ.out]; simp), if_pos (by rw [ha]; rfl)]
    clear ha
    go_wp2_with fail
    go_ret
    exact ⟨ret_int HO.out.symm, hB⟩
  have HA' := hid ha
  have hac : act = 1 ∨ act = 2 ∨ act = 3 ∨ act = 4 ∨ act = 5 ∨ act = 6 ∨ act = 7 := by
    unfold actB at ha
    split at ha
    · omega
    · split at ha
      · omega
      · split at ha
        · omega
        · split at ha
          · omega
          · have := of_decide_eq_true ha; omega
  clear ha
  rcases hac with rfl | rfl | rfl | rfl | rfl | rfl | rfl
  · have HA := HA'
    have HE : Hid (∀ (s : ByteArray) (n : Int), opI ⟨path, 1, s, n⟩ = if s.size = 0 ∧ n = 0 then 0 else 1) := by
      intro s n
      rw [chk_err HPZ.out HA.out]
      unfold opTxt opNum keyB
      simp
    go_wp2_with fail
    all_goals (go_ret; refine ⟨ret_int ?_, hB⟩; rw [HE.out])
    all_goals (try simp only [Bool.not_eq_eq_eq_not] at *)
    all_goals (try simp only [Bool.not_true] at *)
    all_goals (try simp only [Bool.not_false] at *)
    all_goals (try simp only [bne_iff_ne] at *)
    all_goals (try simp only [ne_eq] at *)
    all_goals (try simp only [bne_eq_false_iff_eq] at *)
    all_goals (try simp only [tol_nil] at *)
    all_goals (try simp only [tol_f] at *)
    all_goals (try simp only [tol_t] at *)
    all_goals (first | (exfalso; omega) | (rw [if_pos (by omega)]; done) | (rw [if_neg (by omega)]; done))
  · have HA := HA'
    have HE : Hid (∀ (s : ByteArray) (n : Int), opI ⟨path, 2, s, n⟩ = if s.size = 0 ∧ n = 0 then 0 else 1) := by
      intro s n
      rw [chk_err HPZ.out HA.out]
      unfold opTxt opNum keyB
      simp
    go_wp2_with fail
    all_goals (go_ret; refine ⟨ret_int ?_, hB⟩; rw [HE.out])
    all_goals (try simp only [Bool.not_eq_eq_eq_not] at *)
    all_goals (try simp only [Bool.not_true] at *)
    all_goals (try simp only [Bool.not_false] at *)
    all_goals (try simp only [bne_iff_ne] at *)
    all_goals (try simp only [ne_eq] at *)
    all_goals (try simp only [bne_eq_false_iff_eq] at *)
    all_goals (try simp only [tol_nil] at *)
    all_goals (try simp only [tol_f] at *)
    all_goals (try simp only [tol_t] at *)
    all_goals (first | (exfalso; omega) | (rw [if_pos (by omega)]; done) | (rw [if_neg (by omega)]; done))
  · have HA := HA'
    have HE : Hid (∀ (s : ByteArray) (n : Int), opI ⟨path, 3, s, n⟩ = if (1 ≤ s.size ∧ s.size ≤ 30) ∧ n = 0 then 0 else 1) := by
      intro s n
      rw [chk_err HPZ.out HA.out]
      unfold opTxt opNum keyB
      simp
    go_wp2_with fail
    refine (r08key_any s _).mono ?_
    cases hks : keyB s
    · rintro e w4 ⟨rfl, hb4⟩
      have hB4 := hB.trans (hb4.mono hB.size)
      have HKS : Hid (¬ (1 ≤ s.size ∧ s.size ≤ 30)) := by unfold Hid; unfold keyB at hks; simpa using hks
      clear hks
      go_wp2_with fail
      go_ret
      exact ⟨ret_int (by rw [HE.out, if_neg (fun h => HKS.out h.1)]), hB4⟩
    · rintro e w4 ⟨rfl, hb4⟩
      have HB4 := hid (HB3.out.trans (hb4.mono (by have := HB3.out.size; simp at this; omega)))
      have HKS : Hid (1 ≤ s.size ∧ s.size ≤ 30) := by unfold Hid; unfold keyB at hks; simpa using hks
      clear hB hp q0 q1 q2 q3 hb4 hks
      obtain ⟨hB, hp, q0, q1, q2, q3⟩ := HX.out _ HB4.out
      go_wp2_with fail
      all_goals (go_ret; refine ⟨ret_int ?_, hB⟩; rw [HE.out])
      all_goals (have hks2 := HKS.out)
      all_goals (try simp only [Bool.not_eq_eq_eq_not] at *)
      all_goals (try simp only [Bool.not_true] at *)
      all_goals (try simp only [Bool.not_false] at *)
      all_goals (try simp only [bne_iff_ne] at *)
      all_goals (try simp only [ne_eq] at *)
      all_goals (try simp only [bne_eq_false_iff_eq] at *)
      all_goals (first | (exfalso; omega) | (rw [if_pos (by omega)]; done) | (rw [if_neg (by omega)]; done))
  · have HA := HA'
    have HE : Hid (∀ (s : ByteArray) (n : Int), opI ⟨path, 4, s, n⟩ = if (1 ≤ s.size ∧ s.size ≤ 30) ∧ n = 0 then 0 else 1) := by
      intro s n
      rw [chk_err HPZ.out HA.out]
      unfold opTxt opNum keyB
      simp
    go_wp2_with fail
    refine (r08key_any s _).mono ?_
    cases hks : keyB s
    · rintro e w4 ⟨rfl, hb4⟩
      have hB4 := hB.trans (hb4.mono hB.size)
      have HKS : Hid (¬ (1 ≤ s.size ∧ s.size ≤ 30)) := by unfold Hid; unfold keyB at hks; simpa using hks
      clear hks
      go_wp2_with fail
      go_ret
      exact ⟨ret_int (by rw [HE.out, if_neg (fun h => HKS.out h.1)]), hB4⟩
    · rintro e w4 ⟨rfl, hb4⟩
      have HB4 := hid (HB3.out.trans (hb4.mono (by have := HB3.out.size; simp at this; omega)))
      have HKS : Hid (1 ≤ s.size ∧ s.size ≤ 30) := by unfold Hid; unfold keyB at hks; simpa using hks
      clear hB hp q0 q1 q2 q3 hb4 hks
      obtain ⟨hB, hp, q0, q1, q2, q3⟩ := HX.out _ HB4.out
      go_wp2_with fail
      all_goals (go_ret; refine ⟨ret_int ?_, hB⟩; rw [HE.out])
      all_goals (have hks2 := HKS.out)
      all_goals (try simp only [Bool.not_eq_eq_eq_not] at *)
      all_goals (try simp only [Bool.not_true] at *)
      all_goals (try simp only [Bool.not_false] at *)
      all_goals (try simp only [bne_iff_ne] at *)
      all_goals (try simp only [ne_eq] at *)
      all_goals (try simp only [bne_eq_false_iff_eq] at *)
      all_goals (first | (exfalso; omega) | (rw [if_pos (by omega)]; done) | (rw [if_neg (by omega)]; done))
  · have HA := HA'
    have HE : Hid (∀ (s : ByteArray) (n : Int), opI ⟨path, 5, s, n⟩ = if s.size = 0 ∧ -1099511627776 ≤ n ∧ n ≤ 1099511627776 then 0 else 1) := by
      intro s n
      rw [chk_err HPZ.out HA.out]
      unfold opTxt opNum keyB
      simp
    go_wp2_with fail
    all_goals (go_ret; refine ⟨ret_int ?_, hB⟩; rw [HE.out])
    all_goals (try simp only [Bool.not_eq_eq_eq_not] at *)
    all_goals (try simp only [Bool.not_true] at *)
    all_goals (try simp only [Bool.not_false] at *)
    all_goals (try simp only [bne_iff_ne] at *)
    all_goals (try simp only [ne_eq] at *)
    all_goals (try simp only [bne_eq_false_iff_eq] at *)
    all_goals (try simp only [tol_nil] at *)
    all_goals (try simp only [tol_f] at *)
    all_goals (try simp only [tol_t] at *)
    all_goals (first | (exfalso; omega) | (rw [if_pos (by omega)]; done) | (rw [if_neg (by omega)]; done))
  · have HA := HA'
    have HE : Hid (∀ (s : ByteArray) (n : Int), opI ⟨path, 6, s, n⟩ = if s.size ≤ 30 ∧ n = 0 then 0 else 1) := by
      intro s n
      rw [chk_err HPZ.out HA.out]
      unfold opTxt opNum keyB
      simp
    go_wp2_with fail
    all_goals (go_ret; refine ⟨ret_int ?_, hB⟩; rw [HE.out])
    all_goals (try simp only [Bool.not_eq_eq_eq_not] at *)
    all_goals (try simp only [Bool.not_true] at *)
    all_goals (try simp only [Bool.not_false] at *)
    all_goals (try simp only [bne_iff_ne] at *)
    all_goals (try simp only [ne_eq] at *)
    all_goals (try simp only [bne_eq_false_iff_eq] at *)
    all_goals (try simp only [tol_nil] at *)
    all_goals (try simp only [tol_f] at *)
    all_goals (try simp only [tol_t] at *)
    all_goals (first | (exfalso; omega) | (rw [if_pos (by omega)]; done) | (rw [if_neg (by omega)]; done))
  · have HA := HA'
    have HE : Hid (∀ (s : ByteArray) (n : Int), opI ⟨path, 7, s, n⟩ = if s.size = 0 ∧ n = 0 then 0 else 1) := by
      intro s n
      rw [chk_err HPZ.out HA.out]
      unfold opTxt opNum keyB
      simp
    go_wp2_with fail
    all_goals (go_ret; refine ⟨ret_int ?_, hB⟩; rw [HE.out])
    all_goals (try simp only [Bool.not_eq_eq_eq_not] at *)
    all_goals (try simp only [Bool.not_true] at *)
    all_goals (try simp only [Bool.not_false] at *)
    all_goals (try simp only [bne_iff_ne] at *)
    all_goals (try simp only [ne_eq] at *)
    all_goals (try simp only [bne_eq_false_iff_eq] at *)
    all_goals (try simp only [tol_nil] at *)
    all_goals (try simp only [tol_f] at *)
    all_goals (try simp only [tol_t] at *)
    all_goals (first | (exfalso; omega) | (rw [if_pos (by omega)]; done) | (rw [if_neg (by omega)]; done))
end Go.Proofs.YtlapdmgjfdelnaaGreat

namespace Go.Proofs.YtlapdmgjfdelnaaGreat
open Go.RowKit
set_option maxRecDepth 100000

/-- A result box of its own, filled with what a call handed back. -/
theorem box_fin {w w1 : World} {N g : Nat} {T : Tr} {C : List Sp} {x y z a b c : Value} {e : TypeId} (hG : w1.heap[g]? = some (.cells #[x, y, z] e (0, 0))) (hB : Below w.heap.size w w1) (hg : w.heap.size ≤ g) (hN : g < N) (hrd : T.rda w1 (fun b => N ≤ b ∧ b < w1.heap.size) a b) (hsl : SlA w1 (fun b => N ≤ b ∧ b < w1.heap.size) 3 SpE c C) :
    (((w1.setCell ⟨g, 0, none⟩ a).setCell ⟨g, 1, none⟩ b).setCell ⟨g, 2, none⟩ c).cell? ⟨g, 0, none⟩ = some a ∧ (((w1.setCell ⟨g, 0, none⟩ a).setCell ⟨g, 1, none⟩ b).setCell ⟨g, 2, none⟩ c).cell? ⟨g, 1, none⟩ = some b ∧ (((w1.setCell ⟨g, 0, none⟩ a).setCell ⟨g, 1, none⟩ b).setCell ⟨g, 2, none⟩ c).cell? ⟨g, 2, none⟩ = some c ∧
    T.rda (((w1.setCell ⟨g, 0, none⟩ a).setCell ⟨g, 1, none⟩ b).setCell ⟨g, 2, none⟩ c) (fun q => w.heap.size ≤ q ∧ q < (((w1.setCell ⟨g, 0, none⟩ a).setCell ⟨g, 1, none⟩ b).setCell ⟨g, 2, none⟩ c).heap.size) a b ∧
    SlA (((w1.setCell ⟨g, 0, none⟩ a).setCell ⟨g, 1, none⟩ b).setCell ⟨g, 2, none⟩ c) (fun q => w.heap.size ≤ q ∧ q < (((w1.setCell ⟨g, 0, none⟩ a).setCell ⟨g, 1, none⟩ b).setCell ⟨g, 2, none⟩ c).heap.size) 3 SpE c C ∧
    Below w.heap.size w (((w1.setCell ⟨g, 0, none⟩ a).setCell ⟨g, 1, none⟩ b).setCell ⟨g, 2, none⟩ c) := by
  obtain ⟨r0, r1, r2, hK, hS⟩ := box3 hG a b c
  have hBW := ((hB.setCell (p := ⟨g, 0, none⟩) hg a).setCell (p := ⟨g, 1, none⟩) hg b).setCell (p := ⟨g, 2, none⟩) hg c
  exact ⟨r0, r1, r2, rda_up (fun q hq => hK q (by omega)) (fun q hq => ⟨by omega, by rw [hS]; exact hq.2⟩) _ _ _ hrd, hsl.up (fun q hq => hK q (by omega)) (fun q hq => ⟨by omega, by rw [hS]; exact hq.2⟩) (fun _ _ _ h => h), hBW⟩
set_option maxHeartbeats 4000000 in
theorem leaf_any (u : Tr) (o : Opr) (d : Dt) (ve vk vp : Value) (w : World) (h : u.rd w w.heap.size ve vk) (hp : SlP w w.heap.size 1 StE vp o.path) (ho : o.Ok) (hd : d.Ok) (hN : u.sz ≤ 4000) :
    Calls Tryz.prog 138 #[.agg #[ve, vk], .agg #[vp, .int .i64 o.act, .string o.s, .int .i64 o.n], .agg #[.int .i64 d.dc, .int .i64 d.n]] w (RetCE w (leafX u o d).1 (leafX u o d).2.1 (leafX u o d).2.2) := by
  have HC : Hid (∀ w', Below w.heap.size w w' → u.rd w' w'.heap.size ve vk) := fun w' hb => rd_below hb hb.size _ _ _ h
  obtain ⟨A3, n3, A4, n4, rfl, rfl⟩ := rd_shape h
  obtain ⟨A5, n5, rfl, _⟩ := hp
  obtain ⟨oa, on, os⟩ := ho
  obtain ⟨path, act, s, n⟩ := o
  simp only at oa on os ⊢
  have hb0 := ((((Below.refl w.heap.size w).alloc (Nat.le_refl _) (.cells #[.slice A3 u.es.length n3, .slice A4 u.ks.length n4] 25)).alloc (by simp) (.cells #[.slice A5 path.length n5, .int .i64 act, .string s, .int .i64 n] 67)).alloc (by simp; omega) (.cells #[.int .i64 d.dc, .int .i64 d.n] 52)).alloc (by simp; omega) (.cells #[.slice none 0 0, .slice none 0 0, .slice none 0 0] 29)
  have HX : Hid (∀ W, Below (w.heap.size + 4) ((((w.alloc (.cells #[.slice A3 u.es.length n3, .slice A4 u.ks.length n4] 25)).alloc (.cells #[.slice A5 path.length n5, .int .i64 act, .string s, .int .i64 n] 67)).alloc (.cells #[.int .i64 d.dc, .int .i64 d.n] 52)).alloc (.cells #[.slice none 0 0, .slice none 0 0, .slice none 0 0] 29)) W →
      (Below w.heap.size w W ∧ W.cell? ⟨w.heap.size, 0, none⟩ = some (.slice A3 u.es.length n3) ∧ W.cell? ⟨w.heap.size, 1, none⟩ = some (.slice A4 u.ks.length n4) ∧ W.cell? ⟨w.heap.size + 1, 0, none⟩ = some (.slice A5 path.length n5) ∧ W.cell? ⟨w.heap.size + 1, 1, none⟩ = some (.int .i64 act) ∧ W.cell? ⟨w.heap.size + 1, 2, none⟩ = some (.string s) ∧ W.cell? ⟨w.heap.size + 1, 3, none⟩ = some (.int .i64 n) ∧
        W.cell? ⟨w.heap.size + 2, 0, none⟩ = some (.int .i64 d.dc) ∧ W.cell? ⟨w.heap.size + 2, 1, none⟩ = some (.int .i64 d.n) ∧ W.heap[w.heap.size + 3]? = some (.cells #[.slice none 0 0, .slice none 0 0, .slice none 0 0] 29 (0, 0)))) := fun W hW => by
    have g0 : W.heap[w.heap.size]? = some (.cells #[.slice A3 u.es.length n3, .slice A4 u.ks.length n4] 25 (0, 0)) := (hW.block _ (by omega)).trans ((heap_old (by simp <;> omega)).trans ((heap_old (by simp <;> omega)).trans ((heap_old (by simp)).trans (heap_new rfl))))
    have g1 : W.heap[w.heap.size + 1]? = some (.cells #[.slice A5 path.length n5, .int .i64 act, .string s, .int .i64 n] 67 (0, 0)) := (hW.block _ (by omega)).trans ((heap_old (by simp <;> omega)).trans ((heap_old (by simp)).trans (heap_new (by simp))))
    have g2 : W.heap[w.heap.size + 2]? = some (.cells #[.int .i64 d.dc, .int .i64 d.n] 52 (0, 0)) := (hW.block _ (by omega)).trans ((heap_old (by simp)).trans (heap_new (by simp)))
    have g3 : W.heap[w.heap.size + 3]? = some (.cells #[.slice none 0 0, .slice none 0 0, .slice none 0 0] 29 (0, 0)) := (hW.block _ (by omega)).trans (heap_new (by simp))
    exact ⟨hb0.trans (hW.mono (by omega)), cell_cells (i := 0) g0, cell_cells (i := 1) g0, cell_cells (i := 0) g1, cell_cells (i := 1) g1, cell_cells (i := 2) g1, cell_cells (i := 3) g1, cell_cells (i := 0) g2, cell_cells (i := 1) g2, g3⟩
  clear h
  by_cases a1 : act = 1
  · subst a1
    rw [leafX_1 rfl]
    go_enter Tryz.func138, Tryz.ntmps138
    obtain ⟨hB0, c0, c1, p0, p1, p2, p3, d0, d1, g3⟩ := HX.out _ (Below.refl _ _)
    clear g3
    go_wp2_with fail
    refine (fenable_any u d _ _ _ (HC.out _ hb0) (by omega) hd).mono ?_
    rintro e w1 ⟨ve1, vk1, vc1, rfl, hrd1, hsl1, hb1⟩
    obtain ⟨Av, nv, Aw, nw, rfl, rfl⟩ := rda_shape hrd1
    obtain ⟨Ac, nc, rfl⟩ := hsl1.shape
    simp only [World.size_alloc] at hrd1 hsl1 hb1
    have hBx : Below (w.heap.size + 4) _ w1 := hb1.mono (by omega)
    clear c0 c1 p0 p1 p2 p3 d0 d1
    obtain ⟨hB1, c0, c1, p0, p1, p2, p3, d0, d1, hG⟩ := HX.out _ hBx
    have HG := hid hG
    have k0 := cell_cells (i := 0) hG
    have k1 := cell_cells (i := 1) hG
    have k2 := cell_cells (i := 2) hG
    simp only [List.getElem?_toArray, List.getElem?_cons_zero, List.getElem?_cons_succ] at k0 k1 k2
    have z0 := cells_frz (i := 0) hG
    have z1 := cells_frz (i := 1) hG
    have z2 := cells_frz (i := 2) hG
    have HR := hid hrd1
    have HS := hid hsl1
    have HB := hid hB1
    clear hrd1 hsl1 hb1 hBx hG hB1 c0 c1 p0 p1 p2 p3 d0 d1
    go_wp2_with fail
    obtain ⟨r0, r1, r2, q1, q2, q3⟩ := box_fin HG.out HB.out (by omega) (by omega) HR.out HS.out
    exact bodyPost_ret (v := .tuple #[.agg #[_, _, _], .int .i64 _]) (by simp [results, Tryz.results138, go_sem, r0, r1, r2] <;> rfl) rfl ⟨_, _, _, rfl, q1, q2, q3⟩
  by_cases a2 : act = 2
  · subst a2
    rw [leafX_2 rfl]
    go_enter Tryz.func138, Tryz.ntmps138
    obtain ⟨hB0, c0, c1, p0, p1, p2, p3, d0, d1, g3⟩ := HX.out _ (Below.refl _ _)
    clear g3
    go_wp2_with fail
    refine (fdisable_any u d _ _ _ (HC.out _ hb0) (by omega) hd).mono ?_
    rintro e w1 ⟨ve1, vk1, vc1, rfl, hrd1, hsl1, hb1⟩
    obtain ⟨Av, nv, Aw, nw, rfl, rfl⟩ := rda_shape hrd1
    obtain ⟨Ac, nc, rfl⟩ := hsl1.shape
    simp only [World.size_alloc] at hrd1 hsl1 hb1
    have hBx : Below (w.heap.size + 4) _ w1 := hb1.mono (by omega)
    clear c0 c1 p0 p1 p2 p3 d0 d1
    obtain ⟨hB1, c0, c1, p0, p1, p2, p3, d0, d1, hG⟩ := HX.out _ hBx
    have HG := hid hG
    have k0 := cell_cells (i := 0) hG
    have k1 := cell_cells (i := 1) hG
    have k2 := cell_cells (i := 2) hG
    simp only [List.getElem?_toArray, List.getElem?_cons_zero, List.getElem?_cons_succ] at k0 k1 k2
    have z0 := cells_frz (i := 0) hG
    have z1 := cells_frz (i := 1) hG
    have z2 := cells_frz (i := 2) hG
    have HR := hid hrd1
    have HS := hid hsl1
    have HB := hid hB1
    clear hrd1 hsl1 hb1 hBx hG hB1 c0 c1 p0 p1 p2 p3 d0 d1
    go_wp2_with fail
    obtain ⟨r0, r1, r2, q1, q2, q3⟩ := box_fin HG.out HB.out (by omega) (by omega) HR.out HS.out
    exact bodyPost_ret (v := .tuple #[.agg #[_, _, _], .int .i64 _]) (by simp [results, Tryz.results138, go_sem, r0, r1, r2] <;> rfl) rfl ⟨_, _, _, rfl, q1, q2, q3⟩
  by_cases a3 : act = 3
  · subst a3
    rw [leafX_3 rfl]
    go_enter Tryz.func138, Tryz.ntmps138
    obtain ⟨hB0, c0, c1, p0, p1, p2, p3, d0, d1, g3⟩ := HX.out _ (Below.refl _ _)
    clear g3
    go_wp2_with fail
    refine (sadd_any u s d _ _ _ (HC.out _ hb0) os (by omega) hd).mono ?_
    rintro e w1 ⟨ve1, vk1, vc1, rfl, hrd1, hsl1, hb1⟩
    obtain ⟨Av, nv, Aw, nw, rfl, rfl⟩ := rda_shape hrd1
    obtain ⟨Ac, nc, rfl⟩ := hsl1.shape
    simp only [World.size_alloc] at hrd1 hsl1 hb1
    have hBx : Below (w.heap.size + 4) _ w1 := hb1.mono (by omega)
    clear c0 c1 p0 p1 p2 p3 d0 d1
    obtain ⟨hB1, c0, c1, p0, p1, p2, p3, d0, d1, hG⟩ := HX.out _ hBx
    have HG := hid hG
    have k0 := cell_cells (i := 0) hG
    have k1 := cell_cells (i := 1) hG
    have k2 := cell_cells (i := 2) hG
    simp only [List.getElem?_toArray, List.getElem?_cons_zero, List.getElem?_cons_succ] at k0 k1 k2
    have z0 := cells_frz (i := 0) hG
    have z1 := cells_frz (i := 1) hG
    have z2 := cells_frz (i := 2) hG
    have HR := hid hrd1
    have HS := hid hsl1
    have HB := hid hB1
    clear hrd1 hsl1 hb1 hBx hG hB1 c0 c1 p0 p1 p2 p3 d0 d1
    go_wp2_with fail
    obtain ⟨r0, r1, r2, q1, q2, q3⟩ := box_fin HG.out HB.out (by omega) (by omega) HR.out HS.out
    exact bodyPost_ret (v := .tuple #[.agg #[_, _, _], .int .i64 _]) (by simp [results, Tryz.results138, go_sem, r0, r1, r2] <;> rfl) rfl ⟨_, _, _, rfl, q1, q2, q3⟩
  by_cases a4 : act = 4
  · subst a4
    rw [leafX_4 rfl]
    go_enter Tryz.func138, Tryz.ntmps138
    obtain ⟨hB0, c0, c1, p0, p1, p2, p3, d0, d1, g3⟩ := HX.out _ (Below.refl _ _)
    clear g3
    go_wp2_with fail
    refine (sdel_any u s d _ _ _ (HC.out _ hb0) os (by omega) hd).mono ?_
    rintro e w1 ⟨ve1, vk1, vc1, rfl, hrd1, hsl1, hb1⟩
    obtain ⟨Av, nv, Aw, nw, rfl, rfl⟩ := rda_shape hrd1
    obtain ⟨Ac, nc, rfl⟩ := hsl1.shape
    simp only [World.size_alloc] at hrd1 hsl1 hb1
    have hBx : Below (w.heap.size + 4) _ w1 := hb1.mono (by omega)
    clear c0 c1 p0 p1 p2 p3 d0 d1
    obtain ⟨hB1, c0, c1, p0, p1, p2, p3, d0, d1, hG⟩ := HX.out _ hBx
    have HG := hid hG
    have k0 := cell_cells (i := 0) hG
    have k1 := cell_cells (i := 1) hG
    have k2 := cell_cells (i := 2) hG
    simp only [List.getElem?_toArray, List.getElem?_cons_zero, List.getElem?_cons_succ] at k0 k1 k2
    have z0 := cells_frz (i := 0) hG
    have z1 := cells_frz (i := 1) hG
    have z2 := cells_frz (i := 2) hG
    have HR := hid hrd1
    have HS := hid hsl1
    have HB := hid hB1
    clear hrd1 hsl1 hb1 hBx hG hB1 c0 c1 p0 p1 p2 p3 d0 d1
    go_wp2_with fail
    obtain ⟨r0, r1, r2, q1, q2, q3⟩ := box_fin HG.out HB.out (by omega) (by omega) HR.out HS.out
    exact bodyPost_ret (v := .tuple #[.agg #[_, _, _], .int .i64 _]) (by simp [results, Tryz.results138, go_sem, r0, r1, r2] <;> rfl) rfl ⟨_, _, _, rfl, q1, q2, q3⟩
  by_cases a5 : act = 5
  · subst a5
    rw [leafX_5 rfl]
    go_enter Tryz.func138, Tryz.ntmps138
    obtain ⟨hB0, c0, c1, p0, p1, p2, p3, d0, d1, g3⟩ := HX.out _ (Below.refl _ _)
    clear g3
    go_wp2_with fail
    refine (cinc_any u n d _ _ _ (HC.out _ hb0) (by omega) on hd).mono ?_
    rintro e w1 ⟨ve1, vk1, vc1, rfl, hrd1, hsl1, hb1⟩
    obtain ⟨Av, nv, Aw, nw, rfl, rfl⟩ := rda_shape hrd1
    obtain ⟨Ac, nc, rfl⟩ := hsl1.shape
    simp only [World.size_alloc] at hrd1 hsl1 hb1
    have hBx : Below (w.heap.size + 4) _ w1 := hb1.mono (by omega)
    clear c0 c1 p0 p1 p2 p3 d0 d1
    obtain ⟨hB1, c0, c1, p0, p1, p2, p3, d0, d1, hG⟩ := HX.out _ hBx
    have HG := hid hG
    have k0 := cell_cells (i := 0) hG
    have k1 := cell_cells (i := 1) hG
    have k2 := cell_cells (i := 2) hG
    simp only [List.getElem?_toArray, List.getElem?_cons_zero, List.getElem?_cons_succ] at k0 k1 k2
    have z0 := cells_frz (i := 0) hG
    have z1 := cells_frz (i := 1) hG
    have z2 := cells_frz (i := 2) hG
    have HR := hid hrd1
    have HS := hid hsl1
    have HB := hid hB1
    clear hrd1 hsl1 hb1 hBx hG hB1 c0 c1 p0 p1 p2 p3 d0 d1
    go_wp2_with fail
    obtain ⟨r0, r1, r2, q1, q2, q3⟩ := box_fin HG.out HB.out (by omega) (by omega) HR.out HS.out
    exact bodyPost_ret (v := .tuple #[.agg #[_, _, _], .int .i64 _]) (by simp [results, Tryz.results138, go_sem, r0, r1, r2] <;> rfl) rfl ⟨_, _, _, rfl, q1, q2, q3⟩
  by_cases a6 : act = 6
  · subst a6
    rw [leafX_6 rfl]
    go_enter Tryz.func138, Tryz.ntmps138
    obtain ⟨hB0, c0, c1, p0, p1, p2, p3, d0, d1, g3⟩ := HX.out _ (Below.refl _ _)
    clear g3
    go_wp2_with fail
    refine (rwrite_any u s d _ _ _ (HC.out _ hb0) os (by omega) hd).mono ?_
    rintro e w1 ⟨ve1, vk1, vc1, rfl, hrd1, hsl1, hb1⟩
    obtain ⟨Av, nv, Aw, nw, rfl, rfl⟩ := rda_shape hrd1
    obtain ⟨Ac, nc, rfl⟩ := hsl1.shape
    simp only [World.size_alloc] at hrd1 hsl1 hb1
    have hBx : Below (w.heap.size + 4) _ w1 := hb1.mono (by omega)
    clear c0 c1 p0 p1 p2 p3 d0 d1
    obtain ⟨hB1, c0, c1, p0, p1, p2, p3, d0, d1, hG⟩ := HX.out _ hBx
    have HG := hid hG
    have k0 := cell_cells (i := 0) hG
    have k1 := cell_cells (i := 1) hG
    have k2 := cell_cells (i := 2) hG
    simp only [List.getElem?_toArray, List.getElem?_cons_zero, List.getElem?_cons_succ] at k0 k1 k2
    have z0 := cells_frz (i := 0) hG
    have z1 := cells_frz (i := 1) hG
    have z2 := cells_frz (i := 2) hG
    have HR := hid hrd1
    have HS := hid hsl1
    have HB := hid hB1
    clear hrd1 hsl1 hb1 hBx hG hB1 c0 c1 p0 p1 p2 p3 d0 d1
    go_wp2_with fail
    obtain ⟨r0, r1, r2, q1, q2, q3⟩ := box_fin HG.out HB.out (by omega) (by omega) HR.out HS.out
    exact bodyPost_ret (v := .tuple #[.agg #[_, _, _], .int .i64 _]) (by simp [results, Tryz.results138, go_sem, r0, r1, r2] <;> rfl) rfl ⟨_, _, _, rfl, q1, q2, q3⟩
  · have hX : leafX u ⟨path, act, s, n⟩ d = (.mk [] [], disC u d, chkI u d) := by unfold leafX; rw [if_neg a1, if_neg a2, if_neg a3, if_neg a4, if_neg a5, if_neg a6]
    rw [hX]
    have e1 : (act == 1) = false := by simpa using a1
    have e2 : (act == 2) = false := by simpa using a2
    have e3 : (act == 3) = false := by simpa using a3
    have e4 : (act == 4) = false := by simpa using a4
    have e5 : (act == 5) = false := by simpa using a5
    have e6 : (act == 6) = false := by simpa using a6
    go_enter Tryz.func138, Tryz.ntmps138
    obtain ⟨hB0, c0, c1, p0, p1, p2, p3, d0, d1, g3⟩ := HX.out _ (Below.refl _ _)
    clear g3
    go_wp2_with fail
    refine (oreset_any u d _ _ _ (HC.out _ hb0) (by omega) hd).mono ?_
    rintro e w1 ⟨ve1, vk1, vc1, rfl, hrd1, hsl1, hb1⟩
    obtain ⟨Av, nv, Aw, nw, rfl, rfl⟩ := rda_shape hrd1
    obtain ⟨Ac, nc, rfl⟩ := hsl1.shape
    simp only [World.size_alloc] at hrd1 hsl1 hb1
    have hBx : Below (w.heap.size + 4) _ w1 := hb1.mono (by omega)
    clear c0 c1 p0 p1 p2 p3 d0 d1
    obtain ⟨hB1, c0, c1, p0, p1, p2, p3, d0, d1, hG⟩ := HX.out _ hBx
    have HG := hid hG
    have k0 := cell_cells (i := 0) hG
    have k1 := cell_cells (i := 1) hG
    have k2 := cell_cells (i := 2) hG
    simp only [List.getElem?_toArray, List.getElem?_cons_zero, List.getElem?_cons_succ] at k0 k1 k2
    have z0 := cells_frz (i := 0) hG
    have z1 := cells_frz (i := 1) hG
    have z2 := cells_frz (i := 2) hG
    have HR := hid hrd1
    have HS := hid hsl1
    have HB := hid hB1
    clear hrd1 hsl1 hb1 hBx hG hB1 c0 c1 p0 p1 p2 p3 d0 d1
    go_wp2_with fail
    obtain ⟨r0, r1, r2, q1, q2, q3⟩ := box_fin HG.out HB.out (by omega) (by omega) HR.out HS.out
    exact bodyPost_ret (v := .tuple #[.agg #[_, _, _], .int .i64 _]) (by simp [results, Tryz.results138, go_sem, r0, r1, r2] <;> rfl) rfl ⟨_, _, _, rfl, q1, q2, q3⟩
end Go.Proofs.YtlapdmgjfdelnaaGreat

namespace Go.Proofs.YtlapdmgjfdelnaaGreat
open Go.RowKit
set_option maxRecDepth 100000

/-- What one lies as: its tree and its context. -/
def CaE (w : World) (B : Nat) (x : Tr × List Sp) (cs : List Value) : Prop := ∃ ve vk vc, cs = [ve, vk, vc] ∧ x.1.rd w B ve vk ∧ SlP w B 3 SpE vc x.2
end Go.Proofs.YtlapdmgjfdelnaaGreat

namespace Go.Proofs.YtlapdmgjfdelnaaGreat
open Go.RowKit
set_option maxRecDepth 100000

theorem slp3 {α : Type} {w : World} {g B : Nat} {E : α → List Value → Prop} {x y z : α} {a0 a1 a2 b0 b1 b2 c0 c1 c2 : Value} {e : TypeId} (hG : w.heap[g]? = some (.cells #[a0, a1, a2, b0, b1, b2, c0, c1, c2] e (0, 0))) (hx : E x [a0, a1, a2]) (hy : E y [b0, b1, b2]) (hz : E z [c0, c1, c2]) (hB : g < B) :
    SlP w B 3 E (.slice (some ⟨g, 0, none⟩) 3 3) [x, y, z] := by
  refine ⟨_, 3, rfl, Nat.le_refl _, by simp [Big], fun _ => ⟨_, 0, rfl, hB, fun j u hu => ?_⟩⟩
  match j, hu with
  | 0, hu =>
    simp at hu; subst hu
    refine ⟨_, hx, rfl, fun i v hi => ?_⟩
    match i, hi with
    | 0, hi => simp at hi; subst hi; exact cell_cells (i := 0) hG
    | 1, hi => simp at hi; subst hi; exact cell_cells (i := 1) hG
    | 2, hi => simp at hi; subst hi; exact cell_cells (i := 2) hG
    | i + 3, hi => simp at hi
  | 1, hu =>
    simp at hu; subst hu
    refine ⟨_, hy, rfl, fun i v hi => ?_⟩
    match i, hi with
    | 0, hi => simp at hi; subst hi; exact cell_cells (i := 3) hG
    | 1, hi => simp at hi; subst hi; exact cell_cells (i := 4) hG
    | 2, hi => simp at hi; subst hi; exact cell_cells (i := 5) hG
    | i + 3, hi => simp at hi
  | 2, hu =>
    simp at hu; subst hu
    refine ⟨_, hz, rfl, fun i v hi => ?_⟩
    match i, hi with
    | 0, hi => simp at hi; subst hi; exact cell_cells (i := 6) hG
    | 1, hi => simp at hi; subst hi; exact cell_cells (i := 7) hG
    | 2, hi => simp at hi; subst hi; exact cell_cells (i := 8) hG
    | i + 3, hi => simp at hi
  | j + 3, hu => simp at hu
theorem kn_at {W : World} {B : Nat} {t : Tr} {c : List Sp} {ve vk vc : Value} (h : t.rd W B ve vk) (hc : SlP W B 3 SpE vc c) : CaE W B (t, c) [ve, vk, vc] := ⟨_, _, _, rfl, h, hc⟩
end Go.Proofs.YtlapdmgjfdelnaaGreat

namespace Go.Proofs.YtlapdmgjfdelnaaGreat
open Go.RowKit
set_option maxRecDepth 100000

theorem r10own_any (t : Tr) (ve vk : Value) (w : World) (h : t.rd w w.heap.size ve vk) (hN : t.sz ≤ 90000) (hR : ∀ d ∈ ownD t, 0 ≤ d.n ∧ d.n ≤ 1099511627778) :
    Calls Tryz.prog 195 #[.agg #[ve, vk]] w (RetO w 45 3 (fun _ => SpE) (ctxOf (ownD t))) := by
  obtain ⟨es, ks⟩ := t
  have hsl := (rd_iff.1 h).1
  have hz : es.length ≤ 90000 := by rw [Tr.sz] at hN; omega
  have hD : (Tr.mk es []).dots = ownD (.mk es ks) := by unfold ownD; rw [Tr.dots, Tr.dotsL, List.append_nil]; rfl
  obtain ⟨A3, n3, A4, n4, rfl, rfl⟩ := rd_shape h
  have HE : Hid (∀ w', Below w.heap.size w w' → (Tr.mk es []).rd w' w'.heap.size (.slice A3 es.length n3) (.slice none 0 0)) := fun w' hb => rd_iff.2 ⟨hsl.imp hb hb.size fun _ _ _ h => h, SlP.nil⟩
  have HRR : Hid (∀ d ∈ (Tr.mk es []).dots, 0 ≤ d.n ∧ d.n ≤ 1099511627778) := by unfold Hid; rw [hD]; exact hR
  have hb0 : Below w.heap.size w (w.alloc (.cells #[.slice A3 (Tr.mk es ks).es.length n3, .slice A4 (Tr.mk es ks).ks.length n4] 25)) := (Below.refl _ w).alloc (Nat.le_refl _) _
  clear h hsl
  go_enter Tryz.func195, Tryz.ntmps195
  go_wp2_with fail
  refine (r08dots_any (.mk es []) _ _ _ (HE.out _ hb0) (by rw [Tr.sz, Tr.szL]; omega) HRR.out).mono ?_
  rw [hD]
  rintro e w1 ⟨v1, rfl, ho1, hb1⟩
  go_wp2_with fail
  go_ret
  exact ⟨_, rfl, ho1.mono (by simp), hb0.trans (hb1.mono (by simp))⟩
end Go.Proofs.YtlapdmgjfdelnaaGreat

namespace Go.Proofs.YtlapdmgjfdelnaaGreat
open Go.RowKit
set_option maxRecDepth 100000

theorem ctx_add {d : Dt} {l : List Dt} (hd : d.right = true) (hl : ∀ x ∈ l, x.right = true) : ctxOf (d :: l) = ctxBy (ctxOf l) [⟨d.dc, d.n, d.n⟩] 0 := by
  rw [ctxOf_whole, ctxBy_whole]
  refine whole_eq fun i hi => ?_
  rw [part_ctxOf l hi]
  have hb := (right_bd hd).2
  have hda : ∀ x ∈ d :: l, x.right = true := fun x hx => by
    rcases List.mem_cons.1 hx with rfl | hx
    · exact hd
    · exact hl x hx
  obtain ⟨a1, a2⟩ := ofL_right (nums_ok hda (i : Int))
  obtain ⟨b1, b2⟩ := ofL_right (nums_ok hl (i : Int))
  have hp : ∀ r ∈ partL [(⟨d.dc, d.n, d.n⟩ : Sp)] (i : Int), runOk r := fun r hr => by
    unfold partL at hr
    obtain ⟨s, hs, rfl⟩ := List.mem_map.1 hr
    have := (List.mem_filter.1 hs).1
    simp at this; subst this
    exact ⟨hb.1, Int.le_refl _, hb.2⟩
  obtain ⟨c1, c2⟩ := byL_right (a := ofL (numsL l (i : Int))) (b := partL [(⟨d.dc, d.n, d.n⟩ : Sp)] (i : Int)) 0 (runs_ok _ none b1) hp
  refine runs_eq _ _ none none a1 c1 fun n => ?_
  rw [c2, Bool.eq_iff_iff, a2]
  have hn : (hasL (ofL (numsL l (i : Int))) n = true) ↔ n ∈ numsL l (i : Int) := b2 n
  simp only [inn, if_neg (show ¬ ((0 : Int) = 2) by decide), if_neg (show ¬ ((0 : Int) = 1) by decide), Bool.or_eq_true, hn]
  by_cases e : d.dc = (i : Int)
  · have h1 : numsL (d :: l) (i : Int) = d.n :: numsL l (i : Int) := by simp [numsL, e]
    have h2 : partL [(⟨d.dc, d.n, d.n⟩ : Sp)] (i : Int) = [(d.n, d.n)] := by simp [partL, e]
    rw [h1, h2, List.mem_cons]
    simp [hasL, inR]
    constructor
    · rintro (h | h)
      · exact .inr ⟨by omega, by omega⟩
      · exact .inl h
    · rintro (h | ⟨h, k⟩)
      · exact .inr h
      · exact .inl (by omega)
  · have h1 : numsL (d :: l) (i : Int) = numsL l (i : Int) := by simp [numsL, e]
    have h2 : partL [(⟨d.dc, d.n, d.n⟩ : Sp)] (i : Int) = [] := by simp [partL, e]
    rw [h1, h2]; simp [hasL]
end Go.Proofs.YtlapdmgjfdelnaaGreat

namespace Go.Proofs.YtlapdmgjfdelnaaGreat
open Go.RowKit
set_option maxRecDepth 100000

def aftK (x : Kn) (o : Opr) (d : Dt) : Kn := jn x (appT x.1 o d, appC x.1 o d)
theorem aft_ok {x : Kn} (hx : KOk x) {o : Opr} {d : Dt} (h : appI x.1 o d = 0) : KOk (aftK x o d) := jn_okK hx (app_right h).1
theorem st_es {u : Tr} (ho : u.Ord) {y : En} : y ∈ u.es ↔ stE u [] y.dot = some y := by rw [stE_some ho, ← mem_es]; simp
end Go.Proofs.YtlapdmgjfdelnaaGreat

namespace Go.Proofs.YtlapdmgjfdelnaaGreat
open Go.RowKit
set_option maxRecDepth 100000

def renE (f : Dt → Dt) (e : En) : En := ⟨(f e.dot).dc, (f e.dot).n, e.s, e.v⟩
/-- Two trees that are one but for the names. -/
def RnT (f : Dt → Dt) (s t : Tr) : Prop := ∀ p y, ((p, y) : Lf) ∈ t.lvs [] ↔ ∃ e, ((p, e) : Lf) ∈ s.lvs [] ∧ y = renE f e
structure RnK (f : Dt → Dt) (x y : Kn) : Prop where
  okx : KOk x
  oky : KOk y
  lf : RnT f x.1 y.1
  inj : ∀ d e, hasC x.2 d = true → hasC x.2 e = true → f d = f e → d = e
  ctx : ∀ d, hasC y.2 d = true ↔ ∃ e, hasC x.2 e = true ∧ f e = d
theorem RnT.get {f : Dt → Dt} {s t : Tr} (h : RnT f s t) (hs : s.Ord) (ht : t.Ord) (p : List ByteArray) : RnT f (getK s p) (getK t p) := fun q y => by
  rw [mem_getP p ht, h]
  exact ⟨fun ⟨e, h1, h2⟩ => ⟨e, (mem_getP p hs).2 h1, h2⟩, fun ⟨e, h1, h2⟩ => ⟨e, (mem_getP p hs).1 h1, h2⟩⟩
theorem RnT.keys {f : Dt → Dt} {s t : Tr} (h : RnT f s t) (hs : s.Ord) (ht : t.Ord) : s.ks.map (·.1) = t.ks.map (·.1) := by
  refine sorted_ext ltS_irrefl (fun _ _ _ h k => ltS_trans h k) ?_ ?_ fun k => ?_
  · obtain ⟨es, ks⟩ := s
    exact List.pairwise_map.2 (ord_iff.1 hs).2.1
  · obtain ⟨es, ks⟩ := t
    exact List.pairwise_map.2 (ord_iff.1 ht).2.1
  · rw [keys_leaf hs, keys_leaf ht]
    exact ⟨fun ⟨q, e, h1⟩ => ⟨q, _, (h _ _).2 ⟨e, h1, rfl⟩⟩, fun ⟨q, y, h1⟩ => by obtain ⟨e, h2, _⟩ := (h _ _).1 h1; exact ⟨q, e, h2⟩⟩
theorem es_nodup {t : Tr} (ht : t.Ord) : t.es.Nodup := by
  obtain ⟨es, ks⟩ := t
  exact (ord_iff.1 ht).1.imp fun {a b} hh e => by rw [e, ltD_irrefl] at hh; cases hh
theorem RnT.es {f : Dt → Dt} {s t : Tr} (h : RnT f s t) (hs : s.Ord) (ht : t.Ord) (hi : ∀ d ∈ s.es, ∀ e ∈ s.es, f d.dot = f e.dot → d.dot = e.dot) : t.es.Perm (s.es.map (renE f)) := by
  refine (List.perm_ext_iff_of_nodup (es_nodup ht) ?_).2 fun y => ?_
  · refine List.pairwise_map.2 ((es_nodup hs).imp_of_mem fun {a b} ha hb hne e => hne ?_)
    have h1 : a.dot = b.dot := hi a ha b hb (congrArg En.dot e)
    have h2 := (st_es hs).1 ha
    have h3 := (st_es hs).1 hb
    rw [h1, h3] at h2; cases h2; rfl
  · rw [← mem_es, h, List.mem_map]
    exact ⟨fun ⟨e, h1, h2⟩ => ⟨e, mem_es.1 h1, h2.symm⟩, fun ⟨e, h1, h2⟩ => ⟨e, mem_es.2 h1, h2.symm⟩⟩
theorem sumP_ren (f : Dt → Dt) (es : List En) : sumP (es.map (renE f)) = sumP es := by
  induction es with
  | nil => rfl
  | cons e es ih => rw [List.map_cons, sumP_cons, sumP_cons, ih]; rfl
theorem view_ren {f : Dt → Dt} {s t : Tr} (h : RnT f s t) (hs : s.right 5 = true) (ht : t.right 5 = true) (hi : ∀ d ∈ s.es, ∀ e ∈ s.es, f d.dot = f e.dot → d.dot = e.dot) (hz : s.es.length ≤ 100) (k : Int) : viewK k s = viewK k t := by
  have os := right_ord _ _ hs
  have ot := right_ord _ _ ht
  have hp := h.es os ot hi
  have hl := hp.length_eq
  rw [List.length_map] at hl
  have e1 : onB s = onB t := by unfold onB; rw [hs, ht, hl]
  have hbd : ∀ {A : Tr}, A.right 5 = true → ∀ e ∈ A.es, -1099511627776 ≤ e.v ∧ e.v ≤ 1099511627776 := fun {A} hA e he => by
    have := (right_leaf A 5 hA ([], e) (mem_es.2 he)).2.2
    unfold En.right at this; simp at this; omega
  have e2 : valT s = valT t := by
    unfold valT
    rw [hs, ht, if_pos rfl, if_pos rfl, (sumE_P (hbd hs) hz).1, (sumE_P (hbd ht) (by omega)).1, sumP_perm hp, sumP_ren]
  have e3 : elemsOf s = elemsOf t := by
    rw [elems_right hs, elems_right ht]
    refine sorted_ext ltS_irrefl (fun _ _ _ h k => ltS_trans h k) (elL_sorted os) (elL_sorted ot) fun x => ?_
    rw [elL_mem, elL_mem]
    exact ⟨fun ⟨e, h1⟩ => ⟨_, (h _ _).2 ⟨e, h1, rfl⟩⟩, fun ⟨y, h1⟩ => by obtain ⟨e, h2, _⟩ := (h _ _).1 h1; exact ⟨e, h2⟩⟩
  have e4 : valsOf s = valsOf t := by
    rw [valsR hs, valsR ht]
    refine sdExt fun x => ?_
    unfold txtL
    rw [List.mem_map, List.mem_map]
    constructor
    · rintro ⟨e, h1, rfl⟩; exact ⟨renE f e, mem_es.1 ((h _ _).2 ⟨e, mem_es.2 h1, rfl⟩), rfl⟩
    · rintro ⟨y, h1, rfl⟩
      obtain ⟨e, h2, rfl⟩ := (h _ _).1 (mem_es.2 h1)
      exact ⟨e, mem_es.1 h2, rfl⟩
  have e5 : keysOf s = keysOf t := by unfold keysOf; rw [hs, ht, if_pos rfl, if_pos rfl, h.keys os ot]
  unfold viewK
  rw [e1, e2, e3, e4, e5]
/-- Which of a change's tree's leaves it has seen. -/
def seeAt (o : Opr) (p : List ByteArray) : Prop := if o.act = 3 ∨ o.act = 4 then ∃ q, p = o.path ++ [o.s] ++ q else if o.act = 5 then False else if o.act = 6 then p = o.path else ∃ q, p = o.path ++ q
theorem sees_iff {t : Tr} (h : t.Ord) {o : Opr} {x : Dt} : x ∈ seesD t o ↔ ∃ p e, ((p, e) : Lf) ∈ t.lvs [] ∧ e.dot = x ∧ seeAt o p := by
  unfold seesD seeAt
  split
  · rw [getP_dots h]
    exact ⟨fun ⟨q, e, h1, h2⟩ => ⟨_, e, h1, h2, q, rfl⟩, fun ⟨p, e, h1, h2, q, h3⟩ => ⟨q, e, h3 ▸ h1, h2⟩⟩
  · split
    · simp
    · split
      · rw [own_at h]
        exact ⟨fun ⟨e, h1, h2⟩ => ⟨_, e, h1, h2, rfl⟩, fun ⟨p, e, h1, h2, h3⟩ => ⟨e, h3 ▸ h1, h2⟩⟩
      · rw [getP_dots h]
        exact ⟨fun ⟨q, e, h1, h2⟩ => ⟨_, e, h1, h2, q, rfl⟩, fun ⟨p, e, h1, h2, q, h3⟩ => ⟨q, e, h3 ▸ h1, h2⟩⟩
theorem RnK.sees {f : Dt → Dt} {x y : Kn} (h : RnK f x y) {o : Opr} {z : Dt} (hz : hasC x.2 z = true) : f z ∈ seesD y.1 o ↔ z ∈ seesD x.1 o := by
  rw [sees_iff h.oky.ord, sees_iff h.okx.ord]
  constructor
  · rintro ⟨p, e, h1, h2, h3⟩
    obtain ⟨e1, h4, rfl⟩ := (h.lf _ _).1 h1
    exact ⟨p, e1, h4, h.inj _ _ (h.okx.has _ h4) hz h2, h3⟩
  · rintro ⟨p, e, h1, rfl, h3⟩
    exact ⟨p, renE f e, (h.lf _ _).2 ⟨e, h1, rfl⟩, rfl, h3⟩
theorem RnK.fullAt {f : Dt → Dt} {x y : Kn} (h : RnK f x y) (p : List ByteArray) (k : Nat) : fullAt x.1 p k = fullAt y.1 p k := by
  have h1 := (h.lf.get h.okx.ord h.oky.ord (p.take k)).keys (getP_ord h.okx.ord _) (getP_ord h.oky.ord _)
  have h2 : (getK x.1 (p.take k)).ks.length = (getK y.1 (p.take k)).ks.length := by have := congrArg List.length h1; simpa using this
  have h3 : ∀ s, hasK (getK x.1 (p.take k)) s = hasK (getK y.1 (p.take k)) s := fun s => by
    rw [Bool.eq_iff_iff]
    unfold hasK
    rw [List.any_eq_true, List.any_eq_true]
    have h4 : ∀ t : Tr, (∃ z ∈ t.ks, decide (z.1 = s) = true) ↔ s ∈ t.ks.map (·.1) := fun t => by rw [List.mem_map]; simp
    rw [h4, h4, h1]
  unfold Go.Proofs.YtlapdmgjfdelnaaGreat.fullAt
  rw [h2, h3]
theorem RnK.dotEs {f : Dt → Dt} {x y : Kn} (h : RnK f x y) (p : List ByteArray) : ∀ d ∈ (getK x.1 p).es, ∀ e ∈ (getK x.1 p).es, f d.dot = f e.dot → d.dot = e.dot := fun d hd e he => by
  have h1 : ∀ d ∈ (getK x.1 p).es, hasC x.2 d.dot = true := fun d hd => h.okx.has _ ((mem_getP p h.okx.ord).1 (mem_es.2 hd))
  exact h.inj _ _ (h1 d hd) (h1 e he)
theorem RnK.full {f : Dt → Dt} {x y : Kn} (h : RnK f x y) (o : Opr) : fullB x.1 o = fullB y.1 o := by
  have h1 := ((h.lf.get h.okx.ord h.oky.ord (endP o)).es (getP_ord h.okx.ord _) (getP_ord h.oky.ord _) (h.dotEs _)).length_eq
  rw [List.length_map] at h1
  unfold fullB fullP
  rw [h1, any_congr' fun k _ => h.fullAt (endP o) k]
theorem RnK.app {f : Dt → Dt} {x y : Kn} (h : RnK f x y) (o : Opr) {d e : Dt} (hd : d.right = true) (he : e.right = true) (hd' : hasC x.2 d = false) (he' : hasC y.2 e = false) : appI x.1 o d = appI y.1 o e := by
  have hx : x.1.right 5 = true := (right_iff h.okx.ord).2 h.okx.leaf
  have hy : y.1.right 5 = true := (right_iff h.oky.ord).2 h.oky.leaf
  have hno : ∀ {z : Kn} {c : Dt}, KOk z → hasC z.2 c = false → c ∉ z.1.dots := fun {z c} hz hc hm => by
    obtain ⟨p, e, h1, rfl⟩ := (mem_dots _ _).1 hm
    rw [hz.has _ h1] at hc; cases hc
  unfold appI
  rw [hx, hy, chk_mk' hx hd (hno h.okx hd'), chk_mk' hy he (hno h.oky he'), h.full o]
theorem aft_lvs {x : Kn} (hx : KOk x) {o : Opr} {d : Dt} (h : appI x.1 o d = 0) (hd : hasC x.2 d = false) (p : List ByteArray) (e : En) : ((p, e) : Lf) ∈ (aftK x o d).1.lvs [] ↔ (entryB o.act = true ∧ p = endP o ∧ e = entE o d) ∨ (((p, e) : Lf) ∈ x.1.lvs [] ∧ e.dot ∉ seesD x.1 o) := by
  have hX : KOk (appT x.1 o d, appC x.1 o d) := (app_right h).1
  have hs : ∀ {t : Tr}, t.Ord → (((p, e) : Lf) ∈ t.lvs [] ↔ stE t p e.dot = some e) := fun {t} ho => by rw [stE_some ho]; simp
  rw [hs (aft_ok hx h).ord, hs hx.ord]
  unfold aftK
  rw [jn_st hx hX]
  simp only
  rw [app_st h, app_has h]
  by_cases hz : e.dot = d
  · have hn : stE x.1 p e.dot = none := by
      cases hs : stE x.1 p e.dot with
      | none => rfl
      | some y => have h1 : hasC x.2 e.dot = true := (stE_has hx hs).1; rw [hz, hd] at h1; cases h1
    rw [hn, hz, hd]
    by_cases h1 : entryB o.act = true ∧ p = endP o
    · rw [if_pos ⟨h1.1, h1.2, rfl⟩]
      simp [jnO, h1.1, h1.2, eq_comm]
    · rw [if_neg (fun q => h1 ⟨q.1, q.2.1⟩)]
      simp only [jnO]
      exact ⟨fun q => (by cases q), fun q => by rcases q with ⟨a, b, _⟩ | ⟨a, _⟩; exact absurd ⟨a, b⟩ h1; cases a⟩
  · rw [if_neg (fun q => hz q.2.2)]
    have hne : e ≠ entE o d := fun q => hz (by rw [q]; rfl)
    cases hs : stE x.1 p e.dot with
    | none => simp [jnO, hne]
    | some y => by_cases h1 : e.dot ∈ seesD x.1 o <;> simp [jnO, h1, hz, hne]
theorem aft_has' {x : Kn} (hx : KOk x) {o : Opr} {d : Dt} (h : appI x.1 o d = 0) (z : Dt) : hasC (aftK x o d).2 z = true ↔ hasC x.2 z = true ∨ z = d := by
  have hX : KOk (appT x.1 o d, appC x.1 o d) := (app_right h).1
  unfold aftK
  rw [jn_has hx hX]
  simp only
  rw [app_has h, Bool.or_eq_true, decide_eq_true_eq]
  constructor
  · rintro (h1 | h1 | h1)
    · exact .inl h1
    · exact .inr h1
    · obtain ⟨q, e, h2, rfl⟩ := sees_at hx.ord h1
      exact .inl (hx.has _ h2)
  · rintro (h1 | h1)
    · exact .inl h1
    · exact .inr (.inl h1)
theorem RnK.step {f : Dt → Dt} {x y : Kn} (h : RnK f x y) {o : Opr} {d : Dt} (ha : appI x.1 o d = 0) (hb : appI y.1 o (f d) = 0) (hd : hasC x.2 d = false) (he : hasC y.2 (f d) = false) : RnK f (aftK x o d) (aftK y o (f d)) := by
  refine ⟨aft_ok h.okx ha, aft_ok h.oky hb, fun p z => ?_, fun a b h1 h2 h3 => ?_, fun z => ?_⟩
  · rw [aft_lvs h.oky hb he]
    constructor
    · rintro (⟨h1, h2, rfl⟩ | ⟨h1, h2⟩)
      · exact ⟨entE o d, (aft_lvs h.okx ha hd _ _).2 (.inl ⟨h1, h2, rfl⟩), rfl⟩
      · obtain ⟨e, h3, rfl⟩ := (h.lf _ _).1 h1
        exact ⟨e, (aft_lvs h.okx ha hd _ _).2 (.inr ⟨h3, fun h4 => h2 ((h.sees (h.okx.has _ h3)).2 h4)⟩), rfl⟩
    · rintro ⟨e, h1, rfl⟩
      rcases (aft_lvs h.okx ha hd _ _).1 h1 with ⟨h2, h3, rfl⟩ | ⟨h2, h3⟩
      · exact .inl ⟨h2, h3, rfl⟩
      · exact .inr ⟨(h.lf _ _).2 ⟨e, h2, rfl⟩, fun h4 => h3 ((h.sees (h.okx.has _ h2)).1 h4)⟩
  · have hk : ∀ z, hasC x.2 z = true → f z ≠ f d := fun z hz e => by
      have := (h.ctx (f d)).2 ⟨z, hz, e⟩
      rw [he] at this; cases this
    rw [aft_has' h.okx ha] at h1 h2
    rcases h1 with h1 | rfl <;> rcases h2 with h2 | rfl
    · exact h.inj _ _ h1 h2 h3
    · exact absurd h3 (hk _ h1)
    · exact absurd h3.symm (hk _ h2)
    · rfl
  · rw [aft_has' h.oky hb, h.ctx]
    constructor
    · rintro (⟨e, h1, h2⟩ | rfl)
      · exact ⟨e, (aft_has' h.okx ha _).2 (.inl h1), h2⟩
      · exact ⟨d, (aft_has' h.okx ha _).2 (.inr rfl), rfl⟩
    · rintro ⟨e, h1, h2⟩
      rcases (aft_has' h.okx ha _).1 h1 with h1 | rfl
      · exact .inl ⟨e, h1, h2⟩
      · exact .inr h2.symm
theorem RnK.read {f : Dt → Dt} {x y : Kn} (h : RnK f x y) (p : List ByteArray) (hz : x.1.sz ≤ 100) : readI x.1 p = readI y.1 p ∧ readV x.1 p = readV y.1 p := by
  have hx : x.1.right 5 = true := (right_iff h.okx.ord).2 h.okx.leaf
  have hy : y.1.right 5 = true := (right_iff h.oky.ord).2 h.oky.leaf
  have hI : readI x.1 p = readI y.1 p := by unfold readI; rw [hx, hy]
  refine ⟨hI, ?_⟩
  have h1 := getK_szle x.1 p
  have h2 := es_sz (getK x.1 p)
  unfold readV
  rw [hI, view_ren (h.lf.get h.okx.ord h.oky.ord p) (getK_right hx p) (getK_right hy p) (h.dotEs p) (by omega)]
end Go.Proofs.YtlapdmgjfdelnaaGreat

namespace Go.Proofs.YtlapdmgjfdelnaaGreat
open Go.RowKit
set_option maxRecDepth 100000

/-- One more change, named by the next name: how many, what it makes of all, and all that was made, joined. -/
def stpN (nm : Nat → Dt) (s : Nat × Kn × Kn) (o : Opr) : Nat × Kn × Kn := (s.1 + 1, aftK s.2.1 o (nm s.1), jn s.2.2 (appT s.2.1.1 o (nm s.1), appC s.2.1.1 o (nm s.1)))
def chS (nm : Nat → Dt) (g : Kn) (ops : List Opr) : Nat × Kn × Kn := ops.foldl (stpN nm) (0, g, kn0)
/-- Each change can be made. -/
def okTx (nm : Nat → Dt) (g : Kn) (ops : List Opr) : Prop := ∀ (k : Nat) o, ops[k]? = some o → appI (chS nm g (ops.take k)).2.1.1 o (nm k) = 0
theorem app_len {t : Tr} {o : Opr} {d : Dt} (h : appI t o d = 0) : (appC t o d).length ≤ 4 * (t.sz + 2) := by
  have e1 : appC t o d = ctxOf (d :: seesD t o) := by unfold appC; rw [if_pos h]
  have e2 : (ctxOf (d :: seesD t o)).length ≤ 4 * ((d :: seesD t o).length + 1) := ctxOfK_len _ 4
  have e3 := sees_len t o
  rw [e1]
  simp only [List.length_cons] at e2
  omega
structure ChI (nm : Nat → Dt) (g : Kn) (k : Nat) (s : Nat × Kn × Kn) : Prop where
  now : KOk s.2.1
  out : KOk s.2.2
  has : ∀ z, hasC s.2.1.2 z = true ↔ hasC g.2 z = true ∨ ∃ i, i < k ∧ z = nm i
  eq : jn g s.2.2 = s.2.1
  z1 : s.2.1.1.sz ≤ g.1.sz + 5 * k
  z2 : s.2.2.1.sz ≤ 5 * k
  l1 : s.2.1.2.length ≤ g.2.length + 500 * k
  l2 : s.2.2.2.length ≤ 500 * k
/-- The names within. -/
def txD (k : Nat) : Dt := ⟨0, 1099511627765 + (k : Int)⟩
def nmF (nm : Nat → Dt) (d : Dt) : Dt := if d.dc = 0 ∧ 1099511627765 ≤ d.n ∧ d.n ≤ 1099511627776 then nm (d.n - 1099511627765).toNat else d
end Go.Proofs.YtlapdmgjfdelnaaGreat

namespace Go.Proofs.YtlapdmgjfdelnaaGreat
open Go.RowKit
set_option maxRecDepth 100000

/-- The call hands back a view, whose list lies in rows of its own, and an error's number. -/
def RetVE (w : World) (v : Vw) (k : Int) (e : Ending) (w' : World) : Prop :=
  ∃ vl, e = .returned (.tuple #[.agg #[.int .i64 v.kind, .bool v.on, .int .i64 v.n, vl], .int .i64 k]) ∧ SlA w' (fun b => w.heap.size ≤ b ∧ b < w'.heap.size) 1 StE vl v.l ∧ Below w.heap.size w w'
theorem box4 {w : World} {g : Nat} {x y z u : Value} {e : TypeId} (hbx : w.heap[g]? = some (.cells #[x, y, z, u] e (0, 0))) (a b c d : Value) :
    ((((w.setCell ⟨g, 0, none⟩ a).setCell ⟨g, 1, none⟩ b).setCell ⟨g, 2, none⟩ c).setCell ⟨g, 3, none⟩ d).cell? ⟨g, 0, none⟩ = some a ∧ ((((w.setCell ⟨g, 0, none⟩ a).setCell ⟨g, 1, none⟩ b).setCell ⟨g, 2, none⟩ c).setCell ⟨g, 3, none⟩ d).cell? ⟨g, 1, none⟩ = some b ∧ ((((w.setCell ⟨g, 0, none⟩ a).setCell ⟨g, 1, none⟩ b).setCell ⟨g, 2, none⟩ c).setCell ⟨g, 3, none⟩ d).cell? ⟨g, 2, none⟩ = some c ∧ ((((w.setCell ⟨g, 0, none⟩ a).setCell ⟨g, 1, none⟩ b).setCell ⟨g, 2, none⟩ c).setCell ⟨g, 3, none⟩ d).cell? ⟨g, 3, none⟩ = some d ∧
      (∀ k, k ≠ g → ((((w.setCell ⟨g, 0, none⟩ a).setCell ⟨g, 1, none⟩ b).setCell ⟨g, 2, none⟩ c).setCell ⟨g, 3, none⟩ d).heap[k]? = w.heap[k]?) ∧ ((((w.setCell ⟨g, 0, none⟩ a).setCell ⟨g, 1, none⟩ b).setCell ⟨g, 2, none⟩ c).setCell ⟨g, 3, none⟩ d).heap.size = w.heap.size := by
  have hW := cells_set (i := 3) (cells_set (i := 2) (cells_set (i := 1) (cells_set (i := 0) hbx a) b) c) d
  exact ⟨(cell_cells (i := 0) hW).trans (by simp), (cell_cells (i := 1) hW).trans (by simp), (cell_cells (i := 2) hW).trans (by simp), (cell_cells (i := 3) hW).trans (by simp),
    fun k hk => (Below.heap_setCell _ _ _ _ hk).trans ((Below.heap_setCell _ _ _ _ hk).trans ((Below.heap_setCell _ _ _ _ hk).trans (Below.heap_setCell _ _ _ _ hk))), by simp [World.setCell]⟩
theorem below_box4 {B : Nat} {w0 w : World} {g : Nat} (h : Below B w0 w) (hg : B ≤ g) (a b c d : Value) : Below B w0 ((((w.setCell ⟨g, 0, none⟩ a).setCell ⟨g, 1, none⟩ b).setCell ⟨g, 2, none⟩ c).setCell ⟨g, 3, none⟩ d) :=
  (((h.setCell (p := ⟨g, 0, none⟩) hg a).setCell (p := ⟨g, 1, none⟩) hg b).setCell (p := ⟨g, 2, none⟩) hg c).setCell (p := ⟨g, 3, none⟩) hg d
theorem vals_len (u : Tr) : (valsOf u).length ≤ u.es.length := by
  unfold valsOf
  have h1 : ∀ l : List ByteArray, (cmpL (srtL l)).length ≤ l.length := fun l => by
    rw [sd_eq]
    obtain ⟨h1, h2⟩ := sdL_spec l
    exact List.Nodup.length_le_of_subset (nodup_lt h1) fun x hx => (h2 x).1 hx
  refine Nat.le_trans (h1 _) ?_
  split
  · unfold txtL; simp
  · simp
theorem keys_len (u : Tr) : (keysOf u).length ≤ u.ks.length := by unfold keysOf; split <;> simp
theorem read_err {t : Tr} {p : List ByteArray} (h : readI t p ≠ 0) : readV t p = vw0 := by unfold readV; rw [if_neg h]
set_option maxHeartbeats 8000000 in
theorem opRead_any (t : Tr) (path : List ByteArray) (ve vk vp : Value) (w : World) (h : t.rd w w.heap.size ve vk) (hp : SlP w w.heap.size 1 StE vp path) (hN : t.sz ≤ 4000) :
    Calls Tryz.prog 40 #[.agg #[ve, vk], vp] w (RetVE w (readV t path) (readI t path)) := by
  have HC : Hid (∀ w', Below w.heap.size w w' → t.rd w' w'.heap.size ve vk) := fun w' hb => rd_below hb hb.size _ _ _ h
  have HD : Hid (∀ w', Below w.heap.size w w' → SlP w' w'.heap.size 1 StE vp path) := fun w' hb => hp.imp hb hb.size fun _ _ _ h => h
  obtain ⟨A3, n3, A4, n4, rfl, rfl⟩ := rd_shape h
  obtain ⟨A5, n5, rfl, p1, p2, p3⟩ := hp
  unfold Big at p2
  have hb0 := ((Below.refl w.heap.size w).alloc (Nat.le_refl _) (.cells #[.slice A3 t.es.length n3, .slice A4 t.ks.length n4] 25)).alloc (by simp) (.cells #[.int .i64 0, .bool false, .int .i64 0, .slice none 0 0] 72)
  have HX : Hid (∀ W, Below (w.heap.size + 2) ((w.alloc (.cells #[.slice A3 t.es.length n3, .slice A4 t.ks.length n4] 25)).alloc (.cells #[.int .i64 0, .bool false, .int .i64 0, .slice none 0 0] 72)) W →
      (Below w.heap.size w W ∧ t.rd W W.heap.size (.slice A3 t.es.length n3) (.slice A4 t.ks.length n4) ∧ SlP W W.heap.size 1 StE (.slice A5 path.length n5) path ∧ W.cell? ⟨w.heap.size, 0, none⟩ = some (.slice A3 t.es.length n3) ∧ W.cell? ⟨w.heap.size, 1, none⟩ = some (.slice A4 t.ks.length n4) ∧ W.heap[w.heap.size + 1]? = some (.cells #[.int .i64 0, .bool false, .int .i64 0, .slice none 0 0] 72 (0, 0)))) := fun W hW => by
    have g0 : W.heap[w.heap.size]? = some (.cells #[.slice A3 t.es.length n3, .slice A4 t.ks.length n4] 25 (0, 0)) := (hW.block _ (by omega)).trans ((heap_old (by simp)).trans (heap_new rfl))
    have g1 : W.heap[w.heap.size + 1]? = some (.cells #[.int .i64 0, .bool false, .int .i64 0, .slice none 0 0] 72 (0, 0)) := (hW.block _ (by omega)).trans (heap_new (by simp))
    have hB := hb0.trans (hW.mono (by omega))
    exact ⟨hB, HC.out _ hB, HD.out _ hB, cell_cells (i := 0) g0, cell_cells (i := 1) g0, g1⟩
  clear h
  go_enter Tryz.func40, Tryz.ntmps40
  go_wp2_with fail
  obtain ⟨hB, rt, rp, c0, c1, g1⟩ := HX.out _ (Below.refl _ _)
  refine (tRight_any t _ _ _ rt).mono ?_
  cases ht : t.right 5
  · rintro e w1 ⟨rfl, hb1⟩
    have HBN := hid (hb1.mono (show w.heap.size + 2 ≤ _ by simp))
    have hRI : readI t path = 1 := by unfold readI; rw [ht]; rfl
    have HRI := hid hRI
    have HRV := hid (read_err (t := t) (p := path) (by rw [hRI]; decide))
    clear hB rt rp c0 c1 g1 ht hb1 hRI
    have hGZ := (HX.out _ HBN.out).2.2.2.2.2
    have hBz := (HX.out _ HBN.out).1
    have HG := hid hGZ
    have HBZ := hid hBz
    have k0 := cell_cells (i := 0) hGZ
    have k1 := cell_cells (i := 1) hGZ
    have k2 := cell_cells (i := 2) hGZ
    have k3 := cell_cells (i := 3) hGZ
    simp only [List.getElem?_toArray, List.getElem?_cons_zero, List.getElem?_cons_succ] at k0 k1 k2 k3
    have z0 := cells_frz (i := 0) hGZ
    have z1 := cells_frz (i := 1) hGZ
    have z2 := cells_frz (i := 2) hGZ
    have z3 := cells_frz (i := 3) hGZ
    clear hGZ hBz
    go_wp2_with fail
    obtain ⟨r0, r1, r2, r3, hK, hS⟩ := box4 HG.out (.int .i64 0) (.bool false) (.int .i64 0) (.slice none 0 0)
    have hBW := below_box4 HBZ.out (show w.heap.size ≤ w.heap.size + 1 by omega) (.int .i64 0) (.bool false) (.int .i64 0) (.slice none 0 0)
    exact bodyPost_ret (v := .tuple #[.agg #[.int .i64 0, .bool false, .int .i64 0, .slice none 0 0], .int .i64 1]) (by simp [results, Tryz.results40, go_sem, r0, r1, r2, r3] <;> rfl) rfl ⟨_, by rw [HRI.out, HRV.out]; rfl, by rw [HRV.out]; exact SlA.nil, hBW⟩
  rintro e w1 ⟨rfl, hb1⟩
  have HBN := hid (hb1.mono (show w.heap.size + 2 ≤ _ by simp))
  clear hB rt rp c0 c1 g1 hb1
  obtain ⟨hB, rt, rp, c0, c1, g1⟩ := HX.out _ HBN.out
  have HT := hid ht
  clear ht
  go_wp2_with fail
  refine (checkPath_any path _ _ rp).mono ?_
  by_cases hi : pathI path = 0
  case neg =>
    rintro e w2 ⟨rfl, hb2⟩
    have HBN2 := hid (HBN.out.trans (hb2.mono (by have := HBN.out.size; simpa using this)))
    have hne : (pathI path == 0) = false := by simpa using hi
    have hRI : readI t path = pathI path := by unfold readI; rw [HT.out]; rfl
    have HRI := hid hRI
    have HRV := hid (read_err (t := t) (p := path) (by rw [hRI]; exact hi))
    clear hB rt rp c0 c1 g1 hb2 hi HBN hRI
    have HBN := HBN2
    have hGZ := (HX.out _ HBN.out).2.2.2.2.2
    have hBz := (HX.out _ HBN.out).1
    have HG := hid hGZ
    have HBZ := hid hBz
    have k0 := cell_cells (i := 0) hGZ
    have k1 := cell_cells (i := 1) hGZ
    have k2 := cell_cells (i := 2) hGZ
    have k3 := cell_cells (i := 3) hGZ
    simp only [List.getElem?_toArray, List.getElem?_cons_zero, List.getElem?_cons_succ] at k0 k1 k2 k3
    have z0 := cells_frz (i := 0) hGZ
    have z1 := cells_frz (i := 1) hGZ
    have z2 := cells_frz (i := 2) hGZ
    have z3 := cells_frz (i := 3) hGZ
    clear hGZ hBz
    go_wp2_with fail
    obtain ⟨r0, r1, r2, r3, hK, hS⟩ := box4 HG.out (.int .i64 0) (.bool false) (.int .i64 0) (.slice none 0 0)
    have hBW := below_box4 HBZ.out (show w.heap.size ≤ w.heap.size + 1 by omega) (.int .i64 0) (.bool false) (.int .i64 0) (.slice none 0 0)
    exact bodyPost_ret (v := .tuple #[.agg #[.int .i64 0, .bool false, .int .i64 0, .slice none 0 0], .int .i64 (pathI path)]) (by simp [results, Tryz.results40, go_sem, r0, r1, r2, r3] <;> rfl) rfl ⟨_, by rw [HRI.out, HRV.out]; rfl, by rw [HRV.out]; exact SlA.nil, hBW⟩
  rw [hi]
  rintro e w2 ⟨rfl, hb2⟩
  have HBN2 := hid (HBN.out.trans (hb2.mono (by have := HBN.out.size; simpa using this)))
  have HI := hid hi
  obtain ⟨hk1, hk2⟩ := path_kind hi
  have hpl := (path_ok hi).1
  clear hB rt rp c0 c1 g1 hb2 hi HBN
  have HBN := HBN2
  clear HBN2
  obtain ⟨hB, rt, rp, c0, c1, g1⟩ := HX.out _ HBN.out
  obtain ⟨u, HU⟩ : ∃ u, Hid (tgetT t path = u) := ⟨_, rfl⟩
  have HUK : Hid (getK t path = u) := (tgetT_eq HT.out path).symm.trans HU.out
  have hus : u.sz ≤ 4000 := by rw [← HUK.out]; exact Nat.le_trans (getK_szle t path) hN
  have hue := es_sz u
  go_wp2_with fail
  refine (tget_any t path _ _ _ _ rt rp (by omega)).mono ?_
  rw [HU.out]
  rintro e w3 ⟨ve3, vk3, rfl, hrd3, hb3⟩
  obtain ⟨Ar, nr, Br, mr, rfl, rfl⟩ := rda_shape hrd3
  have HBN2 := hid (HBN.out.trans (hb3.mono (by have := HBN.out.size; simpa using this)))
  have hs3 := HBN2.out.size
  simp only [World.size_alloc] at hs3
  have HR3 := hid hrd3
  obtain ⟨bq, offq, hA5, hbq, hcq⟩ := p3 (by rintro rfl; simp at hpl)
  subst hA5
  obtain ⟨cs, ⟨rfl, hkok⟩, _, hku⟩ := hcq (path.length - 1) _ (last_at hpl)
  have HY : Hid (∀ W, Below (w3.heap.size + 1) (w3.alloc (.cells #[.slice Ar u.es.length nr, .slice Br u.ks.length mr] 25)) W → (Below (w.heap.size + 2) ((w.alloc (.cells #[.slice A3 t.es.length n3, .slice A4 t.ks.length n4] 25)).alloc (.cells #[.int .i64 0, .bool false, .int .i64 0, .slice none 0 0] 72)) W ∧ u.rd W W.heap.size (.slice Ar u.es.length nr) (.slice Br u.ks.length mr) ∧ W.cell? ⟨w3.heap.size, 0, none⟩ = some (.slice Ar u.es.length nr) ∧ W.cell? ⟨w3.heap.size, 1, none⟩ = some (.slice Br u.ks.length mr) ∧ W.cell? ⟨bq, offq + (path.length - 1), none⟩ = some (.string (lastK path)))) := fun W hW => by
    have g := (hW.block w3.heap.size (by omega)).trans (heap_new rfl)
    have hB3 := ((Below.refl _ w3).alloc (Nat.le_refl _) _).trans (hW.mono (by omega))
    have hBX := HBN2.out.trans (hB3.mono (by omega))
    have hBW := (HX.out W hBX).1
    exact ⟨hBX, rda_rd HR3.out (fun b hb => hb.2) hB3, cell_cells (i := 0) g, cell_cells (i := 1) g, (hBW.cell (p := ⟨bq, offq + (path.length - 1), none⟩) hbq).trans (by simpa using hku 0 _ rfl)⟩
  clear hB rt rp c0 c1 g1 hb3 hrd3 HBN hku hcq p3
  obtain ⟨hBy, ru, y0, y1, y2⟩ := HY.out _ (Below.refl _ _)
  go_wp2_with fail
  refine (opKind_any (lastK path) _).mono ?_
  rcases (show kindB (lastK path) = 1 ∨ kindB (lastK path) = 2 ∨ kindB (lastK path) = 3 ∨ kindB (lastK path) = 4 ∨ kindB (lastK path) = 5 by omega) with hk | hk | hk | hk | hk
  · rw [hk]
    rintro e w4 ⟨rfl, hb4⟩
    have HBY := hid (hb4.mono (show w3.heap.size + 1 ≤ _ by simp))
    have hs4 := HBY.out.size
    simp only [World.size_alloc] at hs4
    have HV : Hid (∀ W, Below (w4.heap.size + 1) (w4.alloc (.cells #[.int .i64 1, .bool false, .int .i64 0, .slice none 0 0] 72)) W → (Below (w3.heap.size + 1) (w3.alloc (.cells #[.slice Ar u.es.length nr, .slice Br u.ks.length mr] 25)) W ∧ W.heap[w4.heap.size]? = some (.cells #[.int .i64 1, .bool false, .int .i64 0, .slice none 0 0] 72 (0, 0)))) := fun W hW =>
      ⟨HBY.out.trans ((((Below.refl _ w4).alloc (Nat.le_refl _) _).trans (hW.mono (by omega))).mono (by omega)), (hW.block w4.heap.size (by omega)).trans (heap_new rfl)⟩
    have HVW : Hid (readV t path = viewK 1 u ∧ readI t path = 0) := by
      have h0 : readI t path = 0 := by unfold readI; rw [HT.out, HI.out]; rfl
      exact ⟨by unfold readV; rw [if_pos h0, hk, HUK.out], h0⟩
    clear hBy ru y0 y1 y2 hb4 hk
    obtain ⟨hBv, gv⟩ := HV.out _ (Below.refl _ _)
    obtain ⟨hBy, ru, y0, y1, y2⟩ := HY.out _ hBv
    have v0 := cell_cells (i := 0) gv
    simp only [List.getElem?_toArray, List.getElem?_cons_zero] at v0
    go_wp2_with fail
    refine (fon_any u _ _ _ ru).mono ?_
    rintro e w5 ⟨rfl, hb5⟩
    have HBV := hid (hb5.mono (show w4.heap.size + 1 ≤ _ by simp))
    have hs5 := HBV.out.size
    simp only [World.size_alloc] at hs5
    clear hBv gv hBy ru y0 y1 y2 v0 hb5
    obtain ⟨hBv, gv⟩ := HV.out _ HBV.out
    obtain ⟨hBx, _, _, _, _⟩ := HY.out _ hBv
    obtain ⟨hBW, _, _, _, _, gz⟩ := HX.out _ hBx
    have HGV := hid gv
    have HGZ := hid gz
    have HBW := hid hBW
    have v0 := cell_cells (i := 0) gv
    have v1 := cell_cells (i := 1) gv
    have v2 := cell_cells (i := 2) gv
    have v3 := cell_cells (i := 3) gv
    simp only [List.getElem?_toArray, List.getElem?_cons_zero, List.getElem?_cons_succ] at v0 v1 v2 v3
    have u0 := cells_frz (i := 0) gv
    have u1 := cells_frz (i := 1) gv
    have u2 := cells_frz (i := 2) gv
    have u3 := cells_frz (i := 3) gv
    have k0 := cell_cells (i := 0) gz
    have k1 := cell_cells (i := 1) gz
    have k2 := cell_cells (i := 2) gz
    have k3 := cell_cells (i := 3) gz
    simp only [List.getElem?_toArray, List.getElem?_cons_zero, List.getElem?_cons_succ] at k0 k1 k2 k3
    have z0 := cells_frz (i := 0) gz
    have z1 := cells_frz (i := 1) gz
    have z2 := cells_frz (i := 2) gz
    have z3 := cells_frz (i := 3) gz
    have hne1 : w4.heap.size ≠ w.heap.size + 1 := by omega
    have hne2 : w.heap.size + 1 ≠ w4.heap.size := by omega
    clear hBv gv hBx hBW gz
    go_wp2_with fail
    have HG5 : (w5.setCell ⟨w4.heap.size, 1, none⟩ (.bool (onB u))).heap[w.heap.size + 1]? = some (.cells #[.int .i64 0, .bool false, .int .i64 0, .slice none 0 0] 72 (0, 0)) := (Below.heap_setCell _ _ _ _ (by simp; omega)).trans HGZ.out
    have hS5 : (w5.setCell ⟨w4.heap.size, 1, none⟩ (.bool (onB u))).heap.size = w5.heap.size := by simp [World.setCell]
    obtain ⟨r0, r1, r2, r3, hK, hS⟩ := box4 HG5 (.int .i64 1) (.bool (onB u)) (.int .i64 0) (.slice none 0 0)
    have hBB := below_box4 (HBW.out.setCell (p := ⟨w4.heap.size, 1, none⟩) (by simp; omega) (.bool (onB u))) (show w.heap.size ≤ w.heap.size + 1 by omega) (.int .i64 1) (.bool (onB u)) (.int .i64 0) (.slice none 0 0)
    exact bodyPost_ret (v := .tuple #[.agg #[.int .i64 1, .bool (onB u), .int .i64 0, .slice none 0 0], .int .i64 0]) (by simp [results, Tryz.results40, go_sem, r0, r1, r2, r3] <;> rfl) rfl ⟨_, by rw [HVW.out.1, HVW.out.2]; rfl, by rw [HVW.out.1]; exact SlA.nil, hBB⟩
  · rw [hk]
    rintro e w4 ⟨rfl, hb4⟩
    have HBY := hid (hb4.mono (show w3.heap.size + 1 ≤ _ by simp))
    have hs4 := HBY.out.size
    simp only [World.size_alloc] at hs4
    have HV : Hid (∀ W, Below (w4.heap.size + 1) (w4.alloc (.cells #[.int .i64 2, .bool false, .int .i64 0, .slice none 0 0] 72)) W → (Below (w3.heap.size + 1) (w3.alloc (.cells #[.slice Ar u.es.length nr, .slice Br u.ks.length mr] 25)) W ∧ W.heap[w4.heap.size]? = some (.cells #[.int .i64 2, .bool false, .int .i64 0, .slice none 0 0] 72 (0, 0)))) := fun W hW =>
      ⟨HBY.out.trans ((((Below.refl _ w4).alloc (Nat.le_refl _) _).trans (hW.mono (by omega))).mono (by omega)), (hW.block w4.heap.size (by omega)).trans (heap_new rfl)⟩
    have HVW : Hid (readV t path = viewK 2 u ∧ readI t path = 0) := by
      have h0 : readI t path = 0 := by unfold readI; rw [HT.out, HI.out]; rfl
      exact ⟨by unfold readV; rw [if_pos h0, hk, HUK.out], h0⟩
    clear hBy ru y0 y1 y2 hb4 hk
    obtain ⟨hBv, gv⟩ := HV.out _ (Below.refl _ _)
    obtain ⟨hBy, ru, y0, y1, y2⟩ := HY.out _ hBv
    have v0 := cell_cells (i := 0) gv
    simp only [List.getElem?_toArray, List.getElem?_cons_zero] at v0
    go_wp2_with fail
    refine (selems_any u _ _ _ ru (by omega)).mono ?_
    rintro e w5 ⟨vL, rfl, ho5, hb5⟩
    obtain ⟨Av, nv, rfl⟩ := ho5.shape
    have HSL := hid (OwnP.sla ho5 (by unfold Big; have := elemsOf_len u; omega))
    have hbs5 : w.heap.size + 2 ≤ w5.heap.size := by have := hb5.size; simp at this; omega
    simp only [World.size_alloc] at HSL
    clear ho5
    have HBV := hid (hb5.mono (show w4.heap.size + 1 ≤ _ by simp))
    have hs5 := HBV.out.size
    simp only [World.size_alloc] at hs5
    clear hBv gv hBy ru y0 y1 y2 v0 hb5
    obtain ⟨hBv, gv⟩ := HV.out _ HBV.out
    obtain ⟨hBx, _, _, _, _⟩ := HY.out _ hBv
    obtain ⟨hBW, _, _, _, _, gz⟩ := HX.out _ hBx
    have HGV := hid gv
    have HGZ := hid gz
    have HBW := hid hBW
    have v0 := cell_cells (i := 0) gv
    have v1 := cell_cells (i := 1) gv
    have v2 := cell_cells (i := 2) gv
    have v3 := cell_cells (i := 3) gv
    simp only [List.getElem?_toArray, List.getElem?_cons_zero, List.getElem?_cons_succ] at v0 v1 v2 v3
    have u0 := cells_frz (i := 0) gv
    have u1 := cells_frz (i := 1) gv
    have u2 := cells_frz (i := 2) gv
    have u3 := cells_frz (i := 3) gv
    have k0 := cell_cells (i := 0) gz
    have k1 := cell_cells (i := 1) gz
    have k2 := cell_cells (i := 2) gz
    have k3 := cell_cells (i := 3) gz
    simp only [List.getElem?_toArray, List.getElem?_cons_zero, List.getElem?_cons_succ] at k0 k1 k2 k3
    have z0 := cells_frz (i := 0) gz
    have z1 := cells_frz (i := 1) gz
    have z2 := cells_frz (i := 2) gz
    have z3 := cells_frz (i := 3) gz
    have hne1 : w4.heap.size ≠ w.heap.size + 1 := by omega
    have hne2 : w.heap.size + 1 ≠ w4.heap.size := by omega
    clear hBv gv hBx hBW gz
    go_wp2_with fail
    have HG5 : (w5.setCell ⟨w4.heap.size, 3, none⟩ (.slice Av (elemsOf u).length nv)).heap[w.heap.size + 1]? = some (.cells #[.int .i64 0, .bool false, .int .i64 0, .slice none 0 0] 72 (0, 0)) := (Below.heap_setCell _ _ _ _ (by simp; omega)).trans HGZ.out
    have hS5 : (w5.setCell ⟨w4.heap.size, 3, none⟩ (.slice Av (elemsOf u).length nv)).heap.size = w5.heap.size := by simp [World.setCell]
    obtain ⟨r0, r1, r2, r3, hK, hS⟩ := box4 HG5 (.int .i64 2) (.bool false) (.int .i64 0) (.slice Av (elemsOf u).length nv)
    have hBB := below_box4 (HBW.out.setCell (p := ⟨w4.heap.size, 3, none⟩) (by simp; omega) (.slice Av (elemsOf u).length nv)) (show w.heap.size ≤ w.heap.size + 1 by omega) (.int .i64 2) (.bool false) (.int .i64 0) (.slice Av (elemsOf u).length nv)
    exact bodyPost_ret (v := .tuple #[.agg #[.int .i64 2, .bool false, .int .i64 0, .slice Av (elemsOf u).length nv], .int .i64 0]) (by simp [results, Tryz.results40, go_sem, r0, r1, r2, r3] <;> rfl) rfl ⟨_, by rw [HVW.out.1, HVW.out.2]; rfl, by
      rw [HVW.out.1]
      exact HSL.out.up (fun b hb => (hK b (by have := hb.1; omega)).trans (Below.heap_setCell _ _ _ _ (by have := hb.1; simp; omega))) (fun b hb => ⟨by have := hb.1; omega, by rw [hS, hS5]; exact hb.2.1⟩) (fun _ _ _ h => h), hBB⟩
  · rw [hk]
    rintro e w4 ⟨rfl, hb4⟩
    have HBY := hid (hb4.mono (show w3.heap.size + 1 ≤ _ by simp))
    have hs4 := HBY.out.size
    simp only [World.size_alloc] at hs4
    have HV : Hid (∀ W, Below (w4.heap.size + 1) (w4.alloc (.cells #[.int .i64 3, .bool false, .int .i64 0, .slice none 0 0] 72)) W → (Below (w3.heap.size + 1) (w3.alloc (.cells #[.slice Ar u.es.length nr, .slice Br u.ks.length mr] 25)) W ∧ W.heap[w4.heap.size]? = some (.cells #[.int .i64 3, .bool false, .int .i64 0, .slice none 0 0] 72 (0, 0)))) := fun W hW =>
      ⟨HBY.out.trans ((((Below.refl _ w4).alloc (Nat.le_refl _) _).trans (hW.mono (by omega))).mono (by omega)), (hW.block w4.heap.size (by omega)).trans (heap_new rfl)⟩
    have HVW : Hid (readV t path = viewK 3 u ∧ readI t path = 0) := by
      have h0 : readI t path = 0 := by unfold readI; rw [HT.out, HI.out]; rfl
      exact ⟨by unfold readV; rw [if_pos h0, hk, HUK.out], h0⟩
    clear hBy ru y0 y1 y2 hb4 hk
    obtain ⟨hBv, gv⟩ := HV.out _ (Below.refl _ _)
    obtain ⟨hBy, ru, y0, y1, y2⟩ := HY.out _ hBv
    have v0 := cell_cells (i := 0) gv
    simp only [List.getElem?_toArray, List.getElem?_cons_zero] at v0
    go_wp2_with fail
    refine (cvalue_any u _ _ _ ru).mono ?_
    rintro e w5 ⟨rfl, hb5⟩
    have HBV := hid (hb5.mono (show w4.heap.size + 1 ≤ _ by simp))
    have hs5 := HBV.out.size
    simp only [World.size_alloc] at hs5
    clear hBv gv hBy ru y0 y1 y2 v0 hb5
    obtain ⟨hBv, gv⟩ := HV.out _ HBV.out
    obtain ⟨hBx, _, _, _, _⟩ := HY.out _ hBv
    obtain ⟨hBW, _, _, _, _, gz⟩ := HX.out _ hBx
    have HGV := hid gv
    have HGZ := hid gz
    have HBW := hid hBW
    have v0 := cell_cells (i := 0) gv
    have v1 := cell_cells (i := 1) gv
    have v2 := cell_cells (i := 2) gv
    have v3 := cell_cells (i := 3) gv
    simp only [List.getElem?_toArray, List.getElem?_cons_zero, List.getElem?_cons_succ] at v0 v1 v2 v3
    have u0 := cells_frz (i := 0) gv
    have u1 := cells_frz (i := 1) gv
    have u2 := cells_frz (i := 2) gv
    have u3 := cells_frz (i := 3) gv
    have k0 := cell_cells (i := 0) gz
    have k1 := cell_cells (i := 1) gz
    have k2 := cell_cells (i := 2) gz
    have k3 := cell_cells (i := 3) gz
    simp only [List.getElem?_toArray, List.getElem?_cons_zero, List.getElem?_cons_succ] at k0 k1 k2 k3
    have z0 := cells_frz (i := 0) gz
    have z1 := cells_frz (i := 1) gz
    have z2 := cells_frz (i := 2) gz
    have z3 := cells_frz (i := 3) gz
    have hne1 : w4.heap.size ≠ w.heap.size + 1 := by omega
    have hne2 : w.heap.size + 1 ≠ w4.heap.size := by omega
    clear hBv gv hBx hBW gz
    go_wp2_with fail
    have HG5 : (w5.setCell ⟨w4.heap.size, 2, none⟩ (.int .i64 (valT u))).heap[w.heap.size + 1]? = some (.cells #[.int .i64 0, .bool false, .int .i64 0, .slice none 0 0] 72 (0, 0)) := (Below.heap_setCell _ _ _ _ (by simp; omega)).trans HGZ.out
    have hS5 : (w5.setCell ⟨w4.heap.size, 2, none⟩ (.int .i64 (valT u))).heap.size = w5.heap.size := by simp [World.setCell]
    obtain ⟨r0, r1, r2, r3, hK, hS⟩ := box4 HG5 (.int .i64 3) (.bool false) (.int .i64 (valT u)) (.slice none 0 0)
    have hBB := below_box4 (HBW.out.setCell (p := ⟨w4.heap.size, 2, none⟩) (by simp; omega) (.int .i64 (valT u))) (show w.heap.size ≤ w.heap.size + 1 by omega) (.int .i64 3) (.bool false) (.int .i64 (valT u)) (.slice none 0 0)
    exact bodyPost_ret (v := .tuple #[.agg #[.int .i64 3, .bool false, .int .i64 (valT u), .slice none 0 0], .int .i64 0]) (by simp [results, Tryz.results40, go_sem, r0, r1, r2, r3] <;> rfl) rfl ⟨_, by rw [HVW.out.1, HVW.out.2]; rfl, by rw [HVW.out.1]; exact SlA.nil, hBB⟩
  · rw [hk]
    rintro e w4 ⟨rfl, hb4⟩
    have HBY := hid (hb4.mono (show w3.heap.size + 1 ≤ _ by simp))
    have hs4 := HBY.out.size
    simp only [World.size_alloc] at hs4
    have HV : Hid (∀ W, Below (w4.heap.size + 1) (w4.alloc (.cells #[.int .i64 4, .bool false, .int .i64 0, .slice none 0 0] 72)) W → (Below (w3.heap.size + 1) (w3.alloc (.cells #[.slice Ar u.es.length nr, .slice Br u.ks.length mr] 25)) W ∧ W.heap[w4.heap.size]? = some (.cells #[.int .i64 4, .bool false, .int .i64 0, .slice none 0 0] 72 (0, 0)))) := fun W hW =>
      ⟨HBY.out.trans ((((Below.refl _ w4).alloc (Nat.le_refl _) _).trans (hW.mono (by omega))).mono (by omega)), (hW.block w4.heap.size (by omega)).trans (heap_new rfl)⟩
    have HVW : Hid (readV t path = viewK 4 u ∧ readI t path = 0) := by
      have h0 : readI t path = 0 := by unfold readI; rw [HT.out, HI.out]; rfl
      exact ⟨by unfold readV; rw [if_pos h0, hk, HUK.out], h0⟩
    clear hBy ru y0 y1 y2 hb4 hk
    obtain ⟨hBv, gv⟩ := HV.out _ (Below.refl _ _)
    obtain ⟨hBy, ru, y0, y1, y2⟩ := HY.out _ hBv
    have v0 := cell_cells (i := 0) gv
    simp only [List.getElem?_toArray, List.getElem?_cons_zero] at v0
    go_wp2_with fail
    refine (rvals_any u _ _ _ ru (by omega)).mono ?_
    rintro e w5 ⟨vL, rfl, ho5, hb5⟩
    obtain ⟨Av, nv, rfl⟩ := ho5.shape
    have HSL := hid (OwnP.sla ho5 (by unfold Big; have := vals_len u; omega))
    have hbs5 : w.heap.size + 2 ≤ w5.heap.size := by have := hb5.size; simp at this; omega
    simp only [World.size_alloc] at HSL
    clear ho5
    have HBV := hid (hb5.mono (show w4.heap.size + 1 ≤ _ by simp))
    have hs5 := HBV.out.size
    simp only [World.size_alloc] at hs5
    clear hBv gv hBy ru y0 y1 y2 v0 hb5
    obtain ⟨hBv, gv⟩ := HV.out _ HBV.out
    obtain ⟨hBx, _, _, _, _⟩ := HY.out _ hBv
    obtain ⟨hBW, _, _, _, _, gz⟩ := HX.out _ hBx
    have HGV := hid gv
    have HGZ := hid gz
    have HBW := hid hBW
    have v0 := cell_cells (i := 0) gv
    have v1 := cell_cells (i := 1) gv
    have v2 := cell_cells (i := 2) gv
    have v3 := cell_cells (i := 3) gv
    simp only [List.getElem?_toArray, List.getElem?_cons_zero, List.getElem?_cons_succ] at v0 v1 v2 v3
    have u0 := cells_frz (i := 0) gv
    have u1 := cells_frz (i := 1) gv
    have u2 := cells_frz (i := 2) gv
    have u3 := cells_frz (i := 3) gv
    have k0 := cell_cells (i := 0) gz
    have k1 := cell_cells (i := 1) gz
    have k2 := cell_cells (i := 2) gz
    have k3 := cell_cells (i := 3) gz
    simp only [List.getElem?_toArray, List.getElem?_cons_zero, List.getElem?_cons_succ] at k0 k1 k2 k3
    have z0 := cells_frz (i := 0) gz
    have z1 := cells_frz (i := 1) gz
    have z2 := cells_frz (i := 2) gz
    have z3 := cells_frz (i := 3) gz
    have hne1 : w4.heap.size ≠ w.heap.size + 1 := by omega
    have hne2 : w.heap.size + 1 ≠ w4.heap.size := by omega
    clear hBv gv hBx hBW gz
    go_wp2_with fail
    have HG5 : (w5.setCell ⟨w4.heap.size, 3, none⟩ (.slice Av (valsOf u).length nv)).heap[w.heap.size + 1]? = some (.cells #[.int .i64 0, .bool false, .int .i64 0, .slice none 0 0] 72 (0, 0)) := (Below.heap_setCell _ _ _ _ (by simp; omega)).trans HGZ.out
    have hS5 : (w5.setCell ⟨w4.heap.size, 3, none⟩ (.slice Av (valsOf u).length nv)).heap.size = w5.heap.size := by simp [World.setCell]
    obtain ⟨r0, r1, r2, r3, hK, hS⟩ := box4 HG5 (.int .i64 4) (.bool false) (.int .i64 0) (.slice Av (valsOf u).length nv)
    have hBB := below_box4 (HBW.out.setCell (p := ⟨w4.heap.size, 3, none⟩) (by simp; omega) (.slice Av (valsOf u).length nv)) (show w.heap.size ≤ w.heap.size + 1 by omega) (.int .i64 4) (.bool false) (.int .i64 0) (.slice Av (valsOf u).length nv)
    exact bodyPost_ret (v := .tuple #[.agg #[.int .i64 4, .bool false, .int .i64 0, .slice Av (valsOf u).length nv], .int .i64 0]) (by simp [results, Tryz.results40, go_sem, r0, r1, r2, r3] <;> rfl) rfl ⟨_, by rw [HVW.out.1, HVW.out.2]; rfl, by
      rw [HVW.out.1]
      exact HSL.out.up (fun b hb => (hK b (by have := hb.1; omega)).trans (Below.heap_setCell _ _ _ _ (by have := hb.1; simp; omega))) (fun b hb => ⟨by have := hb.1; omega, by rw [hS, hS5]; exact hb.2.1⟩) (fun _ _ _ h => h), hBB⟩
  · rw [hk]
    rintro e w4 ⟨rfl, hb4⟩
    have HBY := hid (hb4.mono (show w3.heap.size + 1 ≤ _ by simp))
    have hs4 := HBY.out.size
    simp only [World.size_alloc] at hs4
    have HV : Hid (∀ W, Below (w4.heap.size + 1) (w4.alloc (.cells #[.int .i64 5, .bool false, .int .i64 0, .slice none 0 0] 72)) W → (Below (w3.heap.size + 1) (w3.alloc (.cells #[.slice Ar u.es.length nr, .slice Br u.ks.length mr] 25)) W ∧ W.heap[w4.heap.size]? = some (.cells #[.int .i64 5, .bool false, .int .i64 0, .slice none 0 0] 72 (0, 0)))) := fun W hW =>
      ⟨HBY.out.trans ((((Below.refl _ w4).alloc (Nat.le_refl _) _).trans (hW.mono (by omega))).mono (by omega)), (hW.block w4.heap.size (by omega)).trans (heap_new rfl)⟩
    have HVW : Hid (readV t path = viewK 5 u ∧ readI t path = 0) := by
      have h0 : readI t path = 0 := by unfold readI; rw [HT.out, HI.out]; rfl
      exact ⟨by unfold readV; rw [if_pos h0, hk, HUK.out], h0⟩
    clear hBy ru y0 y1 y2 hb4 hk
    obtain ⟨hBv, gv⟩ := HV.out _ (Below.refl _ _)
    obtain ⟨hBy, ru, y0, y1, y2⟩ := HY.out _ hBv
    have v0 := cell_cells (i := 0) gv
    simp only [List.getElem?_toArray, List.getElem?_cons_zero] at v0
    go_wp2_with fail
    refine (okeys_any u _ _ _ ru (by omega)).mono ?_
    rintro e w5 ⟨vL, rfl, ho5, hb5⟩
    obtain ⟨Av, nv, rfl⟩ := ho5.shape
    have HSL := hid (OwnP.sla ho5 (by unfold Big; have := keys_len u; omega))
    have hbs5 : w.heap.size + 2 ≤ w5.heap.size := by have := hb5.size; simp at this; omega
    simp only [World.size_alloc] at HSL
    clear ho5
    have HBV := hid (hb5.mono (show w4.heap.size + 1 ≤ _ by simp))
    have hs5 := HBV.out.size
    simp only [World.size_alloc] at hs5
    clear hBv gv hBy ru y0 y1 y2 v0 hb5
    obtain ⟨hBv, gv⟩ := HV.out _ HBV.out
    obtain ⟨hBx, _, _, _, _⟩ := HY.out _ hBv
    obtain ⟨hBW, _, _, _, _, gz⟩ := HX.out _ hBx
    have HGV := hid gv
    have HGZ := hid gz
    have HBW := hid hBW
    have v0 := cell_cells (i := 0) gv
    have v1 := cell_cells (i := 1) gv
    have v2 := cell_cells (i := 2) gv
    have v3 := cell_cells (i := 3) gv
    simp only [List.getElem?_toArray, List.getElem?_cons_zero, List.getElem?_cons_succ] at v0 v1 v2 v3
    have u0 := cells_frz (i := 0) gv
    have u1 := cells_frz (i := 1) gv
    have u2 := cells_frz (i := 2) gv
    have u3 := cells_frz (i := 3) gv
    have k0 := cell_cells (i := 0) gz
    have k1 := cell_cells (i := 1) gz
    have k2 := cell_cells (i := 2) gz
    have k3 := cell_cells (i := 3) gz
    simp only [List.getElem?_toArray, List.getElem?_cons_zero, List.getElem?_cons_succ] at k0 k1 k2 k3
    have z0 := cells_frz (i := 0) gz
    have z1 := cells_frz (i := 1) gz
    have z2 := cells_frz (i := 2) gz
    have z3 := cells_frz (i := 3) gz
    have hne1 : w4.heap.size ≠ w.heap.size + 1 := by omega
    have hne2 : w.heap.size + 1 ≠ w4.heap.size := by omega
    clear hBv gv hBx hBW gz
    go_wp2_with fail
    have HG5 : (w5.setCell ⟨w4.heap.size, 3, none⟩ (.slice Av (keysOf u).length nv)).heap[w.heap.size + 1]? = some (.cells #[.int .i64 0, .bool false, .int .i64 0, .slice none 0 0] 72 (0, 0)) := (Below.heap_setCell _ _ _ _ (by simp; omega)).trans HGZ.out
    have hS5 : (w5.setCell ⟨w4.heap.size, 3, none⟩ (.slice Av (keysOf u).length nv)).heap.size = w5.heap.size := by simp [World.setCell]
    obtain ⟨r0, r1, r2, r3, hK, hS⟩ := box4 HG5 (.int .i64 5) (.bool false) (.int .i64 0) (.slice Av (keysOf u).length nv)
    have hBB := below_box4 (HBW.out.setCell (p := ⟨w4.heap.size, 3, none⟩) (by simp; omega) (.slice Av (keysOf u).length nv)) (show w.heap.size ≤ w.heap.size + 1 by omega) (.int .i64 5) (.bool false) (.int .i64 0) (.slice Av (keysOf u).length nv)
    exact bodyPost_ret (v := .tuple #[.agg #[.int .i64 5, .bool false, .int .i64 0, .slice Av (keysOf u).length nv], .int .i64 0]) (by simp [results, Tryz.results40, go_sem, r0, r1, r2, r3] <;> rfl) rfl ⟨_, by rw [HVW.out.1, HVW.out.2]; rfl, by
      rw [HVW.out.1]
      exact HSL.out.up (fun b hb => (hK b (by have := hb.1; omega)).trans (Below.heap_setCell _ _ _ _ (by have := hb.1; simp; omega))) (fun b hb => ⟨by have := hb.1; omega, by rw [hS, hS5]; exact hb.2.1⟩) (fun _ _ _ h => h), hBB⟩
end Go.Proofs.YtlapdmgjfdelnaaGreat

namespace Go.Proofs.YtlapdmgjfdelnaaGreat
open Go.RowKit
set_option maxRecDepth 100000

/-- Are two views alike? -/
def vwEq (a b : Vw) : Bool := decide (a.kind = b.kind) && (decide (a.on = b.on) && (decide (a.n = b.n) && decide (a.l = b.l)))
end Go.Proofs.YtlapdmgjfdelnaaGreat

namespace Go.Proofs.YtlapdmgjfdelnaaGreat
open Go.RowKit
set_option maxRecDepth 100000

theorem vis_take {l : List Ev} {k : Nat} {x : Ev} (h : l[k]? = some x) (c : List Sp) : visL (l.take (k + 1)) c = visL (l.take k) c ++ (if hasC c x.d then [x] else []) := by
  unfold visL
  rw [List.take_add_one, h, List.filter_append]
  cases hh : hasC c x.d <;> simp [hh]
theorem vis_len (l : List Ev) (c : List Sp) : (visL l c).length ≤ l.length := List.length_filter_le _ _
set_option maxHeartbeats 4000000 in
theorem visible_any (l : List Ev) (c : List Sp) (vl vc : Value) (w : World) (hl : EvL w vl l) (hc : SlP w w.heap.size 3 SpE vc c) (hN : c.length ≤ 900000) (hL : l.length ≤ 1000) :
    Calls Tryz.prog 39 #[vl, vc] w (RetD w 80 7 EvA (fun b => b < w.heap.size) (visL l c)) := by
  have HC : Hid (∀ w', Below w.heap.size w w' → SlP w' w'.heap.size 3 SpE vc c) := fun w' hb => hc.imp hb hb.size fun _ _ _ h => h
  have HL0 := hid hl
  obtain ⟨A, n, rfl, b1, b2, _⟩ := hl
  unfold Big at b2
  go_enter Tryz.func39, Tryz.ntmps39
  go_wp2_with fail
  go_loopw [5, 9] (fun v i wr => ∃ k : Nat, k ≤ l.length ∧ i = .int .i64 k ∧ OwnD wr w.heap.size 80 7 EvA (fun b => b < w.heap.size ∨ w.heap.size ≤ b) v (visL (l.take k) c) ∧ Below w.heap.size w wr) (fun _ i _ => l.length - (intOf i).toNat)
  case atStart => exact ⟨0, Nat.zero_le _, rfl, OwnD.nil, Below.refl _ _⟩
  case round =>
    obtain ⟨k, hk, rfl, hown, hb⟩ := hrel
    have hsz := hb.size
    by_cases hlt : k < l.length
    · obtain ⟨x, hx⟩ : ∃ x, l[k]? = some x := ⟨_, List.getElem?_eq_getElem hlt⟩
      obtain ⟨b, off, A5, c5, A6, c6, rfl, hbB, hpx, hsx, hdx, hox, hu⟩ := EvL.at HL0.out hx
      have HU := hid hu
      obtain ⟨e0, e1, e2, e3, e4, e5, e6⟩ := hu wr hb
      have HT := hid (vis_take hx c)
      have HLN : Hid ((visL (l.take k) c).length + [x].length ≤ Few) := by have := vis_len (l.take k) c; unfold Hid Few; simp at this ⊢; omega
      have HP := hid hpx
      have HS := hid hsx
      have HDX := hid hdx
      have HOX := hid hox
      clear hu hx hpx hsx hdx hox
      go_wp2_with fail
      refine (r07has_any c x.d _ _ (HC.out _ hb) (by omega)).mono ?_
      cases hh : hasC c x.d
      · rintro e w1 ⟨rfl, hb1⟩
        have HX : Hid (visL (l.take (k + 1)) c = visL (l.take k) c) := by unfold Hid; rw [HT.out, hh]; simp
        have HO1 := hid (hown.grow EvA.mon hb1)
        have hB1 := hb.trans (hb1.mono hsz)
        clear hh e0 e1 e2 e3 e4 e5 e6 hown
        go_wp2_with fail
        go_roundw
        case rel => exact ⟨k + 1, by omega, by go_num, by rw [HX.out]; exact HO1.out, hB1⟩
        case measure => simp [intOf]; omega
      · rintro e w1 ⟨rfl, hb1⟩
        have HX : Hid (visL (l.take (k + 1)) c = visL (l.take k) c ++ [x]) := by unfold Hid; rw [HT.out, hh]; simp
        have hown1 := hown.grow EvA.mon hb1
        have hB1 := hb.trans (hb1.mono hsz)
        have hs1 := hB1.size
        clear hh e0 e1 e2 e3 e4 e5 e6 hown
        obtain ⟨e0, e1, e2, e3, e4, e5, e6⟩ := HU.out w1 hB1
        have HO : Hid (∀ o, SlP (w1.alloc (.cells [.int .i64 x.d.dc, .int .i64 x.d.n, .slice A5 x.o.path.length c5, .int .i64 x.o.act, .string x.o.s, .int .i64 x.o.n, .slice A6 x.seen.length c6].toArray o)) (w1.alloc (.cells [.int .i64 x.d.dc, .int .i64 x.d.n, .slice A5 x.o.path.length c5, .int .i64 x.o.act, .string x.o.s, .int .i64 x.o.n, .slice A6 x.seen.length c6].toArray o)).heap.size 7 (EvA (w1.alloc (.cells [.int .i64 x.d.dc, .int .i64 x.d.n, .slice A5 x.o.path.length c5, .int .i64 x.o.act, .string x.o.s, .int .i64 x.o.n, .slice A6 x.seen.length c6].toArray o)) (fun b => (b < w.heap.size ∨ w.heap.size ≤ b) ∧ b < (w1.alloc (.cells [.int .i64 x.d.dc, .int .i64 x.d.n, .slice A5 x.o.path.length c5, .int .i64 x.o.act, .string x.o.s, .int .i64 x.o.n, .slice A6 x.seen.length c6].toArray o)).heap.size ∧ u5.ownBlock ≠ some b)) (.slice (some ⟨w1.heap.size, 0, none⟩) 1 1) [x]) := fun o => by
          rw [World.size_alloc]
          have hk1 : ∀ b, b < w.heap.size → (w1.alloc (.cells [.int .i64 x.d.dc, .int .i64 x.d.n, .slice A5 x.o.path.length c5, .int .i64 x.o.act, .string x.o.s, .int .i64 x.o.n, .slice A6 x.seen.length c6].toArray o)).heap[b]? = w.heap[b]? := fun b hb' => (hB1.alloc hs1 _).block b hb'
          have hk2 : ∀ b, b < w.heap.size → (b < w.heap.size ∨ w.heap.size ≤ b) ∧ b < w1.heap.size + 1 ∧ u5.ownBlock ≠ some b := fun b hb' => ⟨.inl hb', by omega, fun e => by have := (OwnP.lt hown1 b e).1; omega⟩
          exact SlP.one (E := EvA _ _) (x := x) ⟨A5, c5, A6, c6, rfl, (SlP_iff.1 HP.out).up hk1 hk2 (fun _ _ _ h => h), (SlP_iff.1 HS.out).up hk1 hk2 (fun _ _ _ h => h), HDX.out, HOX.out⟩ rfl o rfl
        go_wp2_with (at_builtin; with_reducible refine wpList_d rfl (.tmp 19) (.tmp 24) _ rfl EvA.mon eiEv (by decide) (by decide) rfl (hown1.grow EvA.mon ((Below.refl _ _).alloc (Nat.le_refl _) _)) rfl (HO.out _) HLN.out (by rw [World.size_alloc]; omega) ?_; intro v1 w2 hown2 hb2 _ _)
        go_roundw
        case rel => exact ⟨k + 1, by omega, by go_num, by rw [HX.out]; exact hown2, (hB1.alloc hs1 _).trans hb2⟩
        case measure => simp [intOf]; omega
    · obtain rfl : k = l.length := by omega
      rw [List.take_of_length_le (Nat.le_refl _)] at hown
      go_wp2_with fail
      go_ret
      exact ⟨_, rfl, hown, hb⟩
/-- Are a change's texts short? -/
def shortB (o : Opr) : Bool := decide (o.path.length ≤ 9) && (decide (o.s.size ≤ 99) && o.path.all fun k => decide (k.size ≤ 99))
set_option maxHeartbeats 2000000 in
theorem short15_any (o : Opr) (vp : Value) (w : World) (h : SlP w w.heap.size 1 StE vp o.path) (ho : o.Ok) :
    Calls Tryz.prog 85 #[.agg #[vp, .int .i64 o.act, .string o.s, .int .i64 o.n]] w fun e w' => e = .returned (.bool (shortB o)) ∧ Below w.heap.size w w' := by
  have hos := ho.s
  obtain ⟨A, n, rfl, c1, c2, c3⟩ := h
  unfold Big at c2 hos
  obtain ⟨path, act, s, nn⟩ := o
  simp only at c1 c2 c3 hos ⊢
  have HSB : Hid (shortB ⟨path, act, s, nn⟩ = (decide (path.length ≤ 9) && (decide (s.size ≤ 99) && path.all fun k => decide (k.size ≤ 99)))) := rfl
  have hb0 : Below w.heap.size w (w.alloc (.cells #[.slice A path.length n, .int .i64 act, .string s, .int .i64 nn] 67)) := (Below.refl _ w).alloc (Nat.le_refl _) _
  go_enter Tryz.func85, Tryz.ntmps85
  by_cases h9 : 9 < path.length
  · have HR : Hid (shortB ⟨path, act, s, nn⟩ = false) := by unfold Hid; rw [HSB.out, decide_eq_false (by omega)]; rfl
    have e9 : decide ((9 : Int) < (path.length : Int)) = true := decide_eq_true (by omega)
    go_wp2_with fail
    go_ret
    exact ⟨ret_bool HR.out.symm, hb0⟩
  have e9 : decide ((9 : Int) < (path.length : Int)) = false := decide_eq_false (by omega)
  have H9 : Hid (decide (path.length ≤ 9) = true) := decide_eq_true (by omega)
  by_cases h99 : 99 < s.size
  · have HR : Hid (shortB ⟨path, act, s, nn⟩ = false) := by unfold Hid; rw [HSB.out, H9.out, decide_eq_false (show ¬ s.size ≤ 99 by omega)]; rfl
    have e99 : decide ((99 : Int) < (s.size : Int)) = true := decide_eq_true (by omega)
    go_wp2_with fail
    go_ret
    exact ⟨ret_bool HR.out.symm, hb0⟩
  have e99 : decide ((99 : Int) < (s.size : Int)) = false := decide_eq_false (by omega)
  have HS2 : Hid (shortB ⟨path, act, s, nn⟩ = path.all fun k => decide (k.size ≤ 99)) := by unfold Hid; rw [HSB.out, H9.out, decide_eq_true (show s.size ≤ 99 by omega)]; rfl
  go_wp2_with fail
  go_loop [17] (fun i => ∃ k : Nat, k ≤ path.length ∧ i = .int .i64 k ∧ Hid (((path.take k).all fun k => decide (k.size ≤ 99)) = true)) (fun i => path.length - (intOf i).toNat)
  case atStart => exact ⟨0, Nat.zero_le _, rfl, rfl⟩
  case round =>
    obtain ⟨k, hk, rfl, hrel⟩ := hrel
    by_cases hlt : k < path.length
    · obtain ⟨x, hx⟩ : ∃ x, path[k]? = some x := ⟨_, List.getElem?_eq_getElem hlt⟩
      obtain ⟨b, off, rfl, hbB, hc⟩ := c3 (by rintro rfl; simp at hlt)
      obtain ⟨cs, ⟨rfl, hok⟩, _, hu⟩ := hc k _ hx
      have e0 : (w.alloc (.cells #[.slice (some ⟨b, off, none⟩) path.length n, .int .i64 act, .string s, .int .i64 nn] 67)).cell? ⟨b, off + k, none⟩ = some (.string x) := (hb0.cell hbB).trans (by simpa using hu 0 _ rfl)
      have HM : Hid (x ∈ path) := List.mem_of_getElem? hx
      have HT : Hid (((path.take (k + 1)).all fun k => decide (k.size ≤ 99)) = decide (x.size ≤ 99)) := by
        unfold Hid; rw [List.take_add_one, hx, List.all_append, hrel.out]; simp
      unfold Big at hok
      clear hu hc c3 hx
      by_cases he : 99 < x.size
      · have hq : decide ((99 : Int) < (x.size : Int)) = true := decide_eq_true (by omega)
        have HR : Hid (shortB ⟨path, act, s, nn⟩ = false) := by
          unfold Hid; rw [HS2.out, List.all_eq_false]; exact ⟨x, HM.out, by simpa using he⟩
        go_wp2_with fail
        go_ret
        exact ⟨ret_bool HR.out.symm, hb0⟩
      · have hq : decide ((99 : Int) < (x.size : Int)) = false := decide_eq_false (by omega)
        have HE : Hid (decide (x.size ≤ 99) = true) := decide_eq_true (by omega)
        go_wp2_with fail
        go_round
        case rel => exact ⟨k + 1, by omega, by go_num, by unfold Hid; rw [HT.out]; exact HE.out⟩
        case measure => simp [intOf]; omega
    · obtain rfl : k = path.length := by omega
      have hr := hrel.out
      rw [List.take_of_length_le (Nat.le_refl _)] at hr
      have HR := hid hr
      clear hr hrel
      go_wp2_with fail
      go_ret
      exact ⟨ret_bool (by rw [HS2.out, HR.out]), hb0⟩
end Go.Proofs.YtlapdmgjfdelnaaGreat

namespace Go.Proofs.YtlapdmgjfdelnaaGreat
open Go.RowKit
set_option maxRecDepth 100000

end Go.Proofs.YtlapdmgjfdelnaaGreat

namespace Go.Proofs.YtlapdmgjfdelnaaGreat
open Go.RowKit
set_option maxRecDepth 100000

/-- The fold of the first k changes. -/
def specK (l : List Ev) (path : List ByteArray) (k : Nat) : Bool × Int × List ByteArray := (l.take k).foldl (fun s e => if takB l path e then stepS (kindB (lastK path)) path s e else s) (false, 0, [])
end Go.Proofs.YtlapdmgjfdelnaaGreat

namespace Go.Proofs.YtlapdmgjfdelnaaGreat
open Go.RowKit
set_option maxRecDepth 100000

theorem jaK_take {l : List Kn} {k : Nat} {x : Kn} (h : l[k]? = some x) (hk : jaK (l.take k) = true) : jaK (l.take (k + 1)) = caK x := by
  unfold jaK at *
  rw [List.take_add_one, h, List.all_append, hk]; simp
theorem jaK_bad {l : List Kn} {x : Kn} (h : x ∈ l) (hk : caK x = false) : jaK l = false := List.all_eq_false.2 ⟨x, h, by simp [hk]⟩
theorem jnL_take {l : List Kn} {k : Nat} {x : Kn} (h : l[k]? = some x) : jnL (l.take (k + 1)) = jn (jnL (l.take k)) x := by
  rw [List.take_add_one, h]; exact jnL_snoc _ _
theorem sum_take {α : Type} (f : α → Nat) : ∀ (l : List α) (k : Nat), ((l.take k).map f).sum ≤ (l.map f).sum
  | [], k => by simp
  | x :: l, 0 => by simp
  | x :: l, k + 1 => by have := sum_take f l k; simp only [List.take_succ_cons, List.map_cons, List.sum_cons]; omega
theorem sum_mem {α : Type} (f : α → Nat) : ∀ {l : List α} {x : α}, x ∈ l → f x ≤ (l.map f).sum
  | y :: l, x, h => by
    rcases List.mem_cons.1 h with rfl | h
    · simp
    · have := sum_mem f h; simp; omega
/-- What stands in a loop of JoinAll. -/
def JaIn (w wr : World) (x : Kn) : Prop :=
  ∃ ve vk vc, wr.heap[w.heap.size + 1]? = some (.cells #[ve, vk, vc] 29 (0, 0)) ∧ x.1.rda wr (fun b => w.heap.size + 2 ≤ b ∧ b < wr.heap.size) ve vk ∧ SlA wr (fun b => w.heap.size + 2 ≤ b ∧ b < wr.heap.size) 3 SpE vc x.2
set_option maxHeartbeats 4000000 in
theorem joinAll_any (l : List Kn) (vl : Value) (w : World) (h : SlP w w.heap.size 3 (CaE w w.heap.size) vl l) (hz1 : (l.map fun x => x.1.sz).sum ≤ 4000) (hz2 : (l.map fun x => x.2.length).sum ≤ 20000) :
    Calls Tryz.prog 46 #[vl] w (RetCE w (jaR l).1 (jaR l).2 (jaE l)) := by
  obtain ⟨A, m, rfl, c1, c2, c3⟩ := h
  unfold Big at c2
  have hb0 : Below w.heap.size w ((w.alloc (.cells #[.slice none 0 0, .slice none 0 0, .slice none 0 0] 29)).alloc (.cells #[.slice none 0 0, .slice none 0 0, .slice none 0 0] 29)) := ((Below.refl _ w).alloc (Nat.le_refl _) _).alloc (by simp) _
  have HSZ : Hid (∀ k, jaK (l.take k) = true → KOk (jnL (l.take k)) ∧ (jnL (l.take k)).1.sz ≤ 4000 ∧ (jnL (l.take k)).2.length ≤ 20000) := fun k hk => by
    have h1 := jaK_iff.1 hk
    have h2 := foldl_sz (l.take k) kn0 kn0_ok h1
    have h3 := sum_take (fun x : Kn => x.1.sz) l k
    have h4 := sum_take (fun x : Kn => x.2.length) l k
    have e1 : kn0.1.sz = 0 := rfl
    have e2 : kn0.2.length = 0 := rfl
    exact ⟨jnL_ok h1, by unfold jnL; omega, by unfold jnL; omega⟩
  have HSM : Hid (∀ x ∈ l, x.1.sz ≤ 4000 ∧ x.2.length ≤ 20000) := fun x hx => by
    have h3 := sum_mem (fun x : Kn => x.1.sz) hx
    have h4 := sum_mem (fun x : Kn => x.2.length) hx
    omega
  go_enter Tryz.func46, Tryz.ntmps46
  go_wp2_with fail
  go_loopw [11] (fun i wr => ∃ k : Nat, k ≤ l.length ∧ i = .int .i64 k ∧ Hid (jaK (l.take k) = true) ∧ JaIn w wr (jnL (l.take k)) ∧ wr.heap[w.heap.size]? = some (.cells #[.slice none 0 0, .slice none 0 0, .slice none 0 0] 29 (0, 0)) ∧ Below w.heap.size w wr) (fun i _ => l.length - (intOf i).toNat)
  case atStart =>
    refine ⟨0, Nat.zero_le _, rfl, by unfold Hid; simp [jaK], ⟨_, _, _, heap_new (by simp), rda_nil _ _, SlA.nil⟩, (heap_old (by simp)).trans (heap_new rfl), hb0⟩
  case round =>
    obtain ⟨k, hk, rfl, hall, ⟨ve, vk, vc, hG1, hrd, hsl⟩, hG0, hb⟩ := hrel
    have hsz := hb.size
    have hlt1 := lt_of_block hG1
    obtain ⟨hX, hX1, hX2⟩ := HSZ.out k hall.out
    obtain ⟨A3, n3, A4, n4, rfl, rfl⟩ := rda_shape hrd
    obtain ⟨A5, n5, rfl⟩ := hsl.shape
    have q0 := cell_cells (i := 0) hG1
    have q1 := cell_cells (i := 1) hG1
    have q2 := cell_cells (i := 2) hG1
    simp only [List.getElem?_toArray, List.getElem?_cons_zero, List.getElem?_cons_succ] at q0 q1 q2
    by_cases hlt : k < l.length
    · obtain ⟨⟨t, c⟩, hx⟩ : ∃ x, l[k]? = some x := ⟨_, List.getElem?_eq_getElem hlt⟩
      obtain ⟨b, off, rfl, hbB, hc⟩ := c3 (by rintro rfl; simp at hlt)
      obtain ⟨cs, ⟨xe, xk, xc, rfl, hrx, hsx⟩, _, hu⟩ := hc k _ hx
      simp only at hrx hsx
      obtain ⟨A6, n6, A7, n7, rfl, rfl⟩ := rd_shape hrx
      obtain ⟨A8, n8, rfl, _⟩ := id hsx
      have e0 : wr.cell? ⟨b, off + k * 3, none⟩ = some (.slice A6 t.es.length n6) := (hb.cell hbB).trans (hu 0 _ rfl)
      have e1 : wr.cell? ⟨b, off + k * 3 + 1, none⟩ = some (.slice A7 t.ks.length n7) := (hb.cell hbB).trans (hu 1 _ rfl)
      have e2 : wr.cell? ⟨b, off + k * 3 + 2, none⟩ = some (.slice A8 c.length n8) := (hb.cell hbB).trans (hu 2 _ rfl)
      have hmem := List.mem_of_getElem? hx
      obtain ⟨hs1, hs2⟩ := HSM.out _ hmem
      simp only at hs1 hs2
      have HTK := hid (jnL_take hx)
      have HJK := hid (jaK_take hx hall.out)
      have HBAD : Hid (caK (t, c) = false → jaE l = 1 ∧ jaR l = kn0) := fun h => by unfold jaE jaR; rw [jaK_bad hmem h]; exact ⟨rfl, rfl⟩
      have HXO := hid hX
      generalize hXe : jnL (l.take k) = X at *
      obtain ⟨XT, XC⟩ := X
      simp only at hX1 hX2 hrd hsl q0 q1 q2
      have hbA : Below wr.heap.size wr (wr.alloc (.cells #[.slice A6 t.es.length n6, .slice A7 t.ks.length n7, .slice A8 c.length n8] 29)) := (Below.refl _ wr).alloc (Nat.le_refl _) _
      have hbB' := hb.trans (hbA.mono hsz)
      have HRX := hid (rd_below hbB' hbB'.size _ _ _ hrx)
      have HSX : Hid (SlP (wr.alloc (.cells #[.slice A6 t.es.length n6, .slice A7 t.ks.length n7, .slice A8 c.length n8] 29)) (wr.alloc (.cells #[.slice A6 t.es.length n6, .slice A7 t.ks.length n7, .slice A8 c.length n8] 29)).heap.size 3 SpE (.slice A8 c.length n8) c) := hsx.imp hbB' hbB'.size fun _ _ _ h => h
      have HRD := hid (rda_rd hrd (fun b hb => hb.2) hbA)
      have HSL := hid (hsl.slp (fun b hb => hb.2) hbA)
      have hneb : b ≠ wr.heap.size := by omega
      have hne1 : w.heap.size + 1 ≠ wr.heap.size := by omega
      have hltb : b < wr.heap.size := by omega
      have HG0 := hid hG0
      have HG1 := hid hG1
      have HBW := hid hbB'
      clear hu hc c3 hx hmem hXe hrd hsl hrx hsx hG0 hG1 hbA hbB' hX
      have hjE : jnE XT t XC c = if caK (t, c) then 0 else 1 := by unfold jnE caK; rw [caR_iff.2 HXO.out]; rfl
      have HJE := hid hjE
      clear hjE
      go_wp2_with fail
      refine (cJoin_any XC c XT t _ _ _ _ _ _ _ HRD.out HRX.out HSL.out HSX.out hX1 hs1 hX2 hs2).mono ?_
      rw [HJE.out]
      cases hca : caK (t, c)
      · rintro e w1 ⟨ve1, vk1, vc1, rfl, hrd1, hsl1, hb1⟩
        obtain ⟨Av, nv, Aw, nw, rfl, rfl⟩ := rda_shape hrd1
        obtain ⟨Ac, nc, rfl⟩ := hsl1.shape
        obtain ⟨hE1, hE2⟩ := HBAD.out hca
        have HE1 := hid hE1
        have HE2 := hid hE2
        simp only [World.size_alloc] at hb1
        have hsz1 := hb1.size
        simp only [World.size_alloc] at hsz1
        have hG0' : w1.heap[w.heap.size]? = some (.cells #[.slice none 0 0, .slice none 0 0, .slice none 0 0] 29 (0, 0)) := (hb1.block _ (by omega)).trans ((heap_old (by omega)).trans HG0.out)
        have HG := hid hG0'
        have HBW2 := hid (HBW.out.trans (hb1.mono (by omega)))
        have k0 := cell_cells (i := 0) hG0'
        have k1 := cell_cells (i := 1) hG0'
        have k2 := cell_cells (i := 2) hG0'
        simp only [List.getElem?_toArray, List.getElem?_cons_zero, List.getElem?_cons_succ] at k0 k1 k2
        have z0 := cells_frz (i := 0) hG0'
        have z1 := cells_frz (i := 1) hG0'
        have z2 := cells_frz (i := 2) hG0'
        have hl0 : w.heap.size < w1.heap.size := by omega
        have hl0' : w.heap.size ≠ w1.heap.size := by omega
        clear hE1 hE2 hrd1 hsl1 hb1 hG0' hca
        go_wp2_with fail
        obtain ⟨r0, r1, r2, _⟩ := box3a HG.out (.slice none 0 0) (.slice none 0 0) (.slice none 0 0) (.cells #[.slice Av (jnT XT t XC c).es.length nv, .slice Aw (jnT XT t XC c).ks.length nw, .slice Ac (jnC XT t XC c).length nc] 29)
        have hBW := below_box3 HBW2.out (Nat.le_refl _) (by omega) (.slice none 0 0) (.slice none 0 0) (.slice none 0 0) (.cells #[.slice Av (jnT XT t XC c).es.length nv, .slice Aw (jnT XT t XC c).ks.length nw, .slice Ac (jnC XT t XC c).length nc] 29)
        refine bodyPost_ret (v := .tuple #[.agg #[.slice none 0 0, .slice none 0 0, .slice none 0 0], .int .i64 1]) (by simp [results, Tryz.results46, go_sem, r0, r1, r2]) rfl ⟨_, _, _, by rw [HE1.out], ?_, ?_, hBW⟩
        · rw [HE2.out]; exact rda_nil _ _
        · rw [HE2.out]; exact SlA.nil
      · have HCA := hid hca
        have hjj := jn_ok HXO.out (caK_iff.1 hca)
        simp only at hjj
        rw [hjj.2.1, hjj.2.2]
        rintro e w1 ⟨ve1, vk1, vc1, rfl, hrd1, hsl1, hb1⟩
        clear hjj hca
        have HTK' : Hid (jnL (l.take (k + 1)) = (jT XT t XC c, jC XC c)) := HTK.out
        have HJK' : Hid (jaK (l.take (k + 1)) = true) := HJK.out.trans HCA.out
        clear HTK HJK
        generalize jT XT t XC c = YT at *
        generalize jC XC c = YC at *
        obtain ⟨Av, nv, Aw, nw, rfl, rfl⟩ := rda_shape hrd1
        obtain ⟨Ac, nc, rfl⟩ := hsl1.shape
        simp only [World.size_alloc] at hb1 hrd1 hsl1
        have hsz1 := hb1.size
        simp only [World.size_alloc] at hsz1
        have hG1' : w1.heap[w.heap.size + 1]? = some (.cells #[.slice A3 XT.es.length n3, .slice A4 XT.ks.length n4, .slice A5 XC.length n5] 29 (0, 0)) := (hb1.block _ (by omega)).trans ((heap_old (by omega)).trans HG1.out)
        have hG0' : w1.heap[w.heap.size]? = some (.cells #[.slice none 0 0, .slice none 0 0, .slice none 0 0] 29 (0, 0)) := (hb1.block _ (by omega)).trans ((heap_old (by omega)).trans HG0.out)
        have HGX := hid hG1'
        have HGZ := hid hG0'
        have HBW2 := hid (HBW.out.trans (hb1.mono (by omega)))
        have HR1 := hid hrd1
        have HS1 := hid hsl1
        have k0 := cell_cells (i := 0) hG1'
        have k1 := cell_cells (i := 1) hG1'
        have k2 := cell_cells (i := 2) hG1'
        simp only [List.getElem?_toArray, List.getElem?_cons_zero, List.getElem?_cons_succ] at k0 k1 k2
        have z0 := cells_frz (i := 0) hG1'
        have z1 := cells_frz (i := 1) hG1'
        have z2 := cells_frz (i := 2) hG1'
        have hl0 : w.heap.size + 1 < w1.heap.size := by omega
        have hl0' : w.heap.size + 1 ≠ w1.heap.size := by omega
        have hl1' : w1.heap.size ≠ w.heap.size + 1 := by omega
        clear hrd1 hsl1 hb1 hG1' hG0' q0 q1 q2
        go_wp2_with fail
        obtain ⟨r0, r1, r2, hK, hS, hWW⟩ := box3a HGX.out (.slice Av YT.es.length nv) (.slice Aw YT.ks.length nw) (.slice Ac YC.length nc) (.cells #[.slice Av YT.es.length nv, .slice Aw YT.ks.length nw, .slice Ac YC.length nc] 29)
        go_roundw
        case rel =>
          refine ⟨k + 1, by omega, by go_num, HJK', ⟨.slice Av YT.es.length nv, .slice Aw YT.ks.length nw, .slice Ac YC.length nc, hWW, ?_, ?_⟩, (hK _ (by omega) (by omega)).trans HGZ.out, below_box3 HBW2.out (by omega) (by omega) _ _ _ _⟩
          · rw [HTK'.out]
            exact rda_up (fun b hb => hK b (by omega) hb.2) (fun b hb => ⟨by omega, by rw [hS]; omega⟩) _ _ _ HR1.out
          · rw [HTK'.out]
            exact HS1.out.up (fun b hb => hK b (by omega) hb.2) (fun b hb => ⟨by omega, by rw [hS]; omega⟩) (fun _ _ _ h => h)
        case measure => simp [intOf]; omega
    · obtain rfl : k = l.length := by omega
      rw [List.take_of_length_le (Nat.le_refl _)] at hrd hsl hall
      have HE : Hid (jaE l = 0) := by unfold Hid jaE; rw [hall.out]; rfl
      have HR : Hid (jaR l = jnL l) := by unfold Hid jaR; rw [hall.out]; rfl
      rw [List.take_of_length_le (Nat.le_refl _)] at q0 q1 q2 hG1
      have HRD := hid hrd
      have HSL := hid hsl
      have HG0 := hid hG0
      have HBW := hid hb
      have k0 := cell_cells (i := 0) hG0
      have k1 := cell_cells (i := 1) hG0
      have k2 := cell_cells (i := 2) hG0
      simp only [List.getElem?_toArray, List.getElem?_cons_zero, List.getElem?_cons_succ] at k0 k1 k2
      have z0 := cells_frz (i := 0) hG0
      have z1 := cells_frz (i := 1) hG0
      have z2 := cells_frz (i := 2) hG0
      generalize jnL l = X at *
      obtain ⟨XT, XC⟩ := X
      simp only at HRD HSL q0 q1 q2
      clear hrd hsl hG0 hG1 hX hX1 hX2
      go_wp2_with fail
      obtain ⟨r0, r1, r2, hK, hS⟩ := box3 HG0.out (.slice A3 XT.es.length n3) (.slice A4 XT.ks.length n4) (.slice A5 XC.length n5)
      have hBW := ((HBW.out.setCell (p := ⟨w.heap.size, 0, none⟩) (by simp) (.slice A3 XT.es.length n3)).setCell (p := ⟨w.heap.size, 1, none⟩) (by simp) (.slice A4 XT.ks.length n4)).setCell (p := ⟨w.heap.size, 2, none⟩) (by simp) (.slice A5 XC.length n5)
      refine bodyPost_ret (v := .tuple #[.agg #[.slice A3 XT.es.length n3, .slice A4 XT.ks.length n4, .slice A5 XC.length n5], .int .i64 0]) (by simp [results, Tryz.results46, go_sem, r0, r1, r2]) rfl ⟨_, _, _, by rw [HE.out], ?_, ?_, hBW⟩
      · rw [HR.out]
        exact rda_up (fun b hb => hK b (by omega)) (fun b hb => ⟨by omega, by rw [hS]; omega⟩) _ _ _ HRD.out
      · rw [HR.out]
        exact HSL.out.up (fun b hb => hK b (by omega)) (fun b hb => ⟨by omega, by rw [hS]; omega⟩) (fun _ _ _ h => h)
end Go.Proofs.YtlapdmgjfdelnaaGreat
