/- What the laws need, part 1: counter.Inc, counter.Value. No condition but that there are not too many entries. tributaryref10.Sum. No condition. counter.Value. No condition. tributarylaw12.awake answers true. No condition. tributarylaw12.small. No condition. The law CounterTurns answers true. No condition. -/
import Derived.Test.YtkjijbogbelilaaGreatTc1
namespace Go.Proofs.YtkjijbogbelilaaGreat
open Go.RowKit
set_option maxRecDepth 100000

/-- counter.Inc's error. -/
def incE (t : Tr) (n : Int) (d : Dt) : Int := if chkT t d = false ∨ n < -1099511627776 ∨ 1099511627776 < n then 1 else if 24 ≤ t.es.length then 4 else 0
def incT (t : Tr) (n : Int) (d : Dt) : Tr := if incE t n d = 0 then .mk [⟨d.dc, d.n, ByteArray.empty, n⟩] [] else .mk [] []
def incC (t : Tr) (n : Int) (d : Dt) : List Sp := if incE t n d = 0 then ctxOf [d] else []
set_option maxHeartbeats 4000000 in
theorem cinc_any (t : Tr) (n : Int) (d : Dt) (ve vk : Value) (w : World) (h : t.rd w w.heap.size ve vk) (hN : t.sz ≤ 90000) (hn : I64 n) (hd : d.Ok) :
    Calls Tryz.prog 52 #[.agg #[ve, vk], .int .i64 n, .agg #[.int .i64 d.dc, .int .i64 d.n]] w (RetCE w (incT t n d) (incC t n d) (incE t n d)) := by
  have HC : Hid (∀ w', Below w.heap.size w w' → t.rd w' w'.heap.size ve vk) := fun w' hb => rd_below hb hb.size _ _ _ h
  have hfit := fit_rd _ _ _ h
  have hel : t.es.length ≤ 140737488355328 := by obtain ⟨es, ks⟩ := t; exact hfit.1
  obtain ⟨A3, n3, A4, n4, rfl, rfl⟩ := rd_shape h
  have hb0 := (((Below.refl w.heap.size w).alloc (Nat.le_refl _) (.cells #[.slice A3 t.es.length n3, .slice A4 t.ks.length n4] 25)).alloc (by simp) (.cells #[.int .i64 d.dc, .int .i64 d.n] 42)).alloc (by simp; omega) (.cells #[.slice none 0 0, .slice none 0 0, .slice none 0 0] 29)
  clear h hfit
  go_enter Tryz.func52, Tryz.ntmps52
  go_wp2_with fail
  refine (fcheck_any t d _ _ _ (HC.out _ hb0) hN).mono ?_
  rintro e w1 ⟨rfl, hb1⟩
  have hs1 := hb1.size
  simp only [World.size_alloc] at hs1
  have hB1 : Below w.heap.size w w1 := hb0.trans (hb1.mono (by simp; omega))
  have c0 : w1.cell? ⟨w.heap.size, 0, none⟩ = some (.slice A3 t.es.length n3) := by
    rw [hb1.cell (p := ⟨w.heap.size, 0, none⟩) (by simp; omega)]
    rw [World.cell?_alloc_lt _ _ _ (by simp; omega), World.cell?_alloc_lt _ _ _ (by simp)]; simp
  have d0 : w1.cell? ⟨w.heap.size + 1, 0, none⟩ = some (.int .i64 d.dc) := by rw [hb1.cell (p := ⟨w.heap.size + 1, 0, none⟩) (by simp), World.cell?_alloc_lt _ _ _ (by simp)]; simp
  have d1 : w1.cell? ⟨w.heap.size + 1, 1, none⟩ = some (.int .i64 d.n) := by rw [hb1.cell (p := ⟨w.heap.size + 1, 1, none⟩) (by simp), World.cell?_alloc_lt _ _ _ (by simp)]; simp
  have hg : w1.heap[w.heap.size + 2]? = some (.cells #[.slice none 0 0, .slice none 0 0, .slice none 0 0] 29 (0, 0)) := (hb1.block (w.heap.size + 2) (by simp)).trans (heap_new (by simp))
  have HG := hid hg
  have k0 : w1.cell? ⟨w.heap.size + 2, 0, none⟩ = some (.slice none 0 0) := cell_cells (i := 0) hg
  have k1 : w1.cell? ⟨w.heap.size + 2, 1, none⟩ = some (.slice none 0 0) := cell_cells (i := 1) hg
  have k2 : w1.cell? ⟨w.heap.size + 2, 2, none⟩ = some (.slice none 0 0) := cell_cells (i := 2) hg
  have z0 := cells_frz (i := 0) hg
  have z1 := cells_frz (i := 1) hg
  have z2 := cells_frz (i := 2) hg
  clear hg hb1
  cases hc : chkT t d
  · have HE : Hid (incE t n d = 1) := by unfold Hid incE; rw [if_pos (.inl hc)]
    rw [show chkI t d = 1 by unfold chkI; rw [hc]; rfl]
    clear hc
    go_wp2_with fail
    obtain ⟨r0, r1, r2, hK, hS⟩ := box3 HG.out (.slice none 0 0) (.slice none 0 0) (.slice none 0 0)
    have hBW := ((hB1.setCell (p := ⟨w.heap.size + 2, 0, none⟩) (by simp) (.slice none 0 0)).setCell (p := ⟨w.heap.size + 2, 1, none⟩) (by simp) (.slice none 0 0)).setCell (p := ⟨w.heap.size + 2, 2, none⟩) (by simp) (.slice none 0 0)
    refine bodyPost_ret (v := .tuple #[.agg #[.slice none 0 0, .slice none 0 0, .slice none 0 0], .int .i64 1]) (by simp [results, Tryz.results52, go_sem, r0, r1, r2]) rfl ⟨_, _, _, by rw [HE.out], by rw [incT, HE.out]; exact rda_nil _ _, by rw [incC, HE.out]; exact SlA.nil, hBW⟩
  rw [show chkI t d = 0 by unfold chkI; rw [hc]; rfl]
  by_cases h1 : n < -1099511627776
  · have HE : Hid (incE t n d = 1) := by unfold Hid incE; rw [if_pos (.inr (.inl h1))]
    clear hc
    go_wp2_with fail
    obtain ⟨r0, r1, r2, hK, hS⟩ := box3 HG.out (.slice none 0 0) (.slice none 0 0) (.slice none 0 0)
    have hBW := ((hB1.setCell (p := ⟨w.heap.size + 2, 0, none⟩) (by simp) (.slice none 0 0)).setCell (p := ⟨w.heap.size + 2, 1, none⟩) (by simp) (.slice none 0 0)).setCell (p := ⟨w.heap.size + 2, 2, none⟩) (by simp) (.slice none 0 0)
    refine bodyPost_ret (v := .tuple #[.agg #[.slice none 0 0, .slice none 0 0, .slice none 0 0], .int .i64 1]) (by simp [results, Tryz.results52, go_sem, r0, r1, r2]) rfl ⟨_, _, _, by rw [HE.out], by rw [incT, HE.out]; exact rda_nil _ _, by rw [incC, HE.out]; exact SlA.nil, hBW⟩
  by_cases h2 : 1099511627776 < n
  · have HE : Hid (incE t n d = 1) := by unfold Hid incE; rw [if_pos (.inr (.inr h2))]
    clear hc
    go_wp2_with fail
    obtain ⟨r0, r1, r2, hK, hS⟩ := box3 HG.out (.slice none 0 0) (.slice none 0 0) (.slice none 0 0)
    have hBW := ((hB1.setCell (p := ⟨w.heap.size + 2, 0, none⟩) (by simp) (.slice none 0 0)).setCell (p := ⟨w.heap.size + 2, 1, none⟩) (by simp) (.slice none 0 0)).setCell (p := ⟨w.heap.size + 2, 2, none⟩) (by simp) (.slice none 0 0)
    refine bodyPost_ret (v := .tuple #[.agg #[.slice none 0 0, .slice none 0 0, .slice none 0 0], .int .i64 1]) (by simp [results, Tryz.results52, go_sem, r0, r1, r2]) rfl ⟨_, _, _, by rw [HE.out], by rw [incT, HE.out]; exact rda_nil _ _, by rw [incC, HE.out]; exact SlA.nil, hBW⟩
  have hno : ¬ (chkT t d = false ∨ n < -1099511627776 ∨ 1099511627776 < n) := by rw [hc]; simp; omega
  by_cases h3 : 24 ≤ t.es.length
  · have HE : Hid (incE t n d = 4) := by unfold Hid incE; rw [if_neg hno, if_pos h3]
    clear hc hno
    have h3' : decide (24 ≤ t.es.length) = true := by simpa using h3
    go_wp2_with fail
    obtain ⟨r0, r1, r2, hK, hS⟩ := box3 HG.out (.slice none 0 0) (.slice none 0 0) (.slice none 0 0)
    have hBW := ((hB1.setCell (p := ⟨w.heap.size + 2, 0, none⟩) (by simp) (.slice none 0 0)).setCell (p := ⟨w.heap.size + 2, 1, none⟩) (by simp) (.slice none 0 0)).setCell (p := ⟨w.heap.size + 2, 2, none⟩) (by simp) (.slice none 0 0)
    refine bodyPost_ret (v := .tuple #[.agg #[.slice none 0 0, .slice none 0 0, .slice none 0 0], .int .i64 4]) (by simp [results, Tryz.results52, go_sem, r0, r1, r2]) rfl ⟨_, _, _, by rw [HE.out], by rw [incT, HE.out]; exact rda_nil _ _, by rw [incC, HE.out]; exact SlA.nil, hBW⟩
  · have HE : Hid (incE t n d = 0) := by unfold Hid incE; rw [if_neg hno, if_neg h3]
    have HDR := hid (chkT_right hc)
    clear hc hno
    have h3' : decide (24 ≤ t.es.length) = false := by simpa using h3
    go_wp2_with fail
    refine (cof_any [d] _ _ (SlP.oneB (E := DtE) (x := d) (cs := [.int .i64 d.dc, .int .i64 d.n]) ⟨rfl, hd⟩ rfl _ rfl (by simp)) (fun x hx => by simp at hx; subst hx; exact HDR.out) (by simp)).mono ?_
    rintro e w2 ⟨v2, rfl, ho2, hb2⟩
    obtain ⟨A2, c2, rfl⟩ := ho2.shape
    have hs2 := hb2.size
    simp only [World.size_alloc] at hs2
    have hb2' : Below w1.heap.size w1 w2 := ((Below.refl _ w1).alloc (Nat.le_refl _) _).trans (hb2.mono (by simp))
    have hB2 : Below w.heap.size w w2 := hB1.trans (hb2'.mono (by omega))
    have HG2 := hid ((hb2'.block (w.heap.size + 2) (by omega)).trans HG.out)
    have e0 : w2.cell? ⟨w.heap.size + 1, 0, none⟩ = some (.int .i64 d.dc) := (hb2'.cell (p := ⟨w.heap.size + 1, 0, none⟩) (by show w.heap.size + 1 < _; omega)).trans d0
    have e1 : w2.cell? ⟨w.heap.size + 1, 1, none⟩ = some (.int .i64 d.n) := (hb2'.cell (p := ⟨w.heap.size + 1, 1, none⟩) (by show w.heap.size + 1 < _; omega)).trans d1
    clear k0 k1 k2 z0 z1 z2 c0 d0 d1
    have k0 : w2.cell? ⟨w.heap.size + 2, 0, none⟩ = some (.slice none 0 0) := cell_cells (i := 0) HG2.out
    have k1 : w2.cell? ⟨w.heap.size + 2, 1, none⟩ = some (.slice none 0 0) := cell_cells (i := 1) HG2.out
    have k2 : w2.cell? ⟨w.heap.size + 2, 2, none⟩ = some (.slice none 0 0) := cell_cells (i := 2) HG2.out
    have z0 := cells_frz (i := 0) HG2.out
    have z1 := cells_frz (i := 1) HG2.out
    have z2 := cells_frz (i := 2) HG2.out
    have hlt2 : w.heap.size + 2 < w2.heap.size := by omega
    have hne2 : w.heap.size + 2 ≠ w2.heap.size := by omega
    have HO2 := hid ho2
    clear ho2
    go_wp2_with fail
    obtain ⟨r0, r1, r2, hK, hS⟩ := box3 HG2.out (.slice (some ⟨w2.heap.size, 0, none⟩) 1 1) (.slice none 0 0) (.slice A2 (ctxOf [d]).length c2)
    have hBW : Below w.heap.size w (((w2.setCell ⟨w.heap.size + 2, 0, none⟩ (.slice (some ⟨w2.heap.size, 0, none⟩) 1 1)).setCell ⟨w.heap.size + 2, 1, none⟩ (.slice none 0 0)).setCell ⟨w.heap.size + 2, 2, none⟩ (.slice A2 (ctxOf [d]).length c2)) := ((hB2.setCell (by simp) _).setCell (by simp) _).setCell (by simp) _
    clear k0 k1 k2 z0 z1 z2 e0 e1
    generalize (((w2.setCell ⟨w.heap.size + 2, 0, none⟩ (.slice (some ⟨w2.heap.size, 0, none⟩) 1 1)).setCell ⟨w.heap.size + 2, 1, none⟩ (.slice none 0 0)).setCell ⟨w.heap.size + 2, 2, none⟩ (.slice A2 (ctxOf [d]).length c2)) = W at *
    have q0 : (W.alloc (.cells #[.int .i64 d.dc, .int .i64 d.n, .string ⟨#[]⟩, .int .i64 n] 63)).cell? ⟨w.heap.size + 1 + 1, 0, none⟩ = some (.slice (some ⟨w2.heap.size, 0, none⟩) 1 1) := by rw [World.cell?_alloc_lt _ _ _ (by show w.heap.size + 2 < _; omega)]; exact r0
    have q1 : (W.alloc (.cells #[.int .i64 d.dc, .int .i64 d.n, .string ⟨#[]⟩, .int .i64 n] 63)).cell? ⟨w.heap.size + 1 + 1, 1, none⟩ = some (.slice none 0 0) := by rw [World.cell?_alloc_lt _ _ _ (by show w.heap.size + 2 < _; omega)]; exact r1
    have q2 : (W.alloc (.cells #[.int .i64 d.dc, .int .i64 d.n, .string ⟨#[]⟩, .int .i64 n] 63)).cell? ⟨w.heap.size + 1 + 1, 2, none⟩ = some (.slice A2 (ctxOf [d]).length c2) := by rw [World.cell?_alloc_lt _ _ _ (by show w.heap.size + 2 < _; omega)]; exact r2
    refine bodyPost_ret (v := .tuple #[.agg #[.slice (some ⟨w2.heap.size, 0, none⟩) 1 1, .slice none 0 0, .slice A2 (ctxOf [d]).length c2], .int .i64 0]) (by simp [results, Tryz.results52, go_sem, q0, q1, q2]) rfl ⟨_, _, _, by rw [HE.out], ?_, ?_, hBW.alloc (by omega) _⟩
    · rw [incT, HE.out, if_pos rfl, rda_iff]
      refine ⟨?_, SlA.nil⟩
      exact SlA.one (x := (⟨d.dc, d.n, ByteArray.empty, n⟩ : En)) (cs := [.int .i64 d.dc, .int .i64 d.n, .string ByteArray.empty, .int .i64 n]) (e := 63) (z := (0, 0)) ⟨rfl, En.Ok.mk' hd hn⟩ rfl (heap_new hS.symm) ⟨by omega, by rw [World.size_alloc]; omega⟩
    · rw [incC, HE.out, if_pos rfl]
      refine (HO2.out.sla (by have := ctxOfK_len [d] 4; unfold ctxOf Big; simp at this; omega)).up (fun b hb => (heap_old (by have := hb.2.1; omega)).trans (hK b (by have := hb.1; simp only [World.size_alloc] at this; omega))) (fun b hb => ⟨by have := hb.1; simp only [World.size_alloc] at this; omega, by rw [World.size_alloc]; have := hb.2.1; omega⟩) (fun _ _ _ h => h)
end Go.Proofs.YtkjijbogbelilaaGreat

namespace Go.Proofs.YtkjijbogbelilaaGreat
open Go.RowKit
set_option maxRecDepth 100000

def sumE (es : List En) : Int := es.foldl (fun s e => wrap64 (s + e.v)) 0
theorem sumE_take {es : List En} {k : Nat} {x : En} (h : es[k]? = some x) : sumE (es.take (k + 1)) = wrap64 (sumE (es.take k) + x.v) := by
  unfold sumE; rw [List.take_add_one, h, List.foldl_append]; rfl
set_option maxHeartbeats 4000000 in
theorem r10sum_any (t : Tr) (w : World) (ve vk : Value) (h : t.rd w w.heap.size ve vk) :
    Calls Tryz.prog 54 #[.agg #[ve, vk]] w fun e w' => e = .returned (.int .i64 (sumE t.es)) ∧ Below w.heap.size w w' := by
  obtain ⟨es, ks⟩ := t
  rw [rd_iff] at h
  obtain ⟨⟨A0, n0, rfl, d1, d2, d3⟩, ⟨A, m, rfl, c1, c2, c3⟩⟩ := h
  unfold Big at c2 d2
  have hb0 : Below w.heap.size w (w.alloc (.cells #[.slice A0 es.length n0, .slice A ks.length m] 25)) := (Below.refl _ w).alloc (Nat.le_refl _) _
  go_enter Tryz.func54, Tryz.ntmps54
  go_wp2_with fail
  go_loopw [3, 8] (fun s i wr => ∃ k : Nat, k ≤ es.length ∧ i = .int .i64 k ∧ s = .int .i64 (sumE (es.take k)) ∧ wr = w.alloc (.cells #[.slice A0 es.length n0, .slice A ks.length m] 25)) (fun _ i _ => es.length - (intOf i).toNat)
  case atStart => exact ⟨0, Nat.zero_le _, rfl, rfl, rfl⟩
  case round =>
    obtain ⟨k, hk, rfl, rfl, rfl⟩ := hrel
    by_cases hlt : k < es.length
    · obtain ⟨x, hx⟩ : ∃ x, es[k]? = some x := ⟨_, List.getElem?_eq_getElem hlt⟩
      obtain ⟨b, off, rfl, hbB, hc⟩ := d3 (by rintro rfl; simp at hlt)
      obtain ⟨cs, ⟨rfl, hok⟩, _, hu⟩ := hc k _ hx
      have e3 : (w.alloc (.cells #[.slice (some ⟨b, off, none⟩) es.length n0, .slice A ks.length m] 25)).cell? ⟨b, off + k * 4 + 3, none⟩ = some (.int .i64 x.v) := (hb0.cell hbB).trans (hu 3 _ rfl)
      have HX : Hid (sumE (es.take (k + 1)) = wrap64 (sumE (es.take k) + x.v)) := sumE_take hx
      generalize sumE (es.take k) = s at *
      clear hu hc d3 hx hb0
      go_wp2_with fail
      go_roundw
      case rel => exact ⟨k + 1, by omega, by go_num, by rw [HX.out] <;> rfl, trivial⟩
      case measure => simp [intOf]; omega
    · obtain rfl : k = es.length := by omega
      rw [List.take_of_length_le (Nat.le_refl _)]
      go_wp2_with fail
      go_ret
      exact ⟨rfl, hb0⟩
end Go.Proofs.YtkjijbogbelilaaGreat

namespace Go.Proofs.YtkjijbogbelilaaGreat
open Go.RowKit
set_option maxRecDepth 100000

/-- A counter's value. -/
def valT (t : Tr) : Int := if t.right 5 then sumE t.es else 0
set_option maxHeartbeats 4000000 in
theorem cvalue_any (t : Tr) (w : World) (ve vk : Value) (h : t.rd w w.heap.size ve vk) :
    Calls Tryz.prog 53 #[.agg #[ve, vk]] w fun e w' => e = .returned (.int .i64 (valT t)) ∧ Below w.heap.size w w' := by
  have HC : Hid (∀ w', Below w.heap.size w w' → t.rd w' w'.heap.size ve vk) := fun w' hb => rd_below hb hb.size _ _ _ h
  obtain ⟨es, ks⟩ := t
  rw [rd_iff] at h
  obtain ⟨⟨A0, n0, rfl, d1, d2, d3⟩, ⟨A, m, rfl, _, _, _⟩⟩ := h
  unfold Big at d2
  have hb0 : Below w.heap.size w (w.alloc (.cells #[.slice A0 es.length n0, .slice A ks.length m] 25)) := (Below.refl _ w).alloc (Nat.le_refl _) _
  go_enter Tryz.func53, Tryz.ntmps53
  go_wp2_with fail
  refine (tRight_any (.mk es ks) _ _ _ (HC.out _ hb0)).mono ?_
  rintro e w1 ⟨rfl, hb1⟩
  have hs1 := hb1.size
  simp only [World.size_alloc] at hs1
  have hB1 : Below w.heap.size w w1 := hb0.trans (hb1.mono (by simp))
  have c0 : w1.cell? ⟨w.heap.size, 0, none⟩ = some (.slice A0 es.length n0) := by rw [hb1.cell (p := ⟨w.heap.size, 0, none⟩) (by simp)]; simp
  cases hr : Tr.right (.mk es ks) 5
  · have HR : Hid (valT (.mk es ks) = 0) := by unfold Hid valT; rw [hr]; rfl
    clear hr hb1 hb0 d3
    go_wp2_with fail
    go_ret
    exact ⟨ret_int HR.out.symm, hB1⟩
  · have HR : Hid (valT (.mk es ks) = sumE es) := by unfold Hid valT; rw [hr]; rfl
    clear hr hb1 hb0
    go_wp2_with fail
    go_loopw [3, 11] (fun s i wr => ∃ k : Nat, k ≤ es.length ∧ i = .int .i64 k ∧ s = .int .i64 (sumE (es.take k)) ∧ Below w.heap.size w wr) (fun _ i _ => es.length - (intOf i).toNat)
    case atStart => exact ⟨0, Nat.zero_le _, rfl, rfl, hB1⟩
    case round =>
      obtain ⟨k, hk, rfl, rfl, hb⟩ := hrel
      have hsz := hb.size
      by_cases hlt : k < es.length
      · obtain ⟨x, hx⟩ : ∃ x, es[k]? = some x := ⟨_, List.getElem?_eq_getElem hlt⟩
        obtain ⟨b, off, rfl, hbB, hc⟩ := d3 (by rintro rfl; simp at hlt)
        obtain ⟨cs, ⟨rfl, hok⟩, _, hu⟩ := hc k _ hx
        have e0 : wr.cell? ⟨b, off + k * 4, none⟩ = some (.int .i64 x.dc) := (hb.cell hbB).trans (hu 0 _ rfl)
        have e1 : wr.cell? ⟨b, off + k * 4 + 1, none⟩ = some (.int .i64 x.n) := (hb.cell hbB).trans (hu 1 _ rfl)
        have e2 : wr.cell? ⟨b, off + k * 4 + 2, none⟩ = some (.string x.s) := (hb.cell hbB).trans (hu 2 _ rfl)
        have e3 : wr.cell? ⟨b, off + k * 4 + 3, none⟩ = some (.int .i64 x.v) := (hb.cell hbB).trans (hu 3 _ rfl)
        have HX : Hid (sumE (es.take (k + 1)) = wrap64 (sumE (es.take k) + x.v)) := sumE_take hx
        generalize sumE (es.take k) = s at *
        clear hu hc d3 hx hok
        go_wp2_with fail
        go_roundw
        case rel => exact ⟨k + 1, by omega, by go_num, by rw [HX.out] <;> rfl, hb.alloc hsz _⟩
        case measure => simp [intOf]; omega
      · obtain rfl : k = es.length := by omega
        rw [List.take_of_length_le (Nat.le_refl _)]
        go_wp2_with fail
        go_ret
        exact ⟨ret_int HR.out.symm, hb⟩
end Go.Proofs.YtkjijbogbelilaaGreat

namespace Go.Proofs.YtkjijbogbelilaaGreat
open Go.RowKit
set_option maxRecDepth 100000

theorem awk_E : incE (.mk [] []) 5 ⟨1, 1⟩ = 0 := by kernel_rfl
set_option maxHeartbeats 4000000 in
theorem awake12_any (w : World) : Calls Tryz.prog 50 #[] w fun e w' => e = .returned (.bool true) ∧ Below w.heap.size w w' := by
  have hb0 := (Below.refl w.heap.size w).alloc (Nat.le_refl _) (.cells #[.int .i64 1, .int .i64 1] 42)
  go_enter Tryz.func50, Tryz.ntmps50
  go_wp2_with fail
  refine (cinc_any (.mk [] []) 5 ⟨1, 1⟩ _ _ _ rd_empty (by simp [Tr.sz, Tr.szL]) ⟨by omega, by omega⟩ ⟨⟨by decide, by decide⟩, ⟨by decide, by decide⟩⟩).mono ?_
  rintro e w1 ⟨ve, vk, vc, rfl, hrd, hsc, hb1⟩
  rw [awk_E]
  have hv : valT (incT (.mk [] []) 5 ⟨1, 1⟩) = 5 := by kernel_rfl
  have HV := hid hv
  clear hv
  have HT1 : Hid (incT (.mk [] []) 5 ⟨1, 1⟩ = .mk [⟨1, 1, ByteArray.empty, 5⟩] []) := by unfold Hid; rw [incT, awk_E]; rfl
  have HC1 : Hid (incC (.mk [] []) 5 ⟨1, 1⟩ = ctxOf [⟨1, 1⟩]) := by unfold Hid; rw [incC, awk_E]; rfl
  generalize incT (.mk [] []) 5 ⟨1, 1⟩ = T at *
  generalize incC (.mk [] []) 5 ⟨1, 1⟩ = C at *
  obtain ⟨Ae, ne, Ak, nk, rfl, rfl⟩ := rda_shape hrd
  obtain ⟨Ac, nc, rfl⟩ := hsc.shape
  have hs1 := hb1.size
  simp only [World.size_alloc] at hs1
  have hB1 : Below w.heap.size w w1 := hb0.trans (hb1.mono (by simp))
  have d0 : w1.cell? ⟨w.heap.size, 0, none⟩ = some (.int .i64 1) := by rw [hb1.cell (p := ⟨w.heap.size, 0, none⟩) (by simp)]; simp
  have d1 : w1.cell? ⟨w.heap.size, 1, none⟩ = some (.int .i64 1) := by rw [hb1.cell (p := ⟨w.heap.size, 1, none⟩) (by simp)]; simp
  have HT : Hid (∀ w', Below w1.heap.size w1 w' → T.rd w' w'.heap.size (.slice Ae T.es.length ne) (.slice Ak T.ks.length nk)) := fun w' hb => rda_rd hrd (fun b hb => hb.2) hb
  have HCt : Hid (∀ w', Below w1.heap.size w1 w' → SlP w' w'.heap.size 3 SpE (.slice Ac C.length nc) C) := fun w' hb => hsc.slp (fun b hb => hb.2) hb
  have HSM : Hid ((trEq T (buildL [([], ⟨1, 1, ByteArray.empty, 5⟩)]) && decide (C = ctxBy [] [⟨1, 1, 1⟩] 0)) = true) := by
    unfold Hid
    rw [HT1.out, HC1.out, build_one_leaf, put_ctx (d := ⟨1, 1⟩) (by decide)]
    simp [trEq]
  have HB : Hid (∀ w', Below (w1.heap.size + 1) (w1.alloc (.cells #[.slice Ae T.es.length ne, .slice Ak T.ks.length nk, .slice Ac C.length nc] 29)) w' → Below w.heap.size w w' ∧ Below w1.heap.size w1 w' ∧ (w'.cell? ⟨w.heap.size, 0, none⟩ = some (.int .i64 1) ∧ w'.cell? ⟨w.heap.size, 1, none⟩ = some (.int .i64 1) ∧ w'.cell? ⟨w1.heap.size, 0, none⟩ = some (.slice Ae T.es.length ne) ∧ w'.cell? ⟨w1.heap.size, 1, none⟩ = some (.slice Ak T.ks.length nk) ∧ w'.cell? ⟨w1.heap.size, 2, none⟩ = some (.slice Ac C.length nc))) := fun w' hb => by
    have hB : Below w1.heap.size w1 w' := ((Below.refl _ w1).alloc (Nat.le_refl _) _).trans (hb.mono (by omega))
    refine ⟨hB1.trans (hB.mono (by omega)), hB, ?_, ?_, ?_, ?_, ?_⟩
    · rw [hB.cell (p := ⟨w.heap.size, 0, none⟩) (by show w.heap.size < _; omega)]; exact d0
    · rw [hB.cell (p := ⟨w.heap.size, 1, none⟩) (by show w.heap.size < _; omega)]; exact d1
    · rw [hb.cell (p := ⟨w1.heap.size, 0, none⟩) (by simp), World.cell?_alloc_new]; rfl
    · rw [hb.cell (p := ⟨w1.heap.size, 1, none⟩) (by simp), World.cell?_alloc_new]; rfl
    · rw [hb.cell (p := ⟨w1.heap.size, 2, none⟩) (by simp), World.cell?_alloc_new]; rfl
  have hne1 : w.heap.size < w1.heap.size := by omega
  clear hrd hsc
  go_upto_region 3 with (fail)
  go_region_held3 (fun w' => w'.cell? ⟨w.heap.size, 0, none⟩ = some (.int .i64 1) ∧ w'.cell? ⟨w.heap.size, 1, none⟩ = some (.int .i64 1) ∧ w'.cell? ⟨w1.heap.size, 0, none⟩ = some (.slice Ae T.es.length ne) ∧ w'.cell? ⟨w1.heap.size, 1, none⟩ = some (.slice Ak T.ks.length nk) ∧ w'.cell? ⟨w1.heap.size, 2, none⟩ = some (.slice Ac C.length nc))
    (first | go_keep | exact (HB.out _ hb4.out).2.2 | exact (HB.out _ hb3.out).2.2 | exact (HB.out _ hb2.out).2.2)
    (first | (go_at_call 53; go_loud ((refine (cvalue_any T _ _ _ (HT.out _ (((Below.refl _ w1).alloc (Nat.le_refl _) _).drew))).mono ?_); rw [HV.out]; rintro e w2 ⟨rfl, hb⟩; have hb2 := hid (((Below.refl (w1.heap.size + 1) (w1.alloc (.cells #[.slice Ae T.es.length ne, .slice Ak T.ks.length nk, .slice Ac C.length nc] 29))).drew).trans (hb.mono (by simp)))))
           | (go_at_call 83; go_loud ((refine (r10put_any [] ⟨1, 1, ByteArray.empty, 5⟩ [] _ _ w2 ⟨⟨by decide, by decide⟩, ⟨by decide, by decide⟩, ⟨by decide, by decide⟩, by simp [Big]⟩ SlP.nil SlP.nil (by simp) (fun _ h => by cases h) (fun s hs => by simp at hs; subst hs; decide)).mono ?_); rintro e w3 ⟨ve3, vk3, vc3, rfl, hrd3, hsc3, hb⟩; obtain ⟨A5, n5, A6, n6, hv5, hv6⟩ := rda_shape hrd3; subst hv5; subst hv6; obtain ⟨A7, n7, hv7⟩ := hsc3.shape; subst hv7; have hrd4 := hid (rda_rd hrd3 (fun b hb => hb.2) (Below.refl _ _)); have hsc4 := hid (hsc3.slp (fun b hb => hb.2) (Below.refl _ _)); clear hrd3 hsc3; have hb3 := hid (hb2.out.trans (hb.mono (by have := hb2.out.size; simpa using this)))))
           | (go_at_call 27; go_loud ((refine (r09same_any T _ C _ _ _ _ _ _ _ w3 (HT.out _ (HB.out _ hb3.out).2.1) hrd4.out (HCt.out _ (HB.out _ hb3.out).2.1) hsc4.out).mono ?_); rw [HSM.out]; rintro e w4 ⟨rfl, hb⟩; have hb4 := hid (hb3.out.trans (hb.mono (by have := hb3.out.size; simpa using this))))))
  go_wp2_with fail
  go_ret
  exact ⟨rfl, (HB.out _ hb4.out).1⟩
end Go.Proofs.YtkjijbogbelilaaGreat

namespace Go.Proofs.YtkjijbogbelilaaGreat
open Go.RowKit
set_option maxRecDepth 100000

theorem small12_any (t : Tr) (w : World) (ve vk : Value) (h : t.rd w w.heap.size ve vk) :
    Calls Tryz.prog 51 #[.agg #[ve, vk]] w fun e w' => e = .returned (.bool (smlB t 60)) ∧ Below w.heap.size w w' := by
  have HC : Hid (∀ w', Below w.heap.size w w' → t.rd w' w'.heap.size ve vk) := fun w' hb => rd_below hb hb.size _ _ _ h
  obtain ⟨A3, n3, A4, n4, rfl, rfl⟩ := rd_shape h
  have hb0 := (Below.refl w.heap.size w).alloc (Nat.le_refl _) (.cells #[.slice A3 t.es.length n3, .slice A4 t.ks.length n4] 25)
  clear h
  go_enter Tryz.func51, Tryz.ntmps51
  go_wp2_with fail
  refine (r08small_any t _ _ _ 60 (HC.out _ hb0) (by omega) (by omega)).mono ?_
  rintro e w1 ⟨rfl, hb1⟩
  rw [show decide (0 ≤ t.room 60 8) = smlB t 60 from rfl]
  go_wp2_with fail
  go_ret
  exact ⟨rfl, hb0.trans (hb1.mono (by simp))⟩
end Go.Proofs.YtkjijbogbelilaaGreat

namespace Go.Proofs.YtkjijbogbelilaaGreat
open Go.RowKit
set_option maxRecDepth 100000

def sumP (es : List En) : Int := (es.map (·.v)).sum
theorem sumE_go : ∀ (es : List En) (s : Int) (m : Nat), (∀ e ∈ es, -1099511627776 ≤ e.v ∧ e.v ≤ 1099511627776) → -(1099511627776 * (m : Int)) ≤ s → s ≤ 1099511627776 * (m : Int) → m + es.length ≤ 1000 →
    es.foldl (fun s e => wrap64 (s + e.v)) s = s + sumP es ∧ -(1099511627776 * ((m + es.length : Nat) : Int)) ≤ s + sumP es ∧ s + sumP es ≤ 1099511627776 * ((m + es.length : Nat) : Int)
  | [], s, m, _, h1, h2, _ => by simp [sumP]; omega
  | e :: es, s, m, he, h1, h2, h3 => by
    have hv := he e (by simp)
    rw [List.length_cons] at h3
    have hw : wrap64 (s + e.v) = s + e.v := by unfold wrap64; omega
    have h4 := sumE_go es (s + e.v) (m + 1) (fun x hx => he x (by simp [hx])) (by push_cast; omega) (by push_cast; omega) (by omega)
    have hs : sumP (e :: es) = e.v + sumP es := by simp [sumP]
    rw [List.foldl_cons, hw, h4.1, hs, List.length_cons]
    have e1 : m + 1 + es.length = m + (es.length + 1) := by omega
    rw [e1] at h4
    refine ⟨by omega, ?_, ?_⟩
    · have := h4.2.1; omega
    · have := h4.2.2; omega
theorem sumE_P {es : List En} (he : ∀ e ∈ es, -1099511627776 ≤ e.v ∧ e.v ≤ 1099511627776) (hl : es.length ≤ 100) : sumE es = sumP es ∧ -109951162777600 ≤ sumP es ∧ sumP es ≤ 109951162777600 := by
  have h := sumE_go es 0 0 he (by omega) (by omega) (by omega)
  unfold sumE
  refine ⟨by rw [h.1]; omega, ?_, ?_⟩
  · have := h.2.1; omega
  · have := h.2.2; omega
theorem stay_keep {c : List Sp} {x : En} (h : cHas c x.dot = false) : stayL c x = [x] := by unfold stayL; rw [h]; rfl
theorem sumP_cons (x : En) (es : List En) : sumP (x :: es) = x.v + sumP es := by simp [sumP]
theorem entL_left (ca cb : List Sp) : ∀ (a : List En), (∀ x ∈ a, cHas cb x.dot = false) → entL ca cb a [] = a
  | [], _ => by rw [entL]
  | x :: a, h => by rw [entL, stay_keep (h x (by simp)), entL_left ca cb a fun y hy => h y (by simp [hy])]; rfl
theorem entL_sum (ca cb : List Sp) (y : En) (hy : cHas ca y.dot = false) : ∀ (a : List En), (∀ x ∈ a, cHas cb x.dot = false) → (∀ x ∈ a, x.dot ≠ y.dot) → sumP (entL ca cb a [y]) = sumP a + y.v
  | [], _, _ => by rw [entL, stay_keep hy, entL]; simp [sumP]
  | x :: a, h, hn => by
    rw [entL]
    cases h1 : x.dot.lt y.dot
    · cases h2 : y.dot.lt x.dot
      · exact absurd (ltD_total h1 h2) (hn x (by simp))
      · rw [if_neg (by simp), if_pos rfl, stay_keep hy, entL_left ca cb (x :: a) h]
        simp [sumP]; omega
    · rw [if_pos rfl, stay_keep (h x (by simp))]
      have := entL_sum ca cb y hy a (fun z hz => h z (by simp [hz])) fun z hz => hn z (by simp [hz])
      rw [List.singleton_append, sumP_cons, sumP_cons, this]; omega
theorem cu_plain {t : Tr} {n : Int} {d : Dt} (hc : chkT t d = true) (hn1 : ¬ 1099511627776 < n) (hn2 : ¬ n < -1099511627776) (hl : ¬ 24 ≤ t.es.length) (hz : t.sz ≤ 60) : ∃ (X : Tr) (S : List Sp) (T : Tr) (U : List Sp) (V : Int), Hid (incT t n d = X) ∧ Hid (incC t n d = S) ∧ Hid (incE t n d = 0) ∧
    Hid ((jaR [(t, knC t), (X, S)]).1 = T) ∧ Hid ((jaR [(t, knC t), (X, S)]).2 = U) ∧ Hid (jaE [(t, knC t), (X, S)] = 0) ∧
    Hid ((jaR [(X, S), (t, knC t), (X, S)]).1 = T) ∧ Hid ((jaR [(X, S), (t, knC t), (X, S)]).2 = U) ∧ Hid (jaE [(X, S), (t, knC t), (X, S)] = 0) ∧
    Hid (valT T = V + n) ∧ Hid (sumE t.es = V) ∧ Hid (kSame T T U U = true) ∧ -109951162777600 ≤ V ∧ V ≤ 109951162777600 ∧ X.sz ≤ 40 ∧ T.sz ≤ 200 ∧ S.length ≤ 100 ∧ U.length ≤ 10000 ∧ (knC t).length ≤ 400 ∧ Hid (∀ d ∈ t.dots, 0 ≤ d.n ∧ d.n ≤ 1099511627778) := by
  obtain ⟨g1, g2, g3⟩ := chkT_dots hc
  have hk := known_ok g1
  have hno : ¬ (chkT t d = false ∨ n < -1099511627776 ∨ 1099511627776 < n) := by rw [hc]; simp; omega
  have hE : incE t n d = 0 := by unfold incE; rw [if_neg hno, if_neg hl]
  have hT1 : incT t n d = tOne ⟨d.dc, d.n, ByteArray.empty, n⟩ := by unfold incT; rw [if_pos hE]
  have hC1 : incC t n d = ctxOf [d] := by unfold incC; rw [if_pos hE]
  have hr1 : ∀ x ∈ [d], x.right = true := fun x hx => by simp at hx; subst hx; exact g2
  have he : (⟨d.dc, d.n, ByteArray.empty, n⟩ : En).right = true := by unfold En.right En.dot; simp [g2]; omega
  have hh : ∀ x, hasC (ctxOf [d]) x = decide (x = d) := fun x => by
    rw [Bool.eq_iff_iff, decide_eq_true_eq]
    constructor
    · intro h; rw [hasC_ctxOf hr1 (hasC_right h)] at h; simpa using h
    · rintro rfl; rw [hasC_ctxOf hr1 g2]; simp
  have hK : KOk (t, knC t) := hk
  have hX : KOk (tOne ⟨d.dc, d.n, ByteArray.empty, n⟩, ctxOf [d]) := tOne_ok he (apart_ctxOf hr1) (by rw [hh]; simp [En.dot])
  have ha2 : ∀ u ∈ [(t, knC t), (tOne ⟨d.dc, d.n, ByteArray.empty, n⟩, ctxOf [d])], KOk u := fun u hu => by simp at hu; rcases hu with rfl | rfl <;> assumption
  have hb2 : ∀ u ∈ [(tOne ⟨d.dc, d.n, ByteArray.empty, n⟩, ctxOf [d]), (t, knC t), (tOne ⟨d.dc, d.n, ByteArray.empty, n⟩, ctxOf [d])], KOk u := fun u hu => by simp at hu; rcases hu with rfl | rfl | rfl <;> assumption
  obtain ⟨a1, a2, a3⟩ := ja_ok ha2
  obtain ⟨b1, b2, _⟩ := ja_ok hb2
  rw [a2] at a3
  rw [jnL_two hK] at a2 a3
  rw [jnL_three hX, jn_comm hX hK, jn_assoc hK hX hX, jn_idem hX] at b2
  have hes : (jn (t, knC t) (tOne ⟨d.dc, d.n, ByteArray.empty, n⟩, ctxOf [d])).1.es = entL (knC t) (ctxOf [d]) t.es [⟨d.dc, d.n, ByteArray.empty, n⟩] := rfl
  have hkeep : ∀ x ∈ t.es, x.dot ∈ t.dots := fun x hx => (mem_dots t _).2 ⟨[], x, mem_es.2 hx, rfl⟩
  have hsum : sumP (jn (t, knC t) (tOne ⟨d.dc, d.n, ByteArray.empty, n⟩, ctxOf [d])).1.es = sumP t.es + n := by
    rw [hes]
    refine entL_sum _ _ _ ?_ t.es (fun x hx => ?_) fun x hx e => ?_
    · rw [cHas_hasC hk.ap, kn_hasB g1]; simp [En.dot, g3]
    · rw [cHas_hasC (apart_ctxOf hr1), hh]; simp; rintro e; exact g3 (e ▸ hkeep x hx)
    · have : x.dot = d := e
      exact g3 (this ▸ hkeep x hx)
  have hbd : ∀ {A : Tr} {c : List Sp}, CaOk A c → ∀ e ∈ A.es, -1099511627776 ≤ e.v ∧ e.v ≤ 1099511627776 := fun {A c} hA e he => by
    have := (hA.leaf ([], e) (mem_es.2 he)).2.2
    unfold En.right at this; simp at this; omega
  have hle : (jn (t, knC t) (tOne ⟨d.dc, d.n, ByteArray.empty, n⟩, ctxOf [d])).1.es.length ≤ 100 := by
    rw [hes]
    have := entL_len (knC t) (ctxOf [d]) _ t.es [⟨d.dc, d.n, ByteArray.empty, n⟩] (Nat.le_refl _)
    simp at this; omega
  have p1 := sumE_P (hbd hk) (by omega)
  have p2 := sumE_P (hbd a3) hle
  have hval : valT (jn (t, knC t) (tOne ⟨d.dc, d.n, ByteArray.empty, n⟩, ctxOf [d])).1 = sumE t.es + n := by
    unfold valT
    rw [(right_iff a3.ord).2 a3.leaf, if_pos rfl, p2.1, hsum, p1.1]
  have s1 := jn_sz hK hX
  have s3 := kn_sz (t := t) hz
  have s4 : (ctxOf [d]).length ≤ 4 * ([d].length + 1) := ctxOfK_len _ 4
  have z1 : (tOne ⟨d.dc, d.n, ByteArray.empty, n⟩ : Tr).sz = 1 := by simp [Tr.sz, Tr.szL]
  simp only at s1
  rw [List.length_singleton] at s4
  have s7 : (jn (t, knC t) (tOne ⟨d.dc, d.n, ByteArray.empty, n⟩, ctxOf [d])).2.length ≤ 10000 := by omega
  have s8 : (jn (t, knC t) (tOne ⟨d.dc, d.n, ByteArray.empty, n⟩, ctxOf [d])).1.sz ≤ 200 := by omega
  clear hes hsum hle p2 s1
  generalize jn (t, knC t) (tOne ⟨d.dc, d.n, ByteArray.empty, n⟩, ctxOf [d]) = J at *
  have hsm : kSame J.1 J.1 J.2 J.2 = true := (kSame_ok a3 a3).2 rfl
  exact ⟨_, _, J.1, J.2, sumE t.es, hT1, hC1, hE, congrArg Prod.fst a2, congrArg Prod.snd a2, a1, congrArg Prod.fst b2, congrArg Prod.snd b2, b1, hval, rfl, hsm, by omega, by omega, by omega, s8, by omega, s7, s3, right_nums g1⟩
set_option maxHeartbeats 4000000 in
theorem lawCU_any (t : Tr) (n : Int) (d : Dt) (w : World) (ve0 vk0 : Value) (h0 : t.rd w w.heap.size ve0 vk0) (h1 : I64 n) (h2 : d.Ok) :
    Calls Tryz.prog 14 #[.agg #[ve0, vk0], .int .i64 n, .agg #[.int .i64 d.dc, .int .i64 d.n]] w fun e w' => e = .returned (.bool true) ∧ Below w.heap.size w w' := by
  have HC0 : Hid (∀ w', Below w.heap.size w w' → t.rd w' w'.heap.size ve0 vk0) := fun w' hb => rd_below hb hb.size _ _ _ h0
  obtain ⟨A0, n0, B0, m0, rfl, rfl⟩ := rd_shape h0
  clear h0
  have HX0 : Hid (∀ W, Below (w.heap.size + 2) ((w.alloc (.cells #[.slice A0 t.es.length n0, .slice B0 t.ks.length m0] 25)).alloc (.cells #[.int .i64 d.dc, .int .i64 d.n] 42)) W → (Below w.heap.size w W ∧ w.heap.size + 2 ≤ (W).heap.size ∧ t.rd W (W).heap.size (.slice A0 t.es.length n0) (.slice B0 t.ks.length m0) ∧ (W).cell? ⟨w.heap.size, 0, none⟩ = some (.slice A0 t.es.length n0) ∧ (W).cell? ⟨w.heap.size, 1, none⟩ = some (.slice B0 t.ks.length m0) ∧ (W).cell? ⟨(w.heap.size + 1), 0, none⟩ = some (.int .i64 d.dc) ∧ (W).cell? ⟨(w.heap.size + 1), 1, none⟩ = some (.int .i64 d.n))) := fun W hW => by
    have g0 : W.heap[w.heap.size]? = some (.cells #[.slice A0 t.es.length n0, .slice B0 t.ks.length m0] 25 (0, 0)) := (hW.block _ (by omega)).trans ((heap_old (by simp <;> omega)).trans (heap_new rfl))
    have g1 : W.heap[(w.heap.size + 1)]? = some (.cells #[.int .i64 d.dc, .int .i64 d.n] 42 (0, 0)) := (hW.block _ (by omega)).trans (heap_new (by simp))
    have hB : Below w.heap.size w W := (((Below.refl _ w).alloc (Nat.le_refl _) _).alloc (by simp <;> omega) _).trans (hW.mono (by omega))
    exact ⟨hB, by have := hW.size; simpa using this, HC0.out _ hB, cell_cells (i := 0) g0, cell_cells (i := 1) g0, cell_cells (i := 0) g1, cell_cells (i := 1) g1⟩
  have hnb1 : w.heap.size + 1 ≠ w.heap.size := by omega
  go_enter Tryz.func14, Tryz.ntmps14
  have hnb : -9223372036854775808 ≤ n ∧ n ≤ 9223372036854775807 := h1
  go_wp2_with fail
  obtain ⟨hB, hs, rt0, c00, c01, c20, c21⟩ := HX0.out _ (Below.refl _ _)
  refine (awake12_any _).mono ?_
  rintro e w1 ⟨rfl, hb⟩
  have hbk1 : Hid (Below (w.heap.size + 2) ((w.alloc (.cells #[.slice A0 t.es.length n0, .slice B0 t.ks.length m0] 25)).alloc (.cells #[.int .i64 d.dc, .int .i64 d.n] 42)) w1) := hid (hb.mono (by first | omega | (simp; done) | (simp; omega)))
  clear hb
  clear hB hs rt0 c00 c01 c20 c21
  obtain ⟨hB, hs, rt0, c00, c01, c20, c21⟩ := HX0.out _ hbk1.out
  go_wp2_with fail
  refine (small12_any t _ _ _ rt0).mono ?_
  rintro e w2 ⟨rfl, hb⟩
  have hbk2 : Hid (Below (w.heap.size + 2) ((w.alloc (.cells #[.slice A0 t.es.length n0, .slice B0 t.ks.length m0] 25)).alloc (.cells #[.int .i64 d.dc, .int .i64 d.n] 42)) w2) := hid (hbk1.out.trans (hb.mono (by first | omega | (simp; done) | (simp; omega))))
  clear hb
  clear hB hs rt0 c00 c01 c20 c21
  obtain ⟨hB, hs, rt0, c00, c01, c20, c21⟩ := HX0.out _ hbk2.out
  cases hs : smlB t 60
  · clear hs
    go_wp2_with fail
    refine (awake12_any _).mono ?_
    rintro e w3 ⟨rfl, hb⟩
    have hbk3 : Hid (Below (w.heap.size + 2) ((w.alloc (.cells #[.slice A0 t.es.length n0, .slice B0 t.ks.length m0] 25)).alloc (.cells #[.int .i64 d.dc, .int .i64 d.n] 42)) w3) := hid (hbk2.out.trans (hb.mono (by first | omega | (simp; done) | (simp; omega))))
    clear hb
    clear hB hs rt0 c00 c01 c20 c21
    obtain ⟨hB, hs, rt0, c00, c01, c20, c21⟩ := HX0.out _ hbk3.out
    go_wp2_with fail
    go_ret
    exact ⟨rfl, hB⟩
  have hsz : t.sz ≤ 60 := by have := sml_sz hs; omega
  clear hs
  go_wp2_with fail
  refine (r10check_any t d _ _ _ rt0 (by omega)).mono ?_
  rintro e w3 ⟨rfl, hb⟩
  have hbk3 : Hid (Below (w.heap.size + 2) ((w.alloc (.cells #[.slice A0 t.es.length n0, .slice B0 t.ks.length m0] 25)).alloc (.cells #[.int .i64 d.dc, .int .i64 d.n] 42)) w3) := hid (hbk2.out.trans (hb.mono (by first | omega | (simp; done) | (simp; omega))))
  clear hb
  clear hB hs rt0 c00 c01 c20 c21
  obtain ⟨hB, hs, rt0, c00, c01, c20, c21⟩ := HX0.out _ hbk3.out
  cases hc : chkT t d
  · clear hc
    go_wp2_with fail
    refine (awake12_any _).mono ?_
    rintro e w4 ⟨rfl, hb⟩
    have hbk4 : Hid (Below (w.heap.size + 2) ((w.alloc (.cells #[.slice A0 t.es.length n0, .slice B0 t.ks.length m0] 25)).alloc (.cells #[.int .i64 d.dc, .int .i64 d.n] 42)) w4) := hid (hbk3.out.trans (hb.mono (by first | omega | (simp; done) | (simp; omega))))
    clear hb
    clear hB hs rt0 c00 c01 c20 c21
    obtain ⟨hB, hs, rt0, c00, c01, c20, c21⟩ := HX0.out _ hbk4.out
    go_wp2_with fail
    go_ret
    exact ⟨rfl, hB⟩
  by_cases h3 : 1099511627776 < n
  · clear hc
    go_wp2_with fail
    refine (awake12_any _).mono ?_
    rintro e w4 ⟨rfl, hb⟩
    have hbk4 : Hid (Below (w.heap.size + 2) ((w.alloc (.cells #[.slice A0 t.es.length n0, .slice B0 t.ks.length m0] 25)).alloc (.cells #[.int .i64 d.dc, .int .i64 d.n] 42)) w4) := hid (hbk3.out.trans (hb.mono (by first | omega | (simp; done) | (simp; omega))))
    clear hb
    clear hB hs rt0 c00 c01 c20 c21
    obtain ⟨hB, hs, rt0, c00, c01, c20, c21⟩ := HX0.out _ hbk4.out
    go_wp2_with fail
    go_ret
    exact ⟨rfl, hB⟩
  · by_cases h4 : n < -1099511627776
    · clear hc
      go_wp2_with fail
      refine (awake12_any _).mono ?_
      rintro e w4 ⟨rfl, hb⟩
      have hbk4 : Hid (Below (w.heap.size + 2) ((w.alloc (.cells #[.slice A0 t.es.length n0, .slice B0 t.ks.length m0] 25)).alloc (.cells #[.int .i64 d.dc, .int .i64 d.n] 42)) w4) := hid (hbk3.out.trans (hb.mono (by first | omega | (simp; done) | (simp; omega))))
      clear hb
      clear hB hs rt0 c00 c01 c20 c21
      obtain ⟨hB, hs, rt0, c00, c01, c20, c21⟩ := HX0.out _ hbk4.out
      go_wp2_with fail
      go_ret
      exact ⟨rfl, hB⟩
    · by_cases h5 : 24 ≤ t.es.length
      · have h5' : decide (24 ≤ t.es.length) = true := by simpa using h5
        go_wp2_with fail
        refine (awake12_any _).mono ?_
        rintro e w4 ⟨rfl, hb⟩
        have hbk4 : Hid (Below (w.heap.size + 2) ((w.alloc (.cells #[.slice A0 t.es.length n0, .slice B0 t.ks.length m0] 25)).alloc (.cells #[.int .i64 d.dc, .int .i64 d.n] 42)) w4) := hid (hbk3.out.trans (hb.mono (by first | omega | (simp; done) | (simp; omega))))
        clear hb
        clear hB hs rt0 c00 c01 c20 c21
        obtain ⟨hB, hs, rt0, c00, c01, c20, c21⟩ := HX0.out _ hbk4.out
        go_wp2_with fail
        go_ret
        exact ⟨rfl, hB⟩
      · have h5' : decide (24 ≤ t.es.length) = false := by simpa using h5
        obtain ⟨X, S, T, U, V, HIT, HIC, HIE, HA1, HA2, HA3, HB1, HB2, HB3, HVL, HSU, HSM, hV1, hV2, hX1, hT1, hS1, hU1, hK1, HN⟩ := cu_plain hc h3 h4 h5 hsz
        clear hc
        go_wp2_with fail
        refine (cinc_any t n d _ _ _ rt0 (by omega) h1 h2).mono ?_
        rw [HIT.out, HIC.out, HIE.out]
        rintro e w4 ⟨xe4, xk4, xc4, rfl, hrd4, hsl4, hb⟩
        obtain ⟨A4x, n4x, B4x, m4x, rfl, rfl⟩ := rda_shape hrd4
        obtain ⟨D4x, k4x, rfl⟩ := hsl4.shape
        have hbk4 : Hid (Below (w.heap.size + 2) ((w.alloc (.cells #[.slice A0 t.es.length n0, .slice B0 t.ks.length m0] 25)).alloc (.cells #[.int .i64 d.dc, .int .i64 d.n] 42)) w4) := hid (hbk3.out.trans (hb.mono (by first | omega | (simp; done) | (simp; omega))))
        clear hb
        clear hB hs rt0 c00 c01 c20 c21
        obtain ⟨hB, hs, rt0, c00, c01, c20, c21⟩ := HX0.out _ hbk4.out
        have hlt4236 : w.heap.size < w4.heap.size := by omega
        have hne4236 : w.heap.size ≠ w4.heap.size := by omega
        have hlt4460 : (w.heap.size + 1) < w4.heap.size := by omega
        have hne4460 : (w.heap.size + 1) ≠ w4.heap.size := by omega
        have HX1 : Hid (∀ W, Below (w4.heap.size + 1) (w4.alloc (.cells #[.slice A4x X.es.length n4x, .slice B4x X.ks.length m4x, .slice D4x S.length k4x] 29)) W → (w4.heap.size + 1 ≤ (W).heap.size ∧ X.rd W (W).heap.size (.slice A4x X.es.length n4x) (.slice B4x X.ks.length m4x) ∧ SlP W (W).heap.size 3 SpE (.slice D4x S.length k4x) S ∧ (W).cell? ⟨w4.heap.size, 0, none⟩ = some (.slice A4x X.es.length n4x) ∧ (W).cell? ⟨w4.heap.size, 1, none⟩ = some (.slice B4x X.ks.length m4x) ∧ (W).cell? ⟨w4.heap.size, 2, none⟩ = some (.slice D4x S.length k4x) ∧ Below w.heap.size w W ∧ w.heap.size + 2 ≤ (W).heap.size ∧ t.rd W (W).heap.size (.slice A0 t.es.length n0) (.slice B0 t.ks.length m0) ∧ (W).cell? ⟨w.heap.size, 0, none⟩ = some (.slice A0 t.es.length n0) ∧ (W).cell? ⟨w.heap.size, 1, none⟩ = some (.slice B0 t.ks.length m0) ∧ (W).cell? ⟨(w.heap.size + 1), 0, none⟩ = some (.int .i64 d.dc) ∧ (W).cell? ⟨(w.heap.size + 1), 1, none⟩ = some (.int .i64 d.n))) := fun W hW => by
          have g0 := (hW.block w4.heap.size (by omega)).trans (heap_new rfl)
          have hB : Below w4.heap.size w4 W := ((Below.refl _ w4).alloc (Nat.le_refl _) _).trans (hW.mono (by omega))
          exact ⟨by have := hW.size; simpa using this, rda_rd hrd4 (fun b hb => hb.2) hB, hsl4.slp (fun b hb => hb.2) hB, cell_cells (i := 0) g0, cell_cells (i := 1) g0, cell_cells (i := 2) g0, HX0.out W (hbk4.out.trans (hB.mono (by omega)))⟩
        clear hrd4 hsl4
        clear h5'
        go_upto_region 4 with (fail)
        clear hB hs rt0 c00 c01 c20 c21
        obtain ⟨hs_x, rt_x, rc_x, c0_x, c1_x, c2_x, hB, hs, rt0, c00, c01, c20, c21⟩ := HX1.out _ (Below.refl _ _)
        have HK1 : Hid (∀ W, Below (w4.heap.size + 1) (w4.alloc (.cells #[.slice A4x X.es.length n4x, .slice B4x X.ks.length m4x, .slice D4x S.length k4x] 29)) W → ((W).cell? ⟨w4.heap.size, 0, none⟩ = some (.slice A4x X.es.length n4x) ∧ (W).cell? ⟨w4.heap.size, 1, none⟩ = some (.slice B4x X.ks.length m4x) ∧ (W).cell? ⟨w4.heap.size, 2, none⟩ = some (.slice D4x S.length k4x) ∧ (W).cell? ⟨w.heap.size, 0, none⟩ = some (.slice A0 t.es.length n0) ∧ (W).cell? ⟨w.heap.size, 1, none⟩ = some (.slice B0 t.ks.length m0))) := fun W hW => by
          obtain ⟨_, _, _, z_c0_x, z_c1_x, z_c2_x, _, _, _, z_c00, z_c01, _, _⟩ := HX1.out W hW
          exact ⟨z_c0_x, z_c1_x, z_c2_x, z_c00, z_c01⟩
        have Hrt_x_1 : Hid (∀ W, Below (w4.heap.size + 1) (w4.alloc (.cells #[.slice A4x X.es.length n4x, .slice B4x X.ks.length m4x, .slice D4x S.length k4x] 29)) W → X.rd W (W).heap.size (.slice A4x X.es.length n4x) (.slice B4x X.ks.length m4x)) := fun W hW => by
          obtain ⟨_, z, _, _, _, _, _, _, _, _, _, _, _⟩ := HX1.out W hW
          exact z
        have Hrc_x_1 : Hid (∀ W, Below (w4.heap.size + 1) (w4.alloc (.cells #[.slice A4x X.es.length n4x, .slice B4x X.ks.length m4x, .slice D4x S.length k4x] 29)) W → SlP W (W).heap.size 3 SpE (.slice D4x S.length k4x) S) := fun W hW => by
          obtain ⟨_, _, z, _, _, _, _, _, _, _, _, _, _⟩ := HX1.out W hW
          exact z
        have Hrt0_1 : Hid (∀ W, Below (w4.heap.size + 1) (w4.alloc (.cells #[.slice A4x X.es.length n4x, .slice B4x X.ks.length m4x, .slice D4x S.length k4x] 29)) W → t.rd W (W).heap.size (.slice A0 t.es.length n0) (.slice B0 t.ks.length m0)) := fun W hW => by
          obtain ⟨_, _, _, _, _, _, _, _, z, _, _, _, _⟩ := HX1.out W hW
          exact z
        have HS_1 : Hid (∀ W, Below (w4.heap.size + 1) (w4.alloc (.cells #[.slice A4x X.es.length n4x, .slice B4x X.ks.length m4x, .slice D4x S.length k4x] 29)) W → (w4.heap.size + 1) ≤ W.heap.size) := fun W hW => by
          have := hW.size
          first | omega | (simp at this; omega)
        have hsb1 := HS_1.out _ (Below.refl _ _)
        clear rt_x rc_x hB rt0 c20 c21
        go_cut [9, 10] (fun s9 s10 wx => s10 = .int .i64 0 ∧ Box3 (w4.heap.size + 1) (w4.alloc (.cells #[.slice A4x X.es.length n4x, .slice B4x X.ks.length m4x, .slice D4x S.length k4x] 29)) 29 T U s9 wx)
        case first =>
          go_region_held3 (fun W => (W).cell? ⟨w4.heap.size, 0, none⟩ = some (.slice A4x X.es.length n4x) ∧ (W).cell? ⟨w4.heap.size, 1, none⟩ = some (.slice B4x X.ks.length m4x) ∧ (W).cell? ⟨w4.heap.size, 2, none⟩ = some (.slice D4x S.length k4x) ∧ (W).cell? ⟨w.heap.size, 0, none⟩ = some (.slice A0 t.es.length n0) ∧ (W).cell? ⟨w.heap.size, 1, none⟩ = some (.slice B0 t.ks.length m0))
            (first | go_keep | exact HK1.out _ hbr6.out | exact HK1.out _ (hbr6.out.trans (by go_grown)) | exact HK1.out _ hbr5.out | exact HK1.out _ (hbr5.out.trans (by go_grown)) | exact HK1.out _ (by go_grown) | fail)
            (first
              | (go_at_call 29; go_loud ((refine (joinAll_any [(t, knC t), (X, S)] _ _ (slp2 (by first | exact heap_new rfl | exact heap_new (by simp) | exact (heap_old (by simp)).trans (heap_new rfl) | exact (heap_old (by simp)).trans (heap_new (by simp))) (kn_at (Hrt0_1.out _ (hbr5.out.trans (by go_grown))) (HLK.out _ (by go_grown))) (kn_at (Hrt_x_1.out _ (hbr5.out.trans (by go_grown))) (Hrc_x_1.out _ (hbr5.out.trans (by go_grown)))) (by first | (simp; done) | (simp; omega))) (by simp; omega) (by simp; omega)).mono ?_); rw [HA1.out, HA2.out, HA3.out]; rintro e w6 ⟨xe6, xk6, xc6, rfl, hrd6, hsl6, hb⟩; have hbr6 : Hid (Below (w4.heap.size + 1) (w4.alloc (.cells #[.slice A4x X.es.length n4x, .slice B4x X.ks.length m4x, .slice D4x S.length k4x] 29)) w6) := hid (Below.trans (hbr5.out.trans (by go_grown)) (hb.mono (by first | omega | (simp; done) | (simp; omega)))); have hsr6 := HS_1.out _ hbr6.out; have hch5_6 : Hid (Below w5.heap.size w5 w6) := hid (Below.trans (by go_grown) (hb.mono (by first | omega | (simp; done) | (simp; omega)))); obtain ⟨Ar6, nr6, Br6, mr6, hv1, hv2⟩ := rda_shape hrd6; subst hv1; subst hv2; obtain ⟨Dr6, kr6, hv3⟩ := hsl6.shape; subst hv3; have HR6 := hid hrd6; have HL6 := hid hsl6; clear hrd6 hsl6; (first | (have HG6 : Hid (w6.heap[w5.heap.size]? = some (.cells #[.slice none 0 0, .slice none 0 0, .slice none 0 0] 29 (0, 0))) := hid (z_newS hb); have k0 : w6.cell? ⟨w5.heap.size, 0, none⟩ = some (.slice none 0 0) := cell_cells (i := 0) HG6.out; have k1 : w6.cell? ⟨w5.heap.size, 1, none⟩ = some (.slice none 0 0) := cell_cells (i := 1) HG6.out; have k2 : w6.cell? ⟨w5.heap.size, 2, none⟩ = some (.slice none 0 0) := cell_cells (i := 2) HG6.out; have z0 := cells_frz (i := 0) HG6.out; have z1 := cells_frz (i := 1) HG6.out; have z2 := cells_frz (i := 2) HG6.out; have hna0 : w.heap.size ≠ w5.heap.size := (by omega); have hnb0 : w5.heap.size ≠ w.heap.size := (by omega); have hna1 : (w.heap.size + 1) ≠ w5.heap.size := (by omega); have hnb1 : w5.heap.size ≠ (w.heap.size + 1) := (by omega); have hna2 : w4.heap.size ≠ w5.heap.size := (by omega); have hnb2 : w5.heap.size ≠ w4.heap.size := (by omega)) | (have HG6 : Hid (w6.heap[(w5.heap.size + 1)]? = some (.cells #[.slice none 0 0, .slice none 0 0, .slice none 0 0] 29 (0, 0))) := hid (z_new2 hb); have k0 : w6.cell? ⟨(w5.heap.size + 1), 0, none⟩ = some (.slice none 0 0) := cell_cells (i := 0) HG6.out; have k1 : w6.cell? ⟨(w5.heap.size + 1), 1, none⟩ = some (.slice none 0 0) := cell_cells (i := 1) HG6.out; have k2 : w6.cell? ⟨(w5.heap.size + 1), 2, none⟩ = some (.slice none 0 0) := cell_cells (i := 2) HG6.out; have z0 := cells_frz (i := 0) HG6.out; have z1 := cells_frz (i := 1) HG6.out; have z2 := cells_frz (i := 2) HG6.out; have hna0 : w.heap.size ≠ (w5.heap.size + 1) := (by omega); have hnb0 : (w5.heap.size + 1) ≠ w.heap.size := (by omega); have hna1 : (w.heap.size + 1) ≠ (w5.heap.size + 1) := (by omega); have hnb1 : (w5.heap.size + 1) ≠ (w.heap.size + 1) := (by omega); have hna2 : w4.heap.size ≠ (w5.heap.size + 1) := (by omega); have hnb2 : (w5.heap.size + 1) ≠ w4.heap.size := (by omega)) | (have HG6 : Hid (w6.heap[(w4.heap.size + 1)]? = some (.cells #[.slice none 0 0, .slice none 0 0, .slice none 0 0] 29 (0, 0))) := hid ((hb.block _ (by have := lt_of_block HGA.out; first | omega | (simp; omega))).trans ((heap_old (lt_of_block HGA.out)).trans HGA.out)); have k0 : w6.cell? ⟨(w4.heap.size + 1), 0, none⟩ = some (.slice none 0 0) := cell_cells (i := 0) HG6.out; have k1 : w6.cell? ⟨(w4.heap.size + 1), 1, none⟩ = some (.slice none 0 0) := cell_cells (i := 1) HG6.out; have k2 : w6.cell? ⟨(w4.heap.size + 1), 2, none⟩ = some (.slice none 0 0) := cell_cells (i := 2) HG6.out; have z0 := cells_frz (i := 0) HG6.out; have z1 := cells_frz (i := 1) HG6.out; have z2 := cells_frz (i := 2) HG6.out; have hna0 : w.heap.size ≠ (w4.heap.size + 1) := (by omega); have hnb0 : (w4.heap.size + 1) ≠ w.heap.size := (by omega); have hna1 : (w.heap.size + 1) ≠ (w4.heap.size + 1) := (by omega); have hnb1 : (w4.heap.size + 1) ≠ (w.heap.size + 1) := (by omega); have hna2 : w4.heap.size ≠ (w4.heap.size + 1) := (by omega); have hnb2 : (w4.heap.size + 1) ≠ w4.heap.size := (by omega)) | skip); clear hb))
              | (go_at_call 47; go_loud ((refine (r10known_any t _ _ _ (Hrt0_1.out _ (by go_grown)) (by omega) HN.out).mono ?_); rintro e w5 ⟨vc5, rfl, hsl5, hb⟩; have hbr5 : Hid (Below (w4.heap.size + 1) (w4.alloc (.cells #[.slice A4x X.es.length n4x, .slice B4x X.ks.length m4x, .slice D4x S.length k4x] 29)) w5) := hid (Below.trans (by go_grown) (hb.mono (by first | omega | (simp; done) | (simp; omega)))); have hsr5 := HS_1.out _ hbr5.out; (first | (have HGA : Hid (w5.heap[(w4.heap.size + 1)]? = some (.cells #[.slice none 0 0, .slice none 0 0, .slice none 0 0] 29 (0, 0))) := hid (z_new2D hb)) | (have HGA : Hid (w5.heap[(w4.heap.size + 1)]? = some (.cells #[.slice none 0 0, .slice none 0 0, .slice none 0 0] 29 (0, 0))) := hid (z_newD hb)) | (have HGA : Hid (w5.heap[(w4.heap.size + 1)]? = some (.cells #[.slice none 0 0, .slice none 0 0, .slice none 0 0] 29 (0, 0))) := hid (z_new2 hb)) | (have HGA : Hid (w5.heap[(w4.heap.size + 1)]? = some (.cells #[.slice none 0 0, .slice none 0 0, .slice none 0 0] 29 (0, 0))) := hid (z_new hb)) | skip); obtain ⟨Dr5, kr5, hv3⟩ := hsl5.shape; subst hv3; have HL5 := hid hsl5; clear hsl5; have HLK : Hid (∀ W, Below w5.heap.size w5 W → SlP W W.heap.size 3 SpE (.slice Dr5 ((ctxOf t.dots)).length kr5) (ctxOf t.dots)) := fun W hW => HL5.out.slp (fun b hb => hb.2) hW; clear hb)))
          all_goals
            go_wp2_with fail
            go_meet
            case rel => exact ⟨rfl, (by first | exact box_new hbr6.out (HS_1.out _ hbr6.out) HR6.out HL6.out | exact box_set HG6.out hbr6.out (by omega) (by first | (simp; done) | (simp; omega) | exact lt_of_block HGA.out | (have := lt_of_block HGA.out; simp; omega)) HR6.out HL6.out)⟩
        case rest =>
          obtain ⟨rfl, g7, xe7, xk7, xc7, rfl, hG7, hrd7, hsl7, hbz⟩ := hcut
          obtain ⟨A7x, n7x, B7x, m7x, rfl, rfl⟩ := rd_shape hrd7
          obtain ⟨D7x, k7x, rfl, _⟩ := id hsl7
          have hlg7 := lt_of_block hG7
          obtain ⟨wq7, hwq7⟩ : ∃ z : World, z = wc := ⟨wc, rfl⟩
          subst hwq7
          have HSZ7 : Hid ((w4.heap.size + 1) ≤ wq7.heap.size) := HS_1.out _ hbz
          have HX2 : Hid (∀ W, Below wq7.heap.size wq7 W → (wq7.heap.size ≤ (W).heap.size ∧ T.rd W (W).heap.size (.slice A7x T.es.length n7x) (.slice B7x T.ks.length m7x) ∧ SlP W (W).heap.size 3 SpE (.slice D7x U.length k7x) U ∧ (W).cell? ⟨g7, 0, none⟩ = some (.slice A7x T.es.length n7x) ∧ (W).cell? ⟨g7, 1, none⟩ = some (.slice B7x T.ks.length m7x) ∧ (W).cell? ⟨g7, 2, none⟩ = some (.slice D7x U.length k7x) ∧ w4.heap.size + 1 ≤ (W).heap.size ∧ X.rd W (W).heap.size (.slice A4x X.es.length n4x) (.slice B4x X.ks.length m4x) ∧ SlP W (W).heap.size 3 SpE (.slice D4x S.length k4x) S ∧ (W).cell? ⟨w4.heap.size, 0, none⟩ = some (.slice A4x X.es.length n4x) ∧ (W).cell? ⟨w4.heap.size, 1, none⟩ = some (.slice B4x X.ks.length m4x) ∧ (W).cell? ⟨w4.heap.size, 2, none⟩ = some (.slice D4x S.length k4x) ∧ Below w.heap.size w W ∧ w.heap.size + 2 ≤ (W).heap.size ∧ t.rd W (W).heap.size (.slice A0 t.es.length n0) (.slice B0 t.ks.length m0) ∧ (W).cell? ⟨w.heap.size, 0, none⟩ = some (.slice A0 t.es.length n0) ∧ (W).cell? ⟨w.heap.size, 1, none⟩ = some (.slice B0 t.ks.length m0) ∧ (W).cell? ⟨(w.heap.size + 1), 0, none⟩ = some (.int .i64 d.dc) ∧ (W).cell? ⟨(w.heap.size + 1), 1, none⟩ = some (.int .i64 d.n))) := fun W hW => by
            have g0 := (hW.block g7 hlg7).trans hG7
            exact ⟨hW.size, rd_below hW hW.size _ _ _ hrd7, hsl7.imp hW hW.size (fun _ _ _ h => h), cell_cells (i := 0) g0, cell_cells (i := 1) g0, cell_cells (i := 2) g0, HX1.out W (hbz.trans (hW.mono HSZ7.out))⟩
          clear hrd7 hsl7 hG7
          clear hs_x c0_x c1_x c2_x hs c00 c01
          obtain ⟨hs_a, rt_a, rc_a, c0_a, c1_a, c2_a, hs_x, rt_x, rc_x, c0_x, c1_x, c2_x, hB, hs, rt0, c00, c01, c20, c21⟩ := HX2.out _ (Below.refl _ _)
          go_upto_region 5 with (fail)
          have HK2 : Hid (∀ W, Below wq7.heap.size wq7 W → ((W).cell? ⟨w4.heap.size, 0, none⟩ = some (.slice A4x X.es.length n4x) ∧ (W).cell? ⟨w4.heap.size, 1, none⟩ = some (.slice B4x X.ks.length m4x) ∧ (W).cell? ⟨w4.heap.size, 2, none⟩ = some (.slice D4x S.length k4x) ∧ (W).cell? ⟨w.heap.size, 0, none⟩ = some (.slice A0 t.es.length n0) ∧ (W).cell? ⟨w.heap.size, 1, none⟩ = some (.slice B0 t.ks.length m0))) := fun W hW => by
            obtain ⟨_, _, _, _, _, _, _, _, _, z_c0_x, z_c1_x, z_c2_x, _, _, _, z_c00, z_c01, _, _⟩ := HX2.out W hW
            exact ⟨z_c0_x, z_c1_x, z_c2_x, z_c00, z_c01⟩
          have Hrt_a_2 : Hid (∀ W, Below wq7.heap.size wq7 W → T.rd W (W).heap.size (.slice A7x T.es.length n7x) (.slice B7x T.ks.length m7x)) := fun W hW => by
            obtain ⟨_, z, _, _, _, _, _, _, _, _, _, _, _, _, _, _, _, _, _⟩ := HX2.out W hW
            exact z
          have Hrc_a_2 : Hid (∀ W, Below wq7.heap.size wq7 W → SlP W (W).heap.size 3 SpE (.slice D7x U.length k7x) U) := fun W hW => by
            obtain ⟨_, _, z, _, _, _, _, _, _, _, _, _, _, _, _, _, _, _, _⟩ := HX2.out W hW
            exact z
          have Hrt_x_2 : Hid (∀ W, Below wq7.heap.size wq7 W → X.rd W (W).heap.size (.slice A4x X.es.length n4x) (.slice B4x X.ks.length m4x)) := fun W hW => by
            obtain ⟨_, _, _, _, _, _, _, z, _, _, _, _, _, _, _, _, _, _, _⟩ := HX2.out W hW
            exact z
          have Hrc_x_2 : Hid (∀ W, Below wq7.heap.size wq7 W → SlP W (W).heap.size 3 SpE (.slice D4x S.length k4x) S) := fun W hW => by
            obtain ⟨_, _, _, _, _, _, _, _, z, _, _, _, _, _, _, _, _, _, _⟩ := HX2.out W hW
            exact z
          have Hrt0_2 : Hid (∀ W, Below wq7.heap.size wq7 W → t.rd W (W).heap.size (.slice A0 t.es.length n0) (.slice B0 t.ks.length m0)) := fun W hW => by
            obtain ⟨_, _, _, _, _, _, _, _, _, _, _, _, _, _, z, _, _, _, _⟩ := HX2.out W hW
            exact z
          have HS_2 : Hid (∀ W, Below wq7.heap.size wq7 W → wq7.heap.size ≤ W.heap.size) := fun W hW => by
            have := hW.size
            first | omega | (simp at this; omega)
          have hsb2 := HS_2.out _ (Below.refl _ _)
          clear rt_a rc_a c0_a c1_a c2_a rt_x rc_x hB rt0 c20 c21
          go_cut [11, 12] (fun s11 s12 wx => s12 = .int .i64 0 ∧ Box3 wq7.heap.size wq7 29 T U s11 wx)
          case first =>
            go_region_held3 (fun W => (W).cell? ⟨w4.heap.size, 0, none⟩ = some (.slice A4x X.es.length n4x) ∧ (W).cell? ⟨w4.heap.size, 1, none⟩ = some (.slice B4x X.ks.length m4x) ∧ (W).cell? ⟨w4.heap.size, 2, none⟩ = some (.slice D4x S.length k4x) ∧ (W).cell? ⟨w.heap.size, 0, none⟩ = some (.slice A0 t.es.length n0) ∧ (W).cell? ⟨w.heap.size, 1, none⟩ = some (.slice B0 t.ks.length m0))
              (first | go_keep | exact HK2.out _ hbr9.out | exact HK2.out _ (hbr9.out.trans (by go_grown)) | exact HK2.out _ hbr8.out | exact HK2.out _ (hbr8.out.trans (by go_grown)) | exact HK2.out _ (by go_grown) | fail)
              (first
                | (go_at_call 29; go_loud ((refine (joinAll_any [(X, S), (t, knC t), (X, S)] _ _ (slp3 (by first | exact heap_new rfl | exact heap_new (by simp) | exact (heap_old (by simp)).trans (heap_new rfl) | exact (heap_old (by simp)).trans (heap_new (by simp))) (kn_at (Hrt_x_2.out _ (hbr8.out.trans (by go_grown))) (Hrc_x_2.out _ (hbr8.out.trans (by go_grown)))) (kn_at (Hrt0_2.out _ (hbr8.out.trans (by go_grown))) (HLK.out _ (by go_grown))) (kn_at (Hrt_x_2.out _ (hbr8.out.trans (by go_grown))) (Hrc_x_2.out _ (hbr8.out.trans (by go_grown)))) (by first | (simp; done) | (simp; omega))) (by simp; omega) (by simp; omega)).mono ?_); rw [HB1.out, HB2.out, HB3.out]; rintro e w9 ⟨xe9, xk9, xc9, rfl, hrd9, hsl9, hb⟩; have hbr9 : Hid (Below wq7.heap.size wq7 w9) := hid (Below.trans (hbr8.out.trans (by go_grown)) (hb.mono (by first | omega | (simp; done) | (simp; omega)))); have hsr9 := HS_2.out _ hbr9.out; have hch8_9 : Hid (Below w8.heap.size w8 w9) := hid (Below.trans (by go_grown) (hb.mono (by first | omega | (simp; done) | (simp; omega)))); obtain ⟨Ar9, nr9, Br9, mr9, hv1, hv2⟩ := rda_shape hrd9; subst hv1; subst hv2; obtain ⟨Dr9, kr9, hv3⟩ := hsl9.shape; subst hv3; have HR9 := hid hrd9; have HL9 := hid hsl9; clear hrd9 hsl9; (first | (have HG9 : Hid (w9.heap[w8.heap.size]? = some (.cells #[.slice none 0 0, .slice none 0 0, .slice none 0 0] 29 (0, 0))) := hid (z_newS hb); have k0 : w9.cell? ⟨w8.heap.size, 0, none⟩ = some (.slice none 0 0) := cell_cells (i := 0) HG9.out; have k1 : w9.cell? ⟨w8.heap.size, 1, none⟩ = some (.slice none 0 0) := cell_cells (i := 1) HG9.out; have k2 : w9.cell? ⟨w8.heap.size, 2, none⟩ = some (.slice none 0 0) := cell_cells (i := 2) HG9.out; have z0 := cells_frz (i := 0) HG9.out; have z1 := cells_frz (i := 1) HG9.out; have z2 := cells_frz (i := 2) HG9.out; have hna0 : w.heap.size ≠ w8.heap.size := (by omega); have hnb0 : w8.heap.size ≠ w.heap.size := (by omega); have hna1 : (w.heap.size + 1) ≠ w8.heap.size := (by omega); have hnb1 : w8.heap.size ≠ (w.heap.size + 1) := (by omega); have hna2 : w4.heap.size ≠ w8.heap.size := (by omega); have hnb2 : w8.heap.size ≠ w4.heap.size := (by omega); have hna3 : g7 ≠ w8.heap.size := (by omega); have hnb3 : w8.heap.size ≠ g7 := (by omega)) | (have HG9 : Hid (w9.heap[(w8.heap.size + 1)]? = some (.cells #[.slice none 0 0, .slice none 0 0, .slice none 0 0] 29 (0, 0))) := hid (z_new2 hb); have k0 : w9.cell? ⟨(w8.heap.size + 1), 0, none⟩ = some (.slice none 0 0) := cell_cells (i := 0) HG9.out; have k1 : w9.cell? ⟨(w8.heap.size + 1), 1, none⟩ = some (.slice none 0 0) := cell_cells (i := 1) HG9.out; have k2 : w9.cell? ⟨(w8.heap.size + 1), 2, none⟩ = some (.slice none 0 0) := cell_cells (i := 2) HG9.out; have z0 := cells_frz (i := 0) HG9.out; have z1 := cells_frz (i := 1) HG9.out; have z2 := cells_frz (i := 2) HG9.out; have hna0 : w.heap.size ≠ (w8.heap.size + 1) := (by omega); have hnb0 : (w8.heap.size + 1) ≠ w.heap.size := (by omega); have hna1 : (w.heap.size + 1) ≠ (w8.heap.size + 1) := (by omega); have hnb1 : (w8.heap.size + 1) ≠ (w.heap.size + 1) := (by omega); have hna2 : w4.heap.size ≠ (w8.heap.size + 1) := (by omega); have hnb2 : (w8.heap.size + 1) ≠ w4.heap.size := (by omega); have hna3 : g7 ≠ (w8.heap.size + 1) := (by omega); have hnb3 : (w8.heap.size + 1) ≠ g7 := (by omega)) | (have HG9 : Hid (w9.heap[wq7.heap.size]? = some (.cells #[.slice none 0 0, .slice none 0 0, .slice none 0 0] 29 (0, 0))) := hid ((hb.block _ (by have := lt_of_block HGA.out; first | omega | (simp; omega))).trans ((heap_old (lt_of_block HGA.out)).trans HGA.out)); have k0 : w9.cell? ⟨wq7.heap.size, 0, none⟩ = some (.slice none 0 0) := cell_cells (i := 0) HG9.out; have k1 : w9.cell? ⟨wq7.heap.size, 1, none⟩ = some (.slice none 0 0) := cell_cells (i := 1) HG9.out; have k2 : w9.cell? ⟨wq7.heap.size, 2, none⟩ = some (.slice none 0 0) := cell_cells (i := 2) HG9.out; have z0 := cells_frz (i := 0) HG9.out; have z1 := cells_frz (i := 1) HG9.out; have z2 := cells_frz (i := 2) HG9.out; have hna0 : w.heap.size ≠ wq7.heap.size := (by omega); have hnb0 : wq7.heap.size ≠ w.heap.size := (by omega); have hna1 : (w.heap.size + 1) ≠ wq7.heap.size := (by omega); have hnb1 : wq7.heap.size ≠ (w.heap.size + 1) := (by omega); have hna2 : w4.heap.size ≠ wq7.heap.size := (by omega); have hnb2 : wq7.heap.size ≠ w4.heap.size := (by omega); have hna3 : g7 ≠ wq7.heap.size := (by omega); have hnb3 : wq7.heap.size ≠ g7 := (by omega)) | skip); clear hb))
                | (go_at_call 47; go_loud ((refine (r10known_any t _ _ _ (Hrt0_2.out _ (by go_grown)) (by omega) HN.out).mono ?_); rintro e w8 ⟨vc8, rfl, hsl8, hb⟩; have hbr8 : Hid (Below wq7.heap.size wq7 w8) := hid (Below.trans (by go_grown) (hb.mono (by first | omega | (simp; done) | (simp; omega)))); have hsr8 := HS_2.out _ hbr8.out; (first | (have HGA : Hid (w8.heap[wq7.heap.size]? = some (.cells #[.slice none 0 0, .slice none 0 0, .slice none 0 0] 29 (0, 0))) := hid (z_new2D hb)) | (have HGA : Hid (w8.heap[wq7.heap.size]? = some (.cells #[.slice none 0 0, .slice none 0 0, .slice none 0 0] 29 (0, 0))) := hid (z_newD hb)) | (have HGA : Hid (w8.heap[wq7.heap.size]? = some (.cells #[.slice none 0 0, .slice none 0 0, .slice none 0 0] 29 (0, 0))) := hid (z_new2 hb)) | (have HGA : Hid (w8.heap[wq7.heap.size]? = some (.cells #[.slice none 0 0, .slice none 0 0, .slice none 0 0] 29 (0, 0))) := hid (z_new hb)) | skip); obtain ⟨Dr8, kr8, hv3⟩ := hsl8.shape; subst hv3; have HL8 := hid hsl8; clear hsl8; have HLK : Hid (∀ W, Below w8.heap.size w8 W → SlP W W.heap.size 3 SpE (.slice Dr8 ((ctxOf t.dots)).length kr8) (ctxOf t.dots)) := fun W hW => HL8.out.slp (fun b hb => hb.2) hW; clear hb)))
            all_goals
              go_wp2_with fail
              go_meet
              case rel => exact ⟨rfl, (by first | exact box_new hbr9.out (HS_2.out _ hbr9.out) HR9.out HL9.out | exact box_set HG9.out hbr9.out (by omega) (by first | (simp; done) | (simp; omega) | exact lt_of_block HGA.out | (have := lt_of_block HGA.out; simp; omega)) HR9.out HL9.out)⟩
          case rest =>
            obtain ⟨rfl, g10, xe10, xk10, xc10, rfl, hG10, hrd10, hsl10, hbz⟩ := hcut
            obtain ⟨A10x, n10x, B10x, m10x, rfl, rfl⟩ := rd_shape hrd10
            obtain ⟨D10x, k10x, rfl, _⟩ := id hsl10
            have hlg10 := lt_of_block hG10
            obtain ⟨wq10, hwq10⟩ : ∃ z : World, z = wc := ⟨wc, rfl⟩
            subst hwq10
            have HSZ10 : Hid (wq7.heap.size ≤ wq10.heap.size) := HS_2.out _ hbz
            have HX3 : Hid (∀ W, Below wq10.heap.size wq10 W → (wq10.heap.size ≤ (W).heap.size ∧ T.rd W (W).heap.size (.slice A10x T.es.length n10x) (.slice B10x T.ks.length m10x) ∧ SlP W (W).heap.size 3 SpE (.slice D10x U.length k10x) U ∧ (W).cell? ⟨g10, 0, none⟩ = some (.slice A10x T.es.length n10x) ∧ (W).cell? ⟨g10, 1, none⟩ = some (.slice B10x T.ks.length m10x) ∧ (W).cell? ⟨g10, 2, none⟩ = some (.slice D10x U.length k10x) ∧ wq7.heap.size ≤ (W).heap.size ∧ T.rd W (W).heap.size (.slice A7x T.es.length n7x) (.slice B7x T.ks.length m7x) ∧ SlP W (W).heap.size 3 SpE (.slice D7x U.length k7x) U ∧ (W).cell? ⟨g7, 0, none⟩ = some (.slice A7x T.es.length n7x) ∧ (W).cell? ⟨g7, 1, none⟩ = some (.slice B7x T.ks.length m7x) ∧ (W).cell? ⟨g7, 2, none⟩ = some (.slice D7x U.length k7x) ∧ w4.heap.size + 1 ≤ (W).heap.size ∧ X.rd W (W).heap.size (.slice A4x X.es.length n4x) (.slice B4x X.ks.length m4x) ∧ SlP W (W).heap.size 3 SpE (.slice D4x S.length k4x) S ∧ (W).cell? ⟨w4.heap.size, 0, none⟩ = some (.slice A4x X.es.length n4x) ∧ (W).cell? ⟨w4.heap.size, 1, none⟩ = some (.slice B4x X.ks.length m4x) ∧ (W).cell? ⟨w4.heap.size, 2, none⟩ = some (.slice D4x S.length k4x) ∧ Below w.heap.size w W ∧ w.heap.size + 2 ≤ (W).heap.size ∧ t.rd W (W).heap.size (.slice A0 t.es.length n0) (.slice B0 t.ks.length m0) ∧ (W).cell? ⟨w.heap.size, 0, none⟩ = some (.slice A0 t.es.length n0) ∧ (W).cell? ⟨w.heap.size, 1, none⟩ = some (.slice B0 t.ks.length m0) ∧ (W).cell? ⟨(w.heap.size + 1), 0, none⟩ = some (.int .i64 d.dc) ∧ (W).cell? ⟨(w.heap.size + 1), 1, none⟩ = some (.int .i64 d.n))) := fun W hW => by
              have g0 := (hW.block g10 hlg10).trans hG10
              exact ⟨hW.size, rd_below hW hW.size _ _ _ hrd10, hsl10.imp hW hW.size (fun _ _ _ h => h), cell_cells (i := 0) g0, cell_cells (i := 1) g0, cell_cells (i := 2) g0, HX2.out W (hbz.trans (hW.mono HSZ10.out))⟩
            clear hrd10 hsl10 hG10
            clear hs_a hs_x c0_x c1_x c2_x hs c00 c01
            obtain ⟨hs_b, rt_b, rc_b, c0_b, c1_b, c2_b, hs_a, rt_a, rc_a, c0_a, c1_a, c2_a, hs_x, rt_x, rc_x, c0_x, c1_x, c2_x, hB, hs, rt0, c00, c01, c20, c21⟩ := HX3.out _ (Below.refl _ _)
            have hwr : IntKind.i64.wrap (V + n) = V + n := IntWalk.i64_in _ (by omega)
            go_upto_region 6 with (fail)
            have HK3 : Hid (∀ W, Below wq10.heap.size wq10 W → ((W).cell? ⟨g10, 0, none⟩ = some (.slice A10x T.es.length n10x) ∧ (W).cell? ⟨g10, 1, none⟩ = some (.slice B10x T.ks.length m10x) ∧ (W).cell? ⟨g10, 2, none⟩ = some (.slice D10x U.length k10x) ∧ (W).cell? ⟨g7, 0, none⟩ = some (.slice A7x T.es.length n7x) ∧ (W).cell? ⟨g7, 1, none⟩ = some (.slice B7x T.ks.length m7x) ∧ (W).cell? ⟨g7, 2, none⟩ = some (.slice D7x U.length k7x) ∧ (W).cell? ⟨w.heap.size, 0, none⟩ = some (.slice A0 t.es.length n0) ∧ (W).cell? ⟨w.heap.size, 1, none⟩ = some (.slice B0 t.ks.length m0))) := fun W hW => by
              obtain ⟨_, _, _, z_c0_b, z_c1_b, z_c2_b, _, _, _, z_c0_a, z_c1_a, z_c2_a, _, _, _, _, _, _, _, _, _, z_c00, z_c01, _, _⟩ := HX3.out W hW
              exact ⟨z_c0_b, z_c1_b, z_c2_b, z_c0_a, z_c1_a, z_c2_a, z_c00, z_c01⟩
            have Hrt_b_3 : Hid (∀ W, Below wq10.heap.size wq10 W → T.rd W (W).heap.size (.slice A10x T.es.length n10x) (.slice B10x T.ks.length m10x)) := fun W hW => by
              obtain ⟨_, z, _, _, _, _, _, _, _, _, _, _, _, _, _, _, _, _, _, _, _, _, _, _, _⟩ := HX3.out W hW
              exact z
            have Hrc_b_3 : Hid (∀ W, Below wq10.heap.size wq10 W → SlP W (W).heap.size 3 SpE (.slice D10x U.length k10x) U) := fun W hW => by
              obtain ⟨_, _, z, _, _, _, _, _, _, _, _, _, _, _, _, _, _, _, _, _, _, _, _, _, _⟩ := HX3.out W hW
              exact z
            have Hrt_a_3 : Hid (∀ W, Below wq10.heap.size wq10 W → T.rd W (W).heap.size (.slice A7x T.es.length n7x) (.slice B7x T.ks.length m7x)) := fun W hW => by
              obtain ⟨_, _, _, _, _, _, _, z, _, _, _, _, _, _, _, _, _, _, _, _, _, _, _, _, _⟩ := HX3.out W hW
              exact z
            have Hrc_a_3 : Hid (∀ W, Below wq10.heap.size wq10 W → SlP W (W).heap.size 3 SpE (.slice D7x U.length k7x) U) := fun W hW => by
              obtain ⟨_, _, _, _, _, _, _, _, z, _, _, _, _, _, _, _, _, _, _, _, _, _, _, _, _⟩ := HX3.out W hW
              exact z
            have Hrt_x_3 : Hid (∀ W, Below wq10.heap.size wq10 W → X.rd W (W).heap.size (.slice A4x X.es.length n4x) (.slice B4x X.ks.length m4x)) := fun W hW => by
              obtain ⟨_, _, _, _, _, _, _, _, _, _, _, _, _, z, _, _, _, _, _, _, _, _, _, _, _⟩ := HX3.out W hW
              exact z
            have Hrc_x_3 : Hid (∀ W, Below wq10.heap.size wq10 W → SlP W (W).heap.size 3 SpE (.slice D4x S.length k4x) S) := fun W hW => by
              obtain ⟨_, _, _, _, _, _, _, _, _, _, _, _, _, _, z, _, _, _, _, _, _, _, _, _, _⟩ := HX3.out W hW
              exact z
            have Hrt0_3 : Hid (∀ W, Below wq10.heap.size wq10 W → t.rd W (W).heap.size (.slice A0 t.es.length n0) (.slice B0 t.ks.length m0)) := fun W hW => by
              obtain ⟨_, _, _, _, _, _, _, _, _, _, _, _, _, _, _, _, _, _, _, _, z, _, _, _, _⟩ := HX3.out W hW
              exact z
            have HS_3 : Hid (∀ W, Below wq10.heap.size wq10 W → wq10.heap.size ≤ W.heap.size) := fun W hW => by
              have := hW.size
              first | omega | (simp at this; omega)
            have hsb3 := HS_3.out _ (Below.refl _ _)
            clear rt_b rc_b rt_a rc_a rt_x rc_x c0_x c1_x c2_x hB rt0 c20 c21
            go_region_held3 (fun W => (W).cell? ⟨g10, 0, none⟩ = some (.slice A10x T.es.length n10x) ∧ (W).cell? ⟨g10, 1, none⟩ = some (.slice B10x T.ks.length m10x) ∧ (W).cell? ⟨g10, 2, none⟩ = some (.slice D10x U.length k10x) ∧ (W).cell? ⟨g7, 0, none⟩ = some (.slice A7x T.es.length n7x) ∧ (W).cell? ⟨g7, 1, none⟩ = some (.slice B7x T.ks.length m7x) ∧ (W).cell? ⟨g7, 2, none⟩ = some (.slice D7x U.length k7x) ∧ (W).cell? ⟨w.heap.size, 0, none⟩ = some (.slice A0 t.es.length n0) ∧ (W).cell? ⟨w.heap.size, 1, none⟩ = some (.slice B0 t.ks.length m0))
              (first | go_keep | exact HK3.out _ hbr13.out | exact HK3.out _ (hbr13.out.trans (by go_grown)) | exact HK3.out _ hbr12.out | exact HK3.out _ (hbr12.out.trans (by go_grown)) | exact HK3.out _ hbr11.out | exact HK3.out _ (hbr11.out.trans (by go_grown)) | exact HK3.out _ (by go_grown) | fail)
              (first
                | (go_at_call 31; go_loud ((refine (csame_any U U T T _ _ _ _ _ _ _ (Hrt_a_3.out _ (hbr12.out.trans (by go_grown))) (Hrt_b_3.out _ (hbr12.out.trans (by go_grown))) (Hrc_a_3.out _ (hbr12.out.trans (by go_grown))) (Hrc_b_3.out _ (hbr12.out.trans (by go_grown))) (by omega) (by omega) (by omega) (by omega)).mono ?_); rw [HSM.out]; rintro e w13 ⟨rfl, hb⟩; have hbr13 : Hid (Below wq10.heap.size wq10 w13) := hid (Below.trans (hbr12.out.trans (by go_grown)) (hb.mono (by first | omega | (simp; done) | (simp; omega)))); have hsr13 := HS_3.out _ hbr13.out; have hch12_13 : Hid (Below w12.heap.size w12 w13) := hid (Below.trans (by go_grown) (hb.mono (by first | omega | (simp; done) | (simp; omega)))); have hch11_13 : Hid (Below w11.heap.size w11 w13) := hid (hch11_12.out.trans (hch12_13.out.mono hch11_12.out.size)); clear hb))
                | (go_at_call 54; go_loud ((refine (r10sum_any t _ _ _ (Hrt0_3.out _ (hbr11.out.trans (by go_grown)))).mono ?_); rw [HSU.out]; rintro e w12 ⟨rfl, hb⟩; have hbr12 : Hid (Below wq10.heap.size wq10 w12) := hid (Below.trans (hbr11.out.trans (by go_grown)) (hb.mono (by first | omega | (simp; done) | (simp; omega)))); have hsr12 := HS_3.out _ hbr12.out; have hch11_12 : Hid (Below w11.heap.size w11 w12) := hid (Below.trans (by go_grown) (hb.mono (by first | omega | (simp; done) | (simp; omega)))); clear hb))
                | (go_at_call 53; go_loud ((refine (cvalue_any T _ _ _ (Hrt_a_3.out _ (by go_grown))).mono ?_); rw [HVL.out]; rintro e w11 ⟨rfl, hb⟩; have hbr11 : Hid (Below wq10.heap.size wq10 w11) := hid (Below.trans (by go_grown) (hb.mono (by first | omega | (simp; done) | (simp; omega)))); have hsr11 := HS_3.out _ hbr11.out; clear hb)))
            all_goals (
              obtain ⟨hs_b, rt_b, rc_b, c0_b, c1_b, c2_b, hs_a, rt_a, rc_a, c0_a, c1_a, c2_a, hs_x, rt_x, rc_x, c0_x, c1_x, c2_x, hB, hs, rt0, c00, c01, c20, c21⟩ := HX3.out _ hbr13.out
              clear hwr
              go_wp2_with fail
              go_ret
              exact ⟨rfl, hB⟩)
end Go.Proofs.YtkjijbogbelilaaGreat
