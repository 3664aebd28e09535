/- What the laws need, the last part. No condition but those that each lemma states. -/
import Derived.Deep.CutBlock
import Derived.Deep.Slices
import Derived.ProofKit
import Derived.SizedLaws
import Derived.Test.YtlapdmgjfdelnaaGreatProg
import Derived.Test.YtlapdmgjfdelnaaGreatRows
import Derived.Test.YtlapdmgjfdelnaaGreatRm9
namespace Go.Proofs.YtlapdmgjfdelnaaGreat
open Go.RowKit
set_option maxRecDepth 100000
theorem app_err {t : Tr} {o : Opr} {d : Dt} (h : appI t o d ≠ 0) : appT t o d = .mk [] [] ∧ appC t o d = [] := by
 unfold appT appC
 exact ⟨if_neg fun q => h q.1, if_neg h⟩
theorem leafX_sz (u : Tr) (o : Opr) (d : Dt) (hz : u.sz ≤ 200) : (leafX u o d).1.sz ≤ 2 ∧ (leafX u o d).2.1.length ≤ 8000 := by
 have s0 : (Tr.mk [] []).sz = 0 := by simp [Tr.sz, Tr.szL]
 have s1 : ∀ e : En, (Tr.mk [e] []).sz = 1 := fun e => by simp [Tr.sz, Tr.szL]
 have s2 : ∀ (k : ByteArray) (e : En), (Tr.mk [] [(k, .mk [e] [])]).sz = 2 := fun k e => by simp [Tr.sz, Tr.szL]
 have h1 := seenC_len u d
 have h2 := seenC_len (kidT u o.s) d
 have h3 := kidT_sz u o.s
 have h6 : (ownD u).length ≤ u.sz := by unfold ownD; rw [List.length_map]; have := es_sz u; omega
 have h4 : (ctxOf [d]).length ≤ 8 := by have := ctxOf_len [d]; simpa using this
 have h5 : (ctxOf (d :: ownD u)).length ≤ 4 * (u.sz + 2) := by have := ctxOf_len (d :: ownD u); rw [List.length_cons] at this; omega
 have e1 : ∀ (b : Prop) [Decidable b] (X Y : Tr), (X.sz ≤ 2) → (Y.sz ≤ 2) → (if b then X else Y).sz ≤ 2 := fun b _ X Y h k => by split <;> assumption
 have e2 : ∀ (b : Prop) [Decidable b] (X : List Sp), X.length ≤ 8000 → (if b then X else []).length ≤ 8000 := fun b _ X h => by split; exact h; simp
 have c1 : ∀ e : En, (Tr.mk [e] []).sz ≤ 2 := fun e => by rw [s1]; omega
 have c2 : ∀ (k : ByteArray) (e : En), (Tr.mk [] [(k, .mk [e] [])]).sz ≤ 2 := fun k e => by rw [s2]; omega
 have c0 : (Tr.mk [] []).sz ≤ 2 := by rw [s0]; omega
 unfold leafX
 split
 ·exact ⟨e1 _ _ _ (c1 _) c0, e2 _ _ (by omega)⟩
 split
 ·exact ⟨c0, e2 _ _ (by omega)⟩
 split
 ·exact ⟨e1 _ _ _ (c2 _ _) c0, e2 _ _ (by omega)⟩
 split
 ·exact ⟨c0, e2 _ _ (by omega)⟩
 split
 ·exact ⟨e1 _ _ _ (c1 _) c0, e2 _ (ctxOf [d]) (Nat.le_trans h4 (by omega))⟩
 split
 ·exact ⟨e1 _ _ _ (c1 _) c0, e2 _ (ctxOf (d :: ownD u)) (Nat.le_trans h5 (by omega))⟩
 ·exact ⟨c0, e2 _ _ (by omega)⟩
theorem updX_sz (t : Tr) (p : List ByteArray) (i : Nat) (x : Tr × List Sp × Int) : (updX t p i x).1.sz ≤ x.1.sz + 1 ∧ (updX t p i x).2.1.length ≤ x.2.1.length := by
 have s0 : (Tr.mk [] []).sz = 0 := by simp [Tr.sz, Tr.szL]
 unfold updX updT updC wrapT
 constructor
 ·simp only
  split
  ·split
   ·split
    ·omega
    ·simp [Tr.sz, Tr.szL]; omega
   ·omega
  ·omega
 ·simp only
  split
  ·exact Nat.le_refl _
  ·simp
def BoxG (m : Nat) (V : World) (e : TypeId) (T : Tr) (c : List Sp) (s : Value) (wx : World) : Prop :=
 ∃ g, s = .pointer (some ⟨g, 0, none⟩) ∧ m ≤ g ∧ ∃ u v x, wx.heap[g]? = some (.cells #[u, v, x] e (0, 0)) ∧ T.rda wx (fun b => m ≤ b ∧ b < wx.heap.size) u v ∧ SlA wx (fun b => m ≤ b ∧ b < wx.heap.size) 3 SpE x c ∧ Below m V wx
theorem boxg_new {m N : Nat} {V w7 : World} {e : TypeId} {T : Tr} {c : List Sp} {u v x : Value} (hb : Below m V w7) (hm : m ≤ w7.heap.size) (hN : m ≤ N) (hr : T.rda w7 (fun b => N ≤ b ∧ b < w7.heap.size) u v) (hc : SlA w7 (fun b => N ≤ b ∧ b < w7.heap.size) 3 SpE x c) :
  BoxG m V e T c (.pointer (some ⟨w7.heap.size, 0, none⟩)) (w7.alloc (.cells #[u, v, x] e)) :=
 ⟨w7.heap.size, rfl, hm, u, v, x, heap_new rfl, rda_up (fun b hb => heap_old hb.2) (fun b hb => ⟨by omega, by rw [World.size_alloc]; omega⟩) _ _ _ hr, hc.up (fun b hb => heap_old hb.2) (fun b hb => ⟨by omega, by rw [World.size_alloc]; omega⟩) (fun _ _ _ h => h), hb.alloc hm _⟩
theorem boxg_set {m N g : Nat} {V w7 : World} {e : TypeId} {T : Tr} {c : List Sp} {u v x a b d : Value} (hbx : w7.heap[g]? = some (.cells #[a, b, d] e (0, 0))) (hb : Below m V w7) (hg : m ≤ g) (hgN : g < N) (hr : T.rda w7 (fun b => N ≤ b ∧ b < w7.heap.size) u v) (hc : SlA w7 (fun b => N ≤ b ∧ b < w7.heap.size) 3 SpE x c) :
  BoxG m V e T c (.pointer (some ⟨g, 0, none⟩)) (((w7.setCell ⟨g, 0, none⟩ u).setCell ⟨g, 1, none⟩ v).setCell ⟨g, 2, none⟩ x) := by
 obtain ⟨_, _, _, hK, hS⟩ := box3 hbx u v x
 have hW := cells_set (i := 2) (cells_set (i := 1) (cells_set (i := 0) hbx u) v) x
 exact ⟨g, rfl, hg, u, v, x, by simpa using hW, rda_up (fun b hb => hK b (by omega)) (fun b hb => ⟨by omega, by rw [hS]; exact hb.2⟩) _ _ _ hr, hc.up (fun b hb => hK b (by omega)) (fun b hb => ⟨by omega, by rw [hS]; exact hb.2⟩) (fun _ _ _ h => h), ((hb.setCell hg _).setCell hg _).setCell hg _⟩
theorem app_total {t : Tr} {o : Opr} {d : Dt} {X : Tr × List Sp × Int} (ho : OpOk o) (hi : opI o = 0) (ht : t.right 5 = true) (hc : chkT t d = true) (hX : X = upLoop t o.path o.path.length (leafX (getK t o.path) o d)) : (X.2.2 = 0 → appT t o d = X.1 ∧ appC t o d = X.2.1 ∧ appI t o d = 0) ∧ (X.2.2 ≠ 0 → appI t o d = X.2.2) := by
 have h := leaf_law ho hc
 rw [← hX] at h
 have hA : appI t o d = if fullB t o then 4 else 0 := by
  unfold appI
  rw [ht, hi, hc]; simp
 cases hf : fullB t o
 ·rw [hf, if_neg (by simp)] at h
  rw [hf, if_neg (by simp)] at hA
  rw [h]
  refine ⟨fun _ => ⟨?_, ?_, hA⟩, fun h => absurd rfl h⟩
  ·unfold appT
   simp only [hA, true_and]
  ·unfold appC
   rw [if_pos hA]
 ·rw [hf, if_pos rfl] at h
  rw [hf, if_pos rfl] at hA
  exact ⟨fun h0 => (by rw [h] at h0; cases h0), fun _ => (by rw [hA, h])⟩
set_option maxHeartbeats 8000000 in
theorem opApply_any (t : Tr) (o : Opr) (d : Dt) (ve vk vp : Value) (w : World) (h : t.rd w w.heap.size ve vk) (hp : SlP w w.heap.size 1 StE vp o.path) (ho : o.Ok) (hd : d.Ok) (hN : t.sz ≤ 200) :
  Calls Tryz.prog 84 #[.agg #[ve, vk], .agg #[vp, .int .i64 o.act, .string o.s, .int .i64 o.n], .agg #[.int .i64 d.dc, .int .i64 d.n]] w (RetCE w (appT t o d) (appC t o d) (appI t o d)) := by
 have HC : Hid (∀ w', Below w.heap.size w w' → t.rd w' w'.heap.size ve vk) := fun w' hb => rd_below hb hb.size _ _ _ h
 have HD : Hid (∀ w', Below w.heap.size w w' → SlP w' w'.heap.size 1 StE vp o.path) := fun w' hb => hp.imp hb hb.size fun _ _ _ h => h
 obtain ⟨A3, n3, A4, n4, rfl, rfl⟩ := rd_shape h
 obtain ⟨A5, n5, rfl, p1, p2, p3⟩ := hp
 unfold Big at p2
 have HO := hid ho
 obtain ⟨oa, on, os⟩ := ho
 obtain ⟨path, act, s, n⟩ := o
 simp only at oa on os p1 p2 p3 HD HO ⊢
 have hb0 := ((((Below.refl w.heap.size w).alloc (Nat.le_refl _) (.cells #[.slice A3 t.es.length n3, .slice A4 t.ks.length n4] 25)).alloc (by simp) (.cells #[.slice A5 path.length n5, .int .i64 act, .string s, .int .i64 n] 67)).alloc (by simp; omega) (.cells #[.int .i64 d.dc, .int .i64 d.n] 52)).alloc (by simp; omega) (.cells #[.slice none 0 0, .slice none 0 0, .slice none 0 0] 29)
 have HX : Hid (∀ W, Below (w.heap.size + 4) ((((w.alloc (.cells #[.slice A3 t.es.length n3, .slice A4 t.ks.length n4] 25)).alloc (.cells #[.slice A5 path.length n5, .int .i64 act, .string s, .int .i64 n] 67)).alloc (.cells #[.int .i64 d.dc, .int .i64 d.n] 52)).alloc (.cells #[.slice none 0 0, .slice none 0 0, .slice none 0 0] 29)) W →
   (Below w.heap.size w W ∧ t.rd W W.heap.size (.slice A3 t.es.length n3) (.slice A4 t.ks.length n4) ∧ SlP W W.heap.size 1 StE (.slice A5 path.length n5) path ∧ W.cell? ⟨w.heap.size, 0, none⟩ = some (.slice A3 t.es.length n3) ∧ W.cell? ⟨w.heap.size, 1, none⟩ = some (.slice A4 t.ks.length n4) ∧ W.cell? ⟨w.heap.size + 1, 0, none⟩ = some (.slice A5 path.length n5) ∧ W.cell? ⟨w.heap.size + 1, 1, none⟩ = some (.int .i64 act) ∧ W.cell? ⟨w.heap.size + 1, 2, none⟩ = some (.string s) ∧ W.cell? ⟨w.heap.size + 1, 3, none⟩ = some (.int .i64 n) ∧
    W.cell? ⟨w.heap.size + 2, 0, none⟩ = some (.int .i64 d.dc) ∧ W.cell? ⟨w.heap.size + 2, 1, none⟩ = some (.int .i64 d.n) ∧ W.heap[w.heap.size + 3]? = some (.cells #[.slice none 0 0, .slice none 0 0, .slice none 0 0] 29 (0, 0)))) := fun W hW => by
  have g0 : W.heap[w.heap.size]? = some (.cells #[.slice A3 t.es.length n3, .slice A4 t.ks.length n4] 25 (0, 0)) := (hW.block _ (by omega)).trans ((heap_old (by simp <;> omega)).trans ((heap_old (by simp <;> omega)).trans ((heap_old (by simp)).trans (heap_new rfl))))
  have g1 : W.heap[w.heap.size + 1]? = some (.cells #[.slice A5 path.length n5, .int .i64 act, .string s, .int .i64 n] 67 (0, 0)) := (hW.block _ (by omega)).trans ((heap_old (by simp <;> omega)).trans ((heap_old (by simp)).trans (heap_new (by simp))))
  have g2 : W.heap[w.heap.size + 2]? = some (.cells #[.int .i64 d.dc, .int .i64 d.n] 52 (0, 0)) := (hW.block _ (by omega)).trans ((heap_old (by simp)).trans (heap_new (by simp)))
  have g3 : W.heap[w.heap.size + 3]? = some (.cells #[.slice none 0 0, .slice none 0 0, .slice none 0 0] 29 (0, 0)) := (hW.block _ (by omega)).trans (heap_new (by simp))
  have hB := hb0.trans (hW.mono (by omega))
  exact ⟨hB, HC.out _ hB, HD.out _ hB, cell_cells (i := 0) g0, cell_cells (i := 1) g0, cell_cells (i := 0) g1, cell_cells (i := 1) g1, cell_cells (i := 2) g1, cell_cells (i := 3) g1, cell_cells (i := 0) g2, cell_cells (i := 1) g2, g3⟩
 clear h
 go_enter Tryz.func84, Tryz.ntmps84
 go_wp2_with fail
 obtain ⟨hB, rt, rp, c0, c1, p4, p5, p6, p7, d0, d1, g3⟩ := HX.out _ (Below.refl _ _)
 refine (tRight_any t _ _ _ rt).mono ?_
 cases ht : t.right 5
 ·rintro e w1 ⟨rfl, hb1⟩
  have HBN := hid (hb1.mono (show w.heap.size + 4 ≤ _ by simp))
  have hAE : appI t ⟨path, act, s, n⟩ d = 1 := by unfold appI; rw [ht]; rfl
  have HAE := hid hAE
  obtain ⟨hAT, hAC⟩ := app_err (t := t) (o := ⟨path, act, s, n⟩) (d := d) (by rw [hAE]; first | decide | assumption)
  have HAT := hid hAT
  have HAC := hid hAC
  clear hAE hAT hAC
  clear hB rt rp c0 c1 p4 p5 p6 p7 d0 d1 g3 ht hb1
  have hG := (HX.out _ HBN.out).2.2.2.2.2.2.2.2.2.2.2
  have hBz := (HX.out _ HBN.out).1
  have HG := hid hG
  have HBZ := hid hBz
  have k0 := cell_cells (i := 0) hG
  have k1 := cell_cells (i := 1) hG
  have k2 := cell_cells (i := 2) hG
  simp only [List.getElem?_toArray, List.getElem?_cons_zero, List.getElem?_cons_succ] at k0 k1 k2
  have z0 := cells_frz (i := 0) hG
  have z1 := cells_frz (i := 1) hG
  have z2 := cells_frz (i := 2) hG
  clear hG hBz
  go_wp2_with fail
  obtain ⟨r0, r1, r2, q1, q2, q3⟩ := box_fin (N := w.heap.size + 4) (T := .mk [] []) (C := []) HG.out HBZ.out (by omega) (by omega) (rda_nil _ _) SlA.nil
  exact bodyPost_ret (v := .tuple #[.agg #[.slice none 0 0, .slice none 0 0, .slice none 0 0], .int .i64 1]) (by simp [results, Tryz.results84, go_sem, r0, r1, r2] <;> rfl) rfl ⟨_, _, _, by rw [HAE.out], by rw [HAT.out]; exact q1, by rw [HAC.out]; exact q2, q3⟩
 rintro e w1 ⟨rfl, hb1⟩
 have HBN := hid (hb1.mono (show w.heap.size + 4 ≤ _ by simp))
 clear hB rt rp c0 c1 p4 p5 p6 p7 d0 d1 g3 hb1
 obtain ⟨hB, rt, rp, c0, c1, p4, p5, p6, p7, d0, d1, g3⟩ := HX.out _ HBN.out
 have HT := hid ht
 clear ht
 go_wp2_with fail
 refine (check_any ⟨path, act, s, n⟩ _ _ rp HO.out).mono ?_
 by_cases hi : opI ⟨path, act, s, n⟩ = 0
 case neg =>
  rintro e w2 ⟨rfl, hb2⟩
  have HBN2 := hid (HBN.out.trans (hb2.mono (by have := HBN.out.size; simpa using this)))
  have hne : (opI ⟨path, act, s, n⟩ == 0) = false := by simpa using hi
  have hAE : appI t ⟨path, act, s, n⟩ d = (opI ⟨path, act, s, n⟩) := by unfold appI; rw [HT.out]; simp only [Bool.not_true, Bool.false_eq_true, if_false]; rw [if_pos hi]
  have HAE := hid hAE
  obtain ⟨hAT, hAC⟩ := app_err (t := t) (o := ⟨path, act, s, n⟩) (d := d) (by rw [hAE]; first | decide | assumption)
  have HAT := hid hAT
  have HAC := hid hAC
  clear hAE hAT hAC
  clear hB rt rp c0 c1 p4 p5 p6 p7 d0 d1 g3 hb2 hi HBN
  have HBN := HBN2
  have hG := (HX.out _ HBN.out).2.2.2.2.2.2.2.2.2.2.2
  have hBz := (HX.out _ HBN.out).1
  have HG := hid hG
  have HBZ := hid hBz
  have k0 := cell_cells (i := 0) hG
  have k1 := cell_cells (i := 1) hG
  have k2 := cell_cells (i := 2) hG
  simp only [List.getElem?_toArray, List.getElem?_cons_zero, List.getElem?_cons_succ] at k0 k1 k2
  have z0 := cells_frz (i := 0) hG
  have z1 := cells_frz (i := 1) hG
  have z2 := cells_frz (i := 2) hG
  clear hG hBz
  go_wp2_with fail
  obtain ⟨r0, r1, r2, q1, q2, q3⟩ := box_fin (N := w.heap.size + 4) (T := .mk [] []) (C := []) HG.out HBZ.out (by omega) (by omega) (rda_nil _ _) SlA.nil
  exact bodyPost_ret (v := .tuple #[.agg #[.slice none 0 0, .slice none 0 0, .slice none 0 0], .int .i64 (opI ⟨path, act, s, n⟩)]) (by simp [results, Tryz.results84, go_sem, r0, r1, r2] <;> rfl) rfl ⟨_, _, _, by rw [HAE.out], by rw [HAT.out]; exact q1, by rw [HAC.out]; exact q2, q3⟩
 rw [hi]
 rintro e w2 ⟨rfl, hb2⟩
 have HBN2 := hid (HBN.out.trans (hb2.mono (by have := HBN.out.size; simpa using this)))
 have HI := hid hi
 clear hB rt rp c0 c1 p4 p5 p6 p7 d0 d1 g3 hb2 hi HBN
 have HBN := HBN2
 clear HBN2
 obtain ⟨hB, rt, rp, c0, c1, p4, p5, p6, p7, d0, d1, g3⟩ := HX.out _ HBN.out
 go_wp2_with fail
 refine (fcheck_any t d _ _ _ rt (by omega)).mono ?_
 cases hk : chkT t d
 ·have hck : chkI t d = 1 := by unfold chkI; rw [hk]; rfl
  rw [hck]
  rintro e w3 ⟨rfl, hb3⟩
  have HBN2 := hid (HBN.out.trans (hb3.mono (by have := HBN.out.size; simpa using this)))
  have hAE : appI t ⟨path, act, s, n⟩ d = 1 := by unfold appI; rw [HT.out, HI.out, hk]; rfl
  have HAE := hid hAE
  obtain ⟨hAT, hAC⟩ := app_err (t := t) (o := ⟨path, act, s, n⟩) (d := d) (by rw [hAE]; first | decide | assumption)
  have HAT := hid hAT
  have HAC := hid hAC
  clear hAE hAT hAC
  clear hB rt rp c0 c1 p4 p5 p6 p7 d0 d1 g3 hb3 hk hck HBN
  have HBN := HBN2
  have hG := (HX.out _ HBN.out).2.2.2.2.2.2.2.2.2.2.2
  have hBz := (HX.out _ HBN.out).1
  have HG := hid hG
  have HBZ := hid hBz
  have k0 := cell_cells (i := 0) hG
  have k1 := cell_cells (i := 1) hG
  have k2 := cell_cells (i := 2) hG
  simp only [List.getElem?_toArray, List.getElem?_cons_zero, List.getElem?_cons_succ] at k0 k1 k2
  have z0 := cells_frz (i := 0) hG
  have z1 := cells_frz (i := 1) hG
  have z2 := cells_frz (i := 2) hG
  clear hG hBz
  go_wp2_with fail
  obtain ⟨r0, r1, r2, q1, q2, q3⟩ := box_fin (N := w.heap.size + 4) (T := .mk [] []) (C := []) HG.out HBZ.out (by omega) (by omega) (rda_nil _ _) SlA.nil
  exact bodyPost_ret (v := .tuple #[.agg #[.slice none 0 0, .slice none 0 0, .slice none 0 0], .int .i64 1]) (by simp [results, Tryz.results84, go_sem, r0, r1, r2] <;> rfl) rfl ⟨_, _, _, by rw [HAE.out], by rw [HAT.out]; exact q1, by rw [HAC.out]; exact q2, q3⟩
 have hck : chkI t d = 0 := by unfold chkI; rw [hk]; rfl
 rw [hck]
 rintro e w3 ⟨rfl, hb3⟩
 have HBN2 := hid (HBN.out.trans (hb3.mono (by have := HBN.out.size; simpa using this)))
 have HK := hid hk
 clear hB rt rp c0 c1 p4 p5 p6 p7 d0 d1 g3 hb3 hk hck HBN
 have HBN := HBN2
 clear HBN2
 have hsN := HBN.out.size
 simp only [World.size_alloc] at hsN
 obtain ⟨hB, rt, rp, c0, c1, p4, p5, p6, p7, d0, d1, g3⟩ := HX.out _ HBN.out
 clear g3
 go_upto_region 9 with (fail)
 obtain ⟨u, HU⟩ : ∃ u, Hid (tgetT t path = u) := ⟨_, rfl⟩
 obtain ⟨⟨LT, LC, LE⟩, HLX⟩ : ∃ q, Hid (leafX u ⟨path, act, s, n⟩ d = q) := ⟨_, rfl⟩
 have HUK : Hid (getK t path = u) := (tgetT_eq HT.out path).symm.trans HU.out
 have hus : u.sz ≤ 200 := by rw [← HUK.out]; exact Nat.le_trans (getK_szle t path) hN
 obtain ⟨hLs, hLl⟩ := leafX_sz u ⟨path, act, s, n⟩ d hus
 rw [HLX.out] at hLs hLl
 simp only at hLs hLl
 have HDO := hid hd
 have HY : Hid (∀ W, Below w3.heap.size w3 W → (Below w.heap.size w W ∧ t.rd W W.heap.size (.slice A3 t.es.length n3) (.slice A4 t.ks.length n4) ∧ SlP W W.heap.size 1 StE (.slice A5 path.length n5) path)) := fun W hW => by
  obtain ⟨a, b, c, _⟩ := HX.out W (HBN.out.trans (hW.mono (by omega)))
  exact ⟨a, b, c⟩
 have HKK : Hid (∀ W, Below w3.heap.size w3 W → (W.cell? ⟨w.heap.size, 0, none⟩ = some (.slice A3 t.es.length n3) ∧ W.cell? ⟨w.heap.size, 1, none⟩ = some (.slice A4 t.ks.length n4) ∧ W.cell? ⟨w.heap.size + 1, 0, none⟩ = some (.slice A5 path.length n5) ∧ W.cell? ⟨w.heap.size + 1, 1, none⟩ = some (.int .i64 act) ∧ W.cell? ⟨w.heap.size + 1, 2, none⟩ = some (.string s) ∧ W.cell? ⟨w.heap.size + 1, 3, none⟩ = some (.int .i64 n) ∧ W.cell? ⟨w.heap.size + 2, 0, none⟩ = some (.int .i64 d.dc) ∧ W.cell? ⟨w.heap.size + 2, 1, none⟩ = some (.int .i64 d.n))) := fun W hW => by
  obtain ⟨_, _, _, a0, a1, a2, a3, a4, a5, a6, a7, _⟩ := HX.out W (HBN.out.trans (hW.mono (by omega)))
  exact ⟨a0, a1, a2, a3, a4, a5, a6, a7⟩
 clear hB rt rp hus
 go_cut [10, 11] (fun s10 s11 wx => s11 = .int .i64 LE ∧ BoxG w3.heap.size w3 29 LT LC s10 wx)
 case first =>
  go_region_held3 (fun W => W.cell? ⟨w.heap.size, 0, none⟩ = some (.slice A3 t.es.length n3) ∧ W.cell? ⟨w.heap.size, 1, none⟩ = some (.slice A4 t.ks.length n4) ∧ W.cell? ⟨w.heap.size + 1, 0, none⟩ = some (.slice A5 path.length n5) ∧ W.cell? ⟨w.heap.size + 1, 1, none⟩ = some (.int .i64 act) ∧ W.cell? ⟨w.heap.size + 1, 2, none⟩ = some (.string s) ∧ W.cell? ⟨w.heap.size + 1, 3, none⟩ = some (.int .i64 n) ∧ W.cell? ⟨w.heap.size + 2, 0, none⟩ = some (.int .i64 d.dc) ∧ W.cell? ⟨w.heap.size + 2, 1, none⟩ = some (.int .i64 d.n))
   (first | go_keep | exact HKK.out _ hbr5.out | exact HKK.out _ (hbr5.out.trans (by go_grown)) | exact HKK.out _ hbr4.out | exact HKK.out _ (hbr4.out.trans (by go_grown)) | exact HKK.out _ (((hbr5.out.setCell (by first | (simp; done) | (simp; omega)) _).setCell (by first | (simp; done) | (simp; omega)) _).setCell (by first | (simp; done) | (simp; omega)) _) | exact HKK.out _ (by go_grown) | fail)
   (first
    | (go_at_call 138; go_loud ((refine (leaf_any u ⟨path, act, s, n⟩ d _ _ _ _ (HRu.out _ (by go_grown)) (HY.out _ (hbr4.out.trans (by go_grown))).2.2 HO.out HDO.out (by have := hN; rw [← HUK.out]; exact Nat.le_trans (getK_szle t path) (by omega))).mono ?_); rw [HLX.out]; dsimp only; rintro e w5 ⟨xe5, xk5, xc5, rfl, hrd5, hsl5, hb⟩; have hbr5 : Hid (Below w3.heap.size w3 w5) := hid (Below.trans (hbr4.out.trans (by go_grown)) (hb.mono (by first | omega | (simp; done) | (simp; omega)))); have hsr5 := hbr5.out.size; obtain ⟨Ar5, nr5, Br5, mr5, hv1, hv2⟩ := rda_shape hrd5; subst hv1; subst hv2; obtain ⟨Dr5, kr5, hv3⟩ := hsl5.shape; subst hv3; have HR5 := hid hrd5; have HL5 := hid hsl5; clear hrd5 hsl5; (first | (have HG5 : Hid (w5.heap[w4.heap.size]? = some (.cells #[.slice none 0 0, .slice none 0 0, .slice none 0 0] 29 (0, 0))) := hid (z_new hb); have k0 : w5.cell? ⟨w4.heap.size, 0, none⟩ = some (.slice none 0 0) := cell_cells (i := 0) HG5.out; have k1 : w5.cell? ⟨w4.heap.size, 1, none⟩ = some (.slice none 0 0) := cell_cells (i := 1) HG5.out; have k2 : w5.cell? ⟨w4.heap.size, 2, none⟩ = some (.slice none 0 0) := cell_cells (i := 2) HG5.out; have z0 := cells_frz (i := 0) HG5.out; have z1 := cells_frz (i := 1) HG5.out; have z2 := cells_frz (i := 2) HG5.out; have hna0 : w.heap.size ≠ w4.heap.size := (by omega); have hnb0 : w4.heap.size ≠ w.heap.size := (by omega); have hna1 : (w.heap.size + 1) ≠ w4.heap.size := (by omega); have hnb1 : w4.heap.size ≠ (w.heap.size + 1) := (by omega); have hna2 : (w.heap.size + 2) ≠ w4.heap.size := (by omega); have hnb2 : w4.heap.size ≠ (w.heap.size + 2) := (by omega)) | (have HG5 : Hid (w5.heap[w3.heap.size]? = some (.cells #[.slice none 0 0, .slice none 0 0, .slice none 0 0] 29 (0, 0))) := hid ((hb.block _ (lt_of_block HGA.out)).trans HGA.out); have k0 : w5.cell? ⟨w3.heap.size, 0, none⟩ = some (.slice none 0 0) := cell_cells (i := 0) HG5.out; have k1 : w5.cell? ⟨w3.heap.size, 1, none⟩ = some (.slice none 0 0) := cell_cells (i := 1) HG5.out; have k2 : w5.cell? ⟨w3.heap.size, 2, none⟩ = some (.slice none 0 0) := cell_cells (i := 2) HG5.out; have z0 := cells_frz (i := 0) HG5.out; have z1 := cells_frz (i := 1) HG5.out; have z2 := cells_frz (i := 2) HG5.out; have hna0 : w.heap.size ≠ w3.heap.size := (by omega); have hnb0 : w3.heap.size ≠ w.heap.size := (by omega); have hna1 : (w.heap.size + 1) ≠ w3.heap.size := (by omega); have hnb1 : w3.heap.size ≠ (w.heap.size + 1) := (by omega); have hna2 : (w.heap.size + 2) ≠ w3.heap.size := (by omega); have hnb2 : w3.heap.size ≠ (w.heap.size + 2) := (by omega)) | skip); clear hb))
    | (go_at_call 89; go_loud ((refine (tget_any t path _ _ _ _ (HY.out _ (by go_grown)).2.1 (HY.out _ (by go_grown)).2.2 (by omega)).mono ?_); rw [HU.out]; rintro e w4 ⟨xe4, xk4, rfl, hrd4, hb⟩; have hbr4 : Hid (Below w3.heap.size w3 w4) := hid (Below.trans (by go_grown) (hb.mono (by first | omega | (simp; done) | (simp; omega)))); have hsr4 := hbr4.out.size; obtain ⟨Ar4, nr4, Br4, mr4, hv1, hv2⟩ := rda_shape hrd4; subst hv1; subst hv2; have HR4 := hid hrd4; have HRu : Hid (∀ W, Below w4.heap.size w4 W → u.rd W W.heap.size (.slice Ar4 u.es.length nr4) (.slice Br4 u.ks.length mr4)) := fun W hW => rda_rd HR4.out (fun b hb => hb.2) hW; clear hrd4; (first | (have HGA : Hid (w4.heap[w3.heap.size]? = some (.cells #[.slice none 0 0, .slice none 0 0, .slice none 0 0] 29 (0, 0))) := hid (z_new2D hb)) | (have HGA : Hid (w4.heap[w3.heap.size]? = some (.cells #[.slice none 0 0, .slice none 0 0, .slice none 0 0] 29 (0, 0))) := hid (z_newD hb)) | (have HGA : Hid (w4.heap[w3.heap.size]? = some (.cells #[.slice none 0 0, .slice none 0 0, .slice none 0 0] 29 (0, 0))) := hid (z_new2 hb)) | (have HGA : Hid (w4.heap[w3.heap.size]? = some (.cells #[.slice none 0 0, .slice none 0 0, .slice none 0 0] 29 (0, 0))) := hid (z_new hb)) | skip); clear hb)))
  all_goals
   go_wp2_with fail
   go_meet
   case rel => exact ⟨rfl, (by first | exact boxg_new hbr5.out hbr5.out.size (by first | omega | (simp; omega)) HR5.out HL5.out | exact boxg_set HG5.out hbr5.out (by omega) (by first | (simp; done) | (simp; omega) | exact lt_of_block HGA.out | (have := lt_of_block HGA.out; simp; omega)) HR5.out HL5.out)⟩
 case rest =>
  obtain ⟨rfl, g, rfl, hgm, xe, xk, xc, hG, hrd, hsl, hbz⟩ := hcut
  obtain ⟨wq, hwq⟩ : ∃ z : World, z = wc := ⟨wc, rfl⟩
  subst hwq
  obtain ⟨Aa, na, Ab, nb, rfl, rfl⟩ := rda_shape hrd
  obtain ⟨Ac, nc, rfl⟩ := hsl.shape
  have hgl := lt_of_block hG
  obtain ⟨a0, a1, a2, a3, a4, a5, a6, a7⟩ := HKK.out _ hbz
  have hpl := path_ok (op_ok HI.out).path
  have hpl1 := hpl.1
  have hpl2 := hpl.2.1
  simp only at hpl1 hpl2
  clear hpl
  obtain ⟨P, HP⟩ : ∃ P, Hid (upLoop t path path.length (LT, LC, LE) = P) := ⟨_, rfl⟩
  go_wp2_with fail
  go_loopw [11, 12] (fun e i wr => ∃ (j : Nat) (X : Tr × List Sp × Int), j ≤ path.length ∧ i = .int .i64 ((j : Int) - 1) ∧ e = .int .i64 X.2.2 ∧ Hid (upLoop t path j X = P) ∧ X.1.sz + j ≤ 2 + path.length ∧ X.2.1.length ≤ 8000 ∧ (∃ xa xb xd, wr.heap[g]? = some (.cells #[xa, xb, xd] 29 (0, 0)) ∧ X.1.rda wr (fun b => w3.heap.size ≤ b ∧ b < wr.heap.size) xa xb ∧ SlA wr (fun b => w3.heap.size ≤ b ∧ b < wr.heap.size) 3 SpE xd X.2.1) ∧ Below w3.heap.size w3 wr) (fun _ i _ => (intOf i + 1).toNat)
  case atStart => exact ⟨path.length, (LT, LC, LE), Nat.le_refl _, by go_num, rfl, HP.out, by simp only; omega, hLl, ⟨_, _, _, hG, hrd, hsl⟩, hbz⟩
  case round =>
   obtain ⟨j, ⟨XT, XC, XE⟩, hj, rfl, rfl, hup, hxs, hxl, ⟨xa, xb, xd, hGr, hrr, hsr⟩, hbr⟩ := hrel
   simp only at hup hxs hxl hrr hsr
   obtain ⟨Aa', na', Ab', nb', rfl, rfl⟩ := rda_shape hrr
   obtain ⟨Ac', nc', rfl⟩ := hsr.shape
   have hgr := lt_of_block hGr
   by_cases hex : j = 0 ∨ XE ≠ 0
   ·have HXP : Hid ((XT, XC, XE) = P) := by
     rcases hex with rfl | hne
     ·exact hup.out
     ·have := hup.out; rw [upLoop_err hne] at this; exact this
    have hTL := app_total (X := (XT, XC, XE)) (op_ok HI.out) HI.out HT.out HK.out (by rw [HXP.out, ← HP.out]; simp only; rw [HUK.out, HLX.out])
    simp only at hTL
    have hGZ := (HX.out wr (HBN.out.trans (hbr.mono (by omega)))).2.2.2.2.2.2.2.2.2.2.2
    have hBw := (HX.out wr (HBN.out.trans (hbr.mono (by omega)))).1
    have q0 := cell_cells (i := 0) hGr
    have q1 := cell_cells (i := 1) hGr
    have q2 := cell_cells (i := 2) hGr
    simp only [List.getElem?_toArray, List.getElem?_cons_zero, List.getElem?_cons_succ] at q0 q1 q2
    have k0 := cell_cells (i := 0) hGZ
    have k1 := cell_cells (i := 1) hGZ
    have k2 := cell_cells (i := 2) hGZ
    simp only [List.getElem?_toArray, List.getElem?_cons_zero, List.getElem?_cons_succ] at k0 k1 k2
    have z0 := cells_frz (i := 0) hGZ
    have z1 := cells_frz (i := 1) hGZ
    have z2 := cells_frz (i := 2) hGZ
    have HGZ := hid hGZ
    have HBw := hid hBw
    have HRR := hid hrr
    have HSR := hid hsr
    have hgne : g ≠ w.heap.size + 3 := by omega
    have hgne' : g ≠ w.heap.size + 1 + 1 + 1 := by omega
    clear hGZ hBw hGr hrr hsr hup HXP
    by_cases he : XE = 0
    ·subst he
     obtain ⟨hA1, hA2, hA3⟩ := hTL.1 rfl
     have HA1 := hid hA1
     have HA2 := hid hA2
     have HA3 := hid hA3
     have hj0 : j = 0 := by rcases hex with h | h; exact h; exact absurd rfl h
     subst hj0
     clear hA1 hA2 hA3 hTL hex
     go_wp2_with fail
     obtain ⟨r0, r1, r2, q3, q4, q5⟩ := box_fin (N := w3.heap.size) HGZ.out HBw.out (by omega) (by omega) HRR.out HSR.out
     exact bodyPost_ret (v := .tuple #[.agg #[.slice Aa' XT.es.length na', .slice Ab' XT.ks.length nb', .slice Ac' XC.length nc'], .int .i64 0]) (by simp [results, Tryz.results84, go_sem, r0, r1, r2] <;> rfl) rfl ⟨_, _, _, by rw [HA3.out], by rw [HA1.out]; exact q3, by rw [HA2.out]; exact q4, q5⟩
    ·have hA := hTL.2 he
     have HAE := hid hA
     obtain ⟨hAT, hAC⟩ := app_err (t := t) (o := ⟨path, act, s, n⟩) (d := d) (by rw [hA]; exact he)
     have HAT := hid hAT
     have HAC := hid hAC
     have hne : (XE == 0) = false := by simpa using he
     clear hA hAT hAC hTL hex he
     go_wp2_with fail
     all_goals (
      obtain ⟨r0, r1, r2, q3, q4, q5⟩ := box_fin (N := w3.heap.size) (T := .mk [] []) (C := []) HGZ.out HBw.out (by omega) (by omega) (rda_nil _ _) SlA.nil
      exact bodyPost_ret (v := .tuple #[.agg #[.slice none 0 0, .slice none 0 0, .slice none 0 0], .int .i64 XE]) (by simp [results, Tryz.results84, go_sem, r0, r1, r2] <;> rfl) rfl ⟨_, _, _, by rw [HAE.out], by rw [HAT.out]; exact q3, by rw [HAC.out]; exact q4, q5⟩)
   ·have hj1 : j ≠ 0 := fun h => hex (.inl h)
    have hXE : XE = 0 := by
     by_cases h : XE = 0
     ·exact h
     ·exact absurd (.inr h) hex
    subst hXE
    obtain ⟨k, rfl⟩ : ∃ k, j = k + 1 := ⟨j - 1, by omega⟩
    have hkl : k < path.length := by omega
    obtain ⟨key, hkey⟩ : ∃ key, path[k]? = some key := ⟨_, List.getElem?_eq_getElem hkl⟩
    obtain ⟨bq, offq, hA5, hbq, hcq⟩ := p3 (by rintro rfl; simp at hpl1)
    subst hA5
    obtain ⟨cs, ⟨rfl, hkok⟩, _, hku⟩ := hcq k _ hkey
    have HKOK := hid hkok
    rw [show (((k + 1 : Nat) : Int) - 1) = (k : Int) from by omega]
    obtain ⟨T', HT'⟩ : ∃ q, Hid (tgetT t (path.take k) = q) := ⟨_, rfl⟩
    obtain ⟨UT, HU1⟩ : ∃ q, Hid (updT T' key XT XC = q) := ⟨_, rfl⟩
    obtain ⟨UC, HU2⟩ : ∃ q, Hid (updC T' key XT XC = q) := ⟨_, rfl⟩
    obtain ⟨UE, HU3⟩ : ∃ q, Hid (updE T' key XT XC = q) := ⟨_, rfl⟩
    have HUX : Hid (updX t path k (XT, XC, 0) = (UT, UC, UE)) := by
     unfold Hid updX
     rw [hkey]
     simp only [Option.getD_some]
     rw [HT'.out, HU1.out, HU2.out, HU3.out]
    have HUP : Hid (upLoop t path k (UT, UC, UE) = P) := by
     have := hup.out
     rw [upLoop, if_pos rfl, HUX.out] at this
     exact this
    have hTs : T'.sz ≤ 200 := by rw [← HT'.out, tgetT_eq HT.out]; exact Nat.le_trans (getK_szle t _) hN
    have hus := updX_sz t path k (XT, XC, 0)
    rw [HUX.out] at hus
    simp only at hus
    have HGr := hid hGr
    have HY2 : Hid (∀ W, Below wr.heap.size wr W → (t.rd W W.heap.size (.slice A3 t.es.length n3) (.slice A4 t.ks.length n4) ∧ SlP W W.heap.size 1 StE (.slice (some ⟨bq, offq, none⟩) path.length n5) path ∧ XT.rd W W.heap.size (.slice Aa' XT.es.length na') (.slice Ab' XT.ks.length nb') ∧ SlP W W.heap.size 3 SpE (.slice Ac' XC.length nc') XC)) := fun W hW => by
     obtain ⟨_, b, c⟩ := HY.out W (hbr.trans (hW.mono hbr.size))
     exact ⟨b, c, rda_rd hrr (fun b hb => hb.2) hW, hsr.slp (fun b hb => hb.2) hW⟩
    have HK2 : Hid (∀ W, Below wr.heap.size wr W → (W.cell? ⟨w.heap.size, 0, none⟩ = some (.slice A3 t.es.length n3) ∧ W.cell? ⟨w.heap.size, 1, none⟩ = some (.slice A4 t.ks.length n4) ∧ W.cell? ⟨w.heap.size + 1, 0, none⟩ = some (.slice (some ⟨bq, offq, none⟩) path.length n5) ∧ W.cell? ⟨g, 0, none⟩ = some (.slice Aa' XT.es.length na') ∧ W.cell? ⟨g, 1, none⟩ = some (.slice Ab' XT.ks.length nb') ∧ W.cell? ⟨g, 2, none⟩ = some (.slice Ac' XC.length nc') ∧ W.cell? ⟨bq, offq + k, none⟩ = some (.string key))) := fun W hW => by
     obtain ⟨a0, a1, a2, _⟩ := HKK.out W (hbr.trans (hW.mono hbr.size))
     have g1 := (hW.block g hgr).trans hGr
     have hBw := (HY.out wr hbr).1
     exact ⟨a0, a1, a2, cell_cells (i := 0) g1, cell_cells (i := 1) g1, cell_cells (i := 2) g1, (hW.cell (p := ⟨bq, offq + k, none⟩) (by show bq < _; have := hBw.size; omega)).trans ((hBw.cell hbq).trans (by simpa using hku 0 _ rfl))⟩
    have hsr3 := hbr.size
    have hk5 : k ≤ n5 := by omega
    have hk6 : (k : Int) ≤ (n5 : Int) := by omega
    have hk7 : (k : Int) ≤ (path.length : Int) := by omega
    have hk8 : (0 : Int) ≤ (k : Int) := by omega
    have hk9 : k ≤ path.length := by omega
    have hk10 : ¬ (n5 < k) := by omega
    have HKQ := HKK
    have HKU : Hid (w.cell? ⟨bq, offq + k, none⟩ = some (.string key)) := hid (by simpa using hku 0 _ rfl)
    clear hku hcq p3 hkey hkok hup hGr hrr hsr HKK hG hrd hsl
    obtain ⟨x0, x1, x2, x3, x4, x5, x6⟩ := HK2.out _ (Below.refl _ _)
    have HK4 : Hid (∀ W, Below w3.heap.size w3 W → (W.cell? ⟨w.heap.size, 0, none⟩ = some (.slice A3 t.es.length n3) ∧ W.cell? ⟨w.heap.size, 1, none⟩ = some (.slice A4 t.ks.length n4) ∧ W.cell? ⟨w.heap.size + 1, 0, none⟩ = some (.slice (some ⟨bq, offq, none⟩) path.length n5) ∧ W.cell? ⟨bq, offq + k, none⟩ = some (.string key))) := fun W hW => by
     obtain ⟨a0, a1, a2, _⟩ := HKQ.out W hW
     have hBw := (HY.out W hW).1
     exact ⟨a0, a1, a2, (hBw.cell hbq).trans HKU.out⟩
    obtain ⟨y0, y1, y2, y3, y4, y5, y6⟩ := HK2.out wr.drew ((Below.refl wr.heap.size wr).drew)
    go_upto_block 1 with (fail)
    go_cut [11] (fun s11 wx => s11 = .int .i64 UE ∧ BoxG w3.heap.size w3 29 UT UC (.pointer (some ⟨g, 0, none⟩)) wx)
    case first =>
     go_upto_region 13 with (fail)
     refine wp_region_held_drew (S := (fun W => W.cell? ⟨w.heap.size, 0, none⟩ = some (.slice A3 t.es.length n3) ∧ W.cell? ⟨w.heap.size, 1, none⟩ = some (.slice A4 t.ks.length n4) ∧ W.cell? ⟨w.heap.size + 1, 0, none⟩ = some (.slice (some ⟨bq, offq, none⟩) path.length n5) ∧ W.cell? ⟨bq, offq + k, none⟩ = some (.string key))) (by kernel_rfl) ?_ (fun hHeld => ?_)
     ·go_keep
     refine wpAnyH_take (i := 0) (oi := _) (v := ?v0) rfl (by kernel_rfl) (by kernel_rfl) (by kernel_rfl) (fun _ _ _ h => h) (Or.inl ⟨by rfl, ?h0⟩) (by assumption) ?_
     case h0 => (intro w hSw; (try dsimp only at hSw); go_simp; (try with_reducible rfl))
     simp only [Act.put, List.setIfInBounds_toArray, List.set_cons_zero, List.set_cons_succ, List.getElem_toArray, List.getElem_cons_zero]
     refine wpAnyH_take (i := 1) (oi := _) (v := ?v1) rfl (by kernel_rfl) (by kernel_rfl) (by kernel_rfl) (fun _ _ _ h => h) (Or.inl ⟨by rfl, ?h1⟩) (by assumption) ?_
     case h1 => (intro w hSw; (try dsimp only at hSw); go_simp; (try with_reducible rfl))
     simp only [Act.put, List.setIfInBounds_toArray, List.set_cons_zero, List.set_cons_succ, List.getElem_toArray, List.getElem_cons_zero, List.getElem_cons_succ]
     refine wpAnyH_take (i := 2) (oi := _) (v := ?v2) rfl (by kernel_rfl) (by kernel_rfl) (by kernel_rfl) (fun _ _ _ h => h) (Or.inl ⟨by rfl, ?h2⟩) (by assumption) ?_
     case h2 => (intro w hSw; (try dsimp only at hSw); go_simp; (try with_reducible rfl))
     simp only [Act.put, List.setIfInBounds_toArray, List.set_cons_zero, List.set_cons_succ, List.getElem_toArray, List.getElem_cons_zero, List.getElem_cons_succ]
     refine wpAnyH_take (i := 3) (oi := _) (v := ?v3) rfl (by kernel_rfl) (by kernel_rfl) (by kernel_rfl) (fun _ _ _ h => h) (Or.inl ⟨by rfl, ?h3⟩) (by assumption) ?_
     case h3 => (intro w hSw; (try dsimp only at hSw); go_simp; (try with_reducible rfl))
     simp only [Act.put, List.setIfInBounds_toArray, List.set_cons_zero, List.set_cons_succ, List.getElem_toArray, List.getElem_cons_zero, List.getElem_cons_succ]
     refine wpAnyH_take (i := 4) (oi := _) (v := ?v4) rfl (by kernel_rfl) (by kernel_rfl) (by kernel_rfl) (fun _ _ _ h => h) (Or.inl ⟨by rfl, ?h4⟩) (by assumption) ?_
     case h4 => (intro w hSw; (try dsimp only at hSw); go_simp; (try with_reducible rfl))
     simp only [Act.put, List.setIfInBounds_toArray, List.set_cons_zero, List.set_cons_succ, List.getElem_toArray, List.getElem_cons_zero, List.getElem_cons_succ]
     refine wpAnyH_take (i := 6) (oi := _) (v := ?v6) rfl (by kernel_rfl) (by kernel_rfl) (by kernel_rfl) (fun _ _ _ h => h) (Or.inl ⟨by rfl, ?h6⟩) (by assumption) ?_
     case h6 => (intro w hSw; (try dsimp only at hSw); go_simp; (try with_reducible rfl))
     simp only [Act.put, List.setIfInBounds_toArray, List.set_cons_zero, List.set_cons_succ, List.getElem_toArray, List.getElem_cons_zero, List.getElem_cons_succ]
     refine wpAnyH_take (i := 7) (oi := _) (v := ?v7) rfl (by kernel_rfl) (by kernel_rfl) (by kernel_rfl) (fun _ _ _ h => h) (Or.inl ⟨by rfl, ?h7⟩) (by assumption) ?_
     case h7 => (intro w hSw; (try dsimp only at hSw); go_simp; (try with_reducible rfl))
     simp only [Act.put, List.setIfInBounds_toArray, List.set_cons_zero, List.set_cons_succ, List.getElem_toArray, List.getElem_cons_zero, List.getElem_cons_succ]
     refine wpAnyH_take (i := 8) (oi := _) (v := ?v8) rfl (by kernel_rfl) (by kernel_rfl) (by kernel_rfl) (fun _ _ _ h => h) (Or.inl ⟨by rfl, ?h8⟩) (by assumption) ?_
     case h8 => (intro w hSw; (try dsimp only at hSw); go_simp; (try with_reducible rfl))
     simp only [Act.put, List.setIfInBounds_toArray, List.set_cons_zero, List.set_cons_succ, List.getElem_toArray, List.getElem_cons_zero, List.getElem_cons_succ]
     refine wpAnyH_take (i := 9) (oi := _) (v := ?v9) rfl (by kernel_rfl) (by kernel_rfl) (by kernel_rfl) (fun _ _ _ h => h) (Or.inl ⟨by rfl, ?h9⟩) (by assumption) ?_
     case h9 => (intro w hSw; (try dsimp only at hSw); go_simp; (try with_reducible rfl))
     simp only [Act.put, List.setIfInBounds_toArray, List.set_cons_zero, List.set_cons_succ, List.getElem_toArray, List.getElem_cons_zero, List.getElem_cons_succ]
     refine wpAnyH_take (i := 10) (oi := _) (v := ?v10) rfl (by kernel_rfl) (by kernel_rfl) (by kernel_rfl) (fun _ _ _ h => h) (Or.inl ⟨by rfl, ?h10⟩) (by assumption) ?_
     case h10 => (intro w hSw; (try dsimp only at hSw); go_simp; (try with_reducible rfl))
     simp only [Act.put, List.setIfInBounds_toArray, List.set_cons_zero, List.set_cons_succ, List.getElem_toArray, List.getElem_cons_zero, List.getElem_cons_succ]
     refine wpAnyH_ready (rs := [5, 11]) (by kernel_rfl) (by simp) ?_
     refine AllReadyH.cons (o := _) rfl (fun K hK => ?_) (AllReadyH.cons (o := _) rfl (fun K hK => ?_) AllReadyH.nil)
     ·(go_simp; (go_at_call 89; go_loud ((refine (tget_any t (path.take k) _ _ _ _ (HY2.out _ (by go_grown)).1 ((HY2.out _ (by go_grown)).2.1.takeK (by omega)) (by omega)).mono ?_); rw [HT'.out]; rintro e w4 ⟨xe4, xk4, rfl, hrd4, hb⟩; have hbr4 : Hid (Below wr.heap.size wr w4) := hid (Below.trans (by go_grown) (hb.mono (by first | omega | (simp; done) | (simp; omega)))); have hsr4 := hbr4.out.size; obtain ⟨Ar4, nr4, Br4, mr4, hv1, hv2⟩ := rda_shape hrd4; subst hv1; subst hv2; have HRT : Hid (∀ W, Below w4.heap.size w4 W → T'.rd W W.heap.size (.slice Ar4 T'.es.length nr4) (.slice Br4 T'.ks.length mr4)) := fun W hW => rda_rd hrd4 (fun b hb => hb.2) hW; obtain ⟨u0, u1, u2, u3, u4, u5, u6⟩ := HK2.out w4 hbr4.out; clear hb)); go_wp2_with fail)
      refine hK.out _ _ ?_ (fun hHeld5 => ?_)
      ·(first | go_keep | exact HK4.out _ ((((hbr.trans (hbr5.out.mono hsr3)).setCell hgm _).setCell hgm _).setCell hgm _) | exact HK4.out _ (hbr.trans (hbr5.out.mono hsr3)) | exact HK4.out _ (hbr.trans ((hbr5.out.trans (by go_grown)).mono hsr3)) | exact HK4.out _ (hbr.trans (hbr4.out.mono hsr3)) | exact HK4.out _ (hbr.trans ((hbr4.out.trans (by go_grown)).mono hsr3)) | exact HK4.out _ (hbr.trans (Below.mono (by go_grown) hsr3)) | fail)
      clear hK K
      try simp only [Act.put, List.setIfInBounds_toArray, List.set_cons_zero, List.set_cons_succ, List.getElem_toArray, List.getElem_cons_zero, List.getElem_cons_succ]
      refine wpAnyH_ready (rs := [11]) (by kernel_rfl) (by simp) ?_
      refine AllReadyH.cons (o := _) rfl (fun K hK => ?_) AllReadyH.nil
      go_simp
      refine hK.out _ _ ?_ (fun hHeld11 => ?_)
      ·(first | go_keep | exact HK4.out _ ((((hbr.trans (hbr5.out.mono hsr3)).setCell hgm _).setCell hgm _).setCell hgm _) | exact HK4.out _ (hbr.trans (hbr5.out.mono hsr3)) | exact HK4.out _ (hbr.trans ((hbr5.out.trans (by go_grown)).mono hsr3)) | exact HK4.out _ (hbr.trans (hbr4.out.mono hsr3)) | exact HK4.out _ (hbr.trans ((hbr4.out.trans (by go_grown)).mono hsr3)) | exact HK4.out _ (hbr.trans (Below.mono (by go_grown) hsr3)) | fail)
      clear hK K
      try simp only [Act.put, List.setIfInBounds_toArray, List.set_cons_zero, List.set_cons_succ, List.getElem_toArray, List.getElem_cons_zero, List.getElem_cons_succ]
      refine wpAnyH_ready (rs := [12]) (by kernel_rfl) (by simp) ?_
      refine AllReadyH.cons (o := _) rfl (fun K hK => ?_) AllReadyH.nil
      (go_simp; (go_at_call 139; go_loud ((refine (oupdate_any T' XT XC key _ _ _ _ _ _ (HRT.out _ (by go_grown)) (HY2.out _ (hbr4.out.trans (by go_grown))).2.2.1 (HY2.out _ (hbr4.out.trans (by go_grown))).2.2.2 HKOK.out (by omega) (by omega) (by omega)).mono ?_); rw [HU1.out, HU2.out, HU3.out]; rintro e w5 ⟨xe5, xk5, xc5, rfl, hrd5, hsl5, hb⟩; have hbr5 : Hid (Below wr.heap.size wr w5) := hid (Below.trans (hbr4.out.trans (by go_grown)) (hb.mono (by first | omega | (simp; done) | (simp; omega)))); have hsr5 := hbr5.out.size; obtain ⟨Ar5, nr5, Br5, mr5, hv1, hv2⟩ := rda_shape hrd5; subst hv1; subst hv2; obtain ⟨Dr5, kr5, hv3⟩ := hsl5.shape; subst hv3; have HR5 := hid hrd5; have HL5 := hid hsl5; have HG5 := hid ((hbr5.out.block g hgr).trans HGr.out); obtain ⟨v0, v1, v2, v3, v4, v5, v6⟩ := HK2.out w5 hbr5.out; have z0 := cells_frz (i := 0) HG5.out; have z1 := cells_frz (i := 1) HG5.out; have z2 := cells_frz (i := 2) HG5.out; clear hrd5 hsl5 hb)); go_wp2_with fail)
      refine hK.out _ _ ?_ (fun hHeld12 => ?_)
      ·(first | go_keep | exact HK4.out _ ((((hbr.trans (hbr5.out.mono hsr3)).setCell hgm _).setCell hgm _).setCell hgm _) | exact HK4.out _ (hbr.trans (hbr5.out.mono hsr3)) | exact HK4.out _ (hbr.trans ((hbr5.out.trans (by go_grown)).mono hsr3)) | exact HK4.out _ (hbr.trans (hbr4.out.mono hsr3)) | exact HK4.out _ (hbr.trans ((hbr4.out.trans (by go_grown)).mono hsr3)) | exact HK4.out _ (hbr.trans (Below.mono (by go_grown) hsr3)) | fail)
      clear hK K
      try simp only [Act.put, List.setIfInBounds_toArray, List.set_cons_zero, List.set_cons_succ, List.getElem_toArray, List.getElem_cons_zero, List.getElem_cons_succ]
      refine wpAnyH_take (i := 13) (oi := _) (v := ?v13) rfl (by kernel_rfl) (by kernel_rfl) (by kernel_rfl) (fun _ _ _ h => h) (Or.inl ⟨by rfl, ?h13⟩) (by assumption) ?_
      case h13 => (intro w hSw; (try dsimp only at hSw); go_simp; (try with_reducible rfl))
      simp only [Act.put, List.setIfInBounds_toArray, List.set_cons_zero, List.set_cons_succ, List.getElem_toArray, List.getElem_cons_zero, List.getElem_cons_succ]
      refine wpAnyH_take (i := 14) (oi := _) (v := ?v14) rfl (by kernel_rfl) (by kernel_rfl) (by kernel_rfl) (fun _ _ _ h => h) (Or.inl ⟨by rfl, ?h14⟩) (by assumption) ?_
      case h14 => (intro w hSw; (try dsimp only at hSw); go_simp; (try with_reducible rfl))
      simp only [Act.put, List.setIfInBounds_toArray, List.set_cons_zero, List.set_cons_succ, List.getElem_toArray, List.getElem_cons_zero, List.getElem_cons_succ]
      refine wpAnyH_take (i := 15) (oi := _) (v := ?v15) rfl (by kernel_rfl) (by kernel_rfl) (by kernel_rfl) (fun _ _ _ h => h) (Or.inl ⟨by rfl, ?h15⟩) (by assumption) ?_
      case h15 => (intro w hSw; (try dsimp only at hSw); go_simp; (try with_reducible rfl))
      simp only [Act.put, List.setIfInBounds_toArray, List.set_cons_zero, List.set_cons_succ, List.getElem_toArray, List.getElem_cons_zero, List.getElem_cons_succ]
      refine wpAnyH_ready (rs := [16]) (by kernel_rfl) (by simp) ?_
      refine AllReadyH.cons (o := _) rfl (fun K hK => ?_) AllReadyH.nil
      go_simp
      refine hK.out _ _ ?_ (fun hHeld16 => ?_)
      ·(first | go_keep | exact HK4.out _ ((((hbr.trans (hbr5.out.mono hsr3)).setCell hgm _).setCell hgm _).setCell hgm _) | exact HK4.out _ (hbr.trans (hbr5.out.mono hsr3)) | exact HK4.out _ (hbr.trans ((hbr5.out.trans (by go_grown)).mono hsr3)) | exact HK4.out _ (hbr.trans (hbr4.out.mono hsr3)) | exact HK4.out _ (hbr.trans ((hbr4.out.trans (by go_grown)).mono hsr3)) | exact HK4.out _ (hbr.trans (Below.mono (by go_grown) hsr3)) | fail)
      clear hK K
      try simp only [Act.put, List.setIfInBounds_toArray, List.set_cons_zero, List.set_cons_succ, List.getElem_toArray, List.getElem_cons_zero, List.getElem_cons_succ]
      refine wpAnyH_take (i := 17) (oi := _) (v := ?v17) rfl (by kernel_rfl) (by kernel_rfl) (by kernel_rfl) (fun _ _ _ h => h) (Or.inl ⟨by rfl, ?h17⟩) (by assumption) ?_
      case h17 => (intro w hSw; (try dsimp only at hSw); go_simp; (try with_reducible rfl))
      simp only [Act.put, List.setIfInBounds_toArray, List.set_cons_zero, List.set_cons_succ, List.getElem_toArray, List.getElem_cons_zero, List.getElem_cons_succ]
      refine wpAnyH_done (by kernel_rfl) ?_ _
      go_wp2_with fail
      go_meet
      case rel => exact ⟨rfl, boxg_set HG5.out (hbr.trans (hbr5.out.mono (by omega))) hgm (by first | omega | (simp; omega)) HR5.out HL5.out⟩
     ·go_simp
      refine hK.out _ _ ?_ (fun hHeld11 => ?_)
      ·(first | go_keep | exact HK4.out _ ((((hbr.trans (hbr5.out.mono hsr3)).setCell hgm _).setCell hgm _).setCell hgm _) | exact HK4.out _ (hbr.trans (hbr5.out.mono hsr3)) | exact HK4.out _ (hbr.trans ((hbr5.out.trans (by go_grown)).mono hsr3)) | exact HK4.out _ (hbr.trans (hbr4.out.mono hsr3)) | exact HK4.out _ (hbr.trans ((hbr4.out.trans (by go_grown)).mono hsr3)) | exact HK4.out _ (hbr.trans (Below.mono (by go_grown) hsr3)) | fail)
      clear hK K
      try simp only [Act.put, List.setIfInBounds_toArray, List.set_cons_zero, List.set_cons_succ, List.getElem_toArray, List.getElem_cons_zero, List.getElem_cons_succ]
      refine wpAnyH_ready (rs := [5]) (by kernel_rfl) (by simp) ?_
      refine AllReadyH.cons (o := _) rfl (fun K hK => ?_) AllReadyH.nil
      (go_simp; (go_at_call 89; go_loud ((refine (tget_any t (path.take k) _ _ _ _ (HY2.out _ (by go_grown)).1 ((HY2.out _ (by go_grown)).2.1.takeK (by omega)) (by omega)).mono ?_); rw [HT'.out]; rintro e w4 ⟨xe4, xk4, rfl, hrd4, hb⟩; have hbr4 : Hid (Below wr.heap.size wr w4) := hid (Below.trans (by go_grown) (hb.mono (by first | omega | (simp; done) | (simp; omega)))); have hsr4 := hbr4.out.size; obtain ⟨Ar4, nr4, Br4, mr4, hv1, hv2⟩ := rda_shape hrd4; subst hv1; subst hv2; have HRT : Hid (∀ W, Below w4.heap.size w4 W → T'.rd W W.heap.size (.slice Ar4 T'.es.length nr4) (.slice Br4 T'.ks.length mr4)) := fun W hW => rda_rd hrd4 (fun b hb => hb.2) hW; obtain ⟨u0, u1, u2, u3, u4, u5, u6⟩ := HK2.out w4 hbr4.out; clear hb)); go_wp2_with fail)
      refine hK.out _ _ ?_ (fun hHeld5 => ?_)
      ·(first | go_keep | exact HK4.out _ ((((hbr.trans (hbr5.out.mono hsr3)).setCell hgm _).setCell hgm _).setCell hgm _) | exact HK4.out _ (hbr.trans (hbr5.out.mono hsr3)) | exact HK4.out _ (hbr.trans ((hbr5.out.trans (by go_grown)).mono hsr3)) | exact HK4.out _ (hbr.trans (hbr4.out.mono hsr3)) | exact HK4.out _ (hbr.trans ((hbr4.out.trans (by go_grown)).mono hsr3)) | exact HK4.out _ (hbr.trans (Below.mono (by go_grown) hsr3)) | fail)
      clear hK K
      try simp only [Act.put, List.setIfInBounds_toArray, List.set_cons_zero, List.set_cons_succ, List.getElem_toArray, List.getElem_cons_zero, List.getElem_cons_succ]
      refine wpAnyH_ready (rs := [12]) (by kernel_rfl) (by simp) ?_
      refine AllReadyH.cons (o := _) rfl (fun K hK => ?_) AllReadyH.nil
      (go_simp; (go_at_call 139; go_loud ((refine (oupdate_any T' XT XC key _ _ _ _ _ _ (HRT.out _ (by go_grown)) (HY2.out _ (hbr4.out.trans (by go_grown))).2.2.1 (HY2.out _ (hbr4.out.trans (by go_grown))).2.2.2 HKOK.out (by omega) (by omega) (by omega)).mono ?_); rw [HU1.out, HU2.out, HU3.out]; rintro e w5 ⟨xe5, xk5, xc5, rfl, hrd5, hsl5, hb⟩; have hbr5 : Hid (Below wr.heap.size wr w5) := hid (Below.trans (hbr4.out.trans (by go_grown)) (hb.mono (by first | omega | (simp; done) | (simp; omega)))); have hsr5 := hbr5.out.size; obtain ⟨Ar5, nr5, Br5, mr5, hv1, hv2⟩ := rda_shape hrd5; subst hv1; subst hv2; obtain ⟨Dr5, kr5, hv3⟩ := hsl5.shape; subst hv3; have HR5 := hid hrd5; have HL5 := hid hsl5; have HG5 := hid ((hbr5.out.block g hgr).trans HGr.out); obtain ⟨v0, v1, v2, v3, v4, v5, v6⟩ := HK2.out w5 hbr5.out; have z0 := cells_frz (i := 0) HG5.out; have z1 := cells_frz (i := 1) HG5.out; have z2 := cells_frz (i := 2) HG5.out; clear hrd5 hsl5 hb)); go_wp2_with fail)
      refine hK.out _ _ ?_ (fun hHeld12 => ?_)
      ·(first | go_keep | exact HK4.out _ ((((hbr.trans (hbr5.out.mono hsr3)).setCell hgm _).setCell hgm _).setCell hgm _) | exact HK4.out _ (hbr.trans (hbr5.out.mono hsr3)) | exact HK4.out _ (hbr.trans ((hbr5.out.trans (by go_grown)).mono hsr3)) | exact HK4.out _ (hbr.trans (hbr4.out.mono hsr3)) | exact HK4.out _ (hbr.trans ((hbr4.out.trans (by go_grown)).mono hsr3)) | exact HK4.out _ (hbr.trans (Below.mono (by go_grown) hsr3)) | fail)
      clear hK K
      try simp only [Act.put, List.setIfInBounds_toArray, List.set_cons_zero, List.set_cons_succ, List.getElem_toArray, List.getElem_cons_zero, List.getElem_cons_succ]
      refine wpAnyH_take (i := 13) (oi := _) (v := ?vb13) rfl (by kernel_rfl) (by kernel_rfl) (by kernel_rfl) (fun _ _ _ h => h) (Or.inl ⟨by rfl, ?hb13⟩) (by assumption) ?_
      case hb13 => (intro w hSw; (try dsimp only at hSw); go_simp; (try with_reducible rfl))
      simp only [Act.put, List.setIfInBounds_toArray, List.set_cons_zero, List.set_cons_succ, List.getElem_toArray, List.getElem_cons_zero, List.getElem_cons_succ]
      refine wpAnyH_take (i := 14) (oi := _) (v := ?vb14) rfl (by kernel_rfl) (by kernel_rfl) (by kernel_rfl) (fun _ _ _ h => h) (Or.inl ⟨by rfl, ?hb14⟩) (by assumption) ?_
      case hb14 => (intro w hSw; (try dsimp only at hSw); go_simp; (try with_reducible rfl))
      simp only [Act.put, List.setIfInBounds_toArray, List.set_cons_zero, List.set_cons_succ, List.getElem_toArray, List.getElem_cons_zero, List.getElem_cons_succ]
      refine wpAnyH_take (i := 15) (oi := _) (v := ?vb15) rfl (by kernel_rfl) (by kernel_rfl) (by kernel_rfl) (fun _ _ _ h => h) (Or.inl ⟨by rfl, ?hb15⟩) (by assumption) ?_
      case hb15 => (intro w hSw; (try dsimp only at hSw); go_simp; (try with_reducible rfl))
      simp only [Act.put, List.setIfInBounds_toArray, List.set_cons_zero, List.set_cons_succ, List.getElem_toArray, List.getElem_cons_zero, List.getElem_cons_succ]
      refine wpAnyH_ready (rs := [16]) (by kernel_rfl) (by simp) ?_
      refine AllReadyH.cons (o := _) rfl (fun K hK => ?_) AllReadyH.nil
      go_simp
      refine hK.out _ _ ?_ (fun hHeld16 => ?_)
      ·(first | go_keep | exact HK4.out _ ((((hbr.trans (hbr5.out.mono hsr3)).setCell hgm _).setCell hgm _).setCell hgm _) | exact HK4.out _ (hbr.trans (hbr5.out.mono hsr3)) | exact HK4.out _ (hbr.trans ((hbr5.out.trans (by go_grown)).mono hsr3)) | exact HK4.out _ (hbr.trans (hbr4.out.mono hsr3)) | exact HK4.out _ (hbr.trans ((hbr4.out.trans (by go_grown)).mono hsr3)) | exact HK4.out _ (hbr.trans (Below.mono (by go_grown) hsr3)) | fail)
      clear hK K
      try simp only [Act.put, List.setIfInBounds_toArray, List.set_cons_zero, List.set_cons_succ, List.getElem_toArray, List.getElem_cons_zero, List.getElem_cons_succ]
      refine wpAnyH_take (i := 17) (oi := _) (v := ?vb17) rfl (by kernel_rfl) (by kernel_rfl) (by kernel_rfl) (fun _ _ _ h => h) (Or.inl ⟨by rfl, ?hb17⟩) (by assumption) ?_
      case hb17 => (intro w hSw; (try dsimp only at hSw); go_simp; (try with_reducible rfl))
      simp only [Act.put, List.setIfInBounds_toArray, List.set_cons_zero, List.set_cons_succ, List.getElem_toArray, List.getElem_cons_zero, List.getElem_cons_succ]
      refine wpAnyH_done (by kernel_rfl) ?_ _
      go_wp2_with fail
      go_meet
      case rel => exact ⟨rfl, boxg_set HG5.out (hbr.trans (hbr5.out.mono (by omega))) hgm (by first | omega | (simp; omega)) HR5.out HL5.out⟩
    case rest =>
     obtain ⟨rfl, g', hgg, _, xa', xb', xd', hG', hr', hs', hbz'⟩ := hcut
     simp only [Value.pointer.injEq, Option.some.injEq, Addr.mk.injEq] at hgg
     obtain ⟨rfl, _⟩ := hgg
     go_wp2_with fail
     go_roundw
     case rel => exact ⟨k, (UT, UC, UE), by omega, by go_num, rfl, HUP.out, by simp only; omega, by simp only; omega, ⟨_, _, _, hG', hr', hs'⟩, hbz'⟩
     case measure => first | (simp [intOf]; done) | (simp [intOf]; omega)
end Go.Proofs.YtlapdmgjfdelnaaGreat
namespace Go.Proofs.YtlapdmgjfdelnaaGreat
open Go.RowKit
set_option maxRecDepth 100000
def BoxT (m : Nat) (V : World) (e : TypeId) (T : Tr) (s : Value) (wx : World) : Prop :=
 ∃ g, s = .pointer (some ⟨g, 0, none⟩) ∧ m ≤ g ∧ ∃ u v, wx.heap[g]? = some (.cells #[u, v] e (0, 0)) ∧ T.rda wx (fun b => m ≤ b ∧ b < wx.heap.size) u v ∧ Below m V wx
theorem boxt_new {m N : Nat} {V w7 : World} {e : TypeId} {T : Tr} {u v : Value} (hb : Below m V w7) (hm : m ≤ w7.heap.size) (hN : m ≤ N) (hr : T.rda w7 (fun b => N ≤ b ∧ b < w7.heap.size) u v) :
  BoxT m V e T (.pointer (some ⟨w7.heap.size, 0, none⟩)) (w7.alloc (.cells #[u, v] e)) :=
 ⟨w7.heap.size, rfl, hm, u, v, heap_new rfl, rda_up (fun b hb => heap_old hb.2) (fun b hb => ⟨by omega, by rw [World.size_alloc]; omega⟩) _ _ _ hr, hb.alloc hm _⟩
theorem boxt_set {m N g : Nat} {V w7 : World} {e : TypeId} {T : Tr} {u v a b : Value} (hbx : w7.heap[g]? = some (.cells #[a, b] e (0, 0))) (hb : Below m V w7) (hg : m ≤ g) (hgN : g < N) (hr : T.rda w7 (fun b => N ≤ b ∧ b < w7.heap.size) u v) :
  BoxT m V e T (.pointer (some ⟨g, 0, none⟩)) ((w7.setCell ⟨g, 0, none⟩ u).setCell ⟨g, 1, none⟩ v) := by
 obtain ⟨_, _, hK, hS⟩ := box_tree hbx hr (fun b hb => by omega)
 have hW := cells_set (i := 1) (cells_set (i := 0) hbx u) v
 exact ⟨g, rfl, hg, u, v, by simpa using hW, rda_up (fun _ _ => rfl) (fun b hb => ⟨by omega, by rw [hS]; exact hb.2⟩) _ _ _ hK, (hb.setCell hg _).setCell hg _⟩
theorem end_len (o : Opr) : (endP o).length ≤ o.path.length + 1 := by unfold endP; rw [List.length_append]; split <;> simp
set_option maxHeartbeats 2000000 in
theorem end15_any (o : Opr) (vp : Value) (w : World) (h : SlP w w.heap.size 1 StE vp o.path) (ho : o.Ok) (hl : o.path.length ≤ 1000) :
  Calls Tryz.prog 145 #[.agg #[vp, .int .i64 o.act, .string o.s, .int .i64 o.n]] w (RetO w 9 1 (fun _ => StE) (endP o)) := by
 have HC : Hid (∀ w', Below w.heap.size w w' → SlP w' w'.heap.size 1 StE vp o.path) := fun w' hb => h.imp hb hb.size fun _ _ _ h => h
 obtain ⟨A, n, rfl, c1, c2, _⟩ := h
 unfold Big at c2
 have hos := hid ho.s
 obtain ⟨path, act, s, k⟩ := o
 simp only at HC c1 c2 hos hl ⊢
 have HX : Hid (∀ W, Below (w.heap.size + 1) (w.alloc (.cells #[.slice A path.length n, .int .i64 act, .string s, .int .i64 k] 67)) W → (Below w.heap.size w W ∧ SlP W W.heap.size 1 StE (.slice A path.length n) path ∧ W.cell? ⟨w.heap.size, 0, none⟩ = some (.slice A path.length n) ∧ W.cell? ⟨w.heap.size, 1, none⟩ = some (.int .i64 act) ∧ W.cell? ⟨w.heap.size, 2, none⟩ = some (.string s))) := fun W hW => by
  have g0 : W.heap[w.heap.size]? = some (.cells #[.slice A path.length n, .int .i64 act, .string s, .int .i64 k] 67 (0, 0)) := (hW.block _ (by omega)).trans (heap_new rfl)
  have hB : Below w.heap.size w W := ((Below.refl _ w).alloc (Nat.le_refl _) _).trans (hW.mono (by omega))
  exact ⟨hB, HC.out _ hB, cell_cells (i := 0) g0, cell_cells (i := 1) g0, cell_cells (i := 2) g0⟩
 have HBE : Hid (Below (w.heap.size + 1) (w.alloc (.cells #[.slice A path.length n, .int .i64 act, .string s, .int .i64 k] 67)) ((w.alloc (.cells #[.slice A path.length n, .int .i64 act, .string s, .int .i64 k] 67)).alloc (.cells #[] 9))) := hid ((Below.refl _ _).alloc (by simp) _)
 have HKS : Hid (StE s [.string s]) := ⟨rfl, hos.out⟩
 by_cases ha : act = 3
 ·have HE : Hid (endP ⟨path, act, s, k⟩ = path ++ [s]) := by unfold Hid endP; simp [ha]
  subst ha
  go_enter Tryz.func145, Tryz.ntmps145
  go_wp2_with (first | (at_builtin; go_loud ((with_reducible refine wpList_few rfl (.tmp 4) (.tmp 6) _ rfl eiStr (by decide) (by decide) (fun _ _ h => StE.one h) rfl (OwnP.empty (base := w.heap.size + 1) (heap_new (by simp)) (by simp)) rfl (HX.out _ HBE.out).2.1 (by unfold Few; simp; omega) (by simp) ?_); intro v1 w1 hown1 hb1 _; rw [List.nil_append] at hown1; have HB1 := hid (HBE.out.trans hb1); have hs1 := HB1.out.size; simp only [World.size_alloc] at hs1; clear hb1; obtain ⟨hB, hq, q0, q1, q2⟩ := HX.out _ HB1.out)) | (at_builtin; go_loud ((with_reducible refine wpList_few rfl (.tmp 11) (.tmp 14) _ rfl eiStr (by decide) (by decide) (fun _ _ h => StE.one h) rfl (hown1.alloc _) rfl (SlP.one (x := s) HKS.out rfl _ rfl) (by unfold Few; simp; omega) (by rw [World.size_alloc]; omega) ?_); intro v2 w2 hown2 hb2 _)))
  go_ret
  exact ⟨_, rfl, by rw [HE.out]; exact hown2.mono (by omega), hB.trans ((((Below.refl (w.heap.size + 1) w1).alloc hs1 _).trans hb2).mono (by omega))⟩
 ·have HE : Hid (endP ⟨path, act, s, k⟩ = path) := by unfold Hid endP; simp [ha]
  have hne : (act == 3) = false := by simpa using ha
  go_enter Tryz.func145, Tryz.ntmps145
  go_wp2_with (at_builtin; go_loud ((with_reducible refine wpList_few rfl (.tmp 4) (.tmp 6) _ rfl eiStr (by decide) (by decide) (fun _ _ h => StE.one h) rfl (OwnP.empty (base := w.heap.size + 1) (heap_new (by simp)) (by simp)) rfl (HX.out _ HBE.out).2.1 (by unfold Few; simp; omega) (by simp) ?_); intro v1 w1 hown1 hb1 _; rw [List.nil_append] at hown1; have HB1 := hid (HBE.out.trans hb1); have hs1 := HB1.out.size; simp only [World.size_alloc] at hs1; clear hb1; obtain ⟨hB, hq, q0, q1, q2⟩ := HX.out _ HB1.out))
  go_ret
  exact ⟨_, rfl, by rw [HE.out]; exact hown1.mono (by omega), hB⟩
theorem full_no {t : Tr} {q : List ByteArray} (h : ∀ j, j < q.length → fullAt t q j = false) : fullP t q = false := by
 unfold fullP
 rw [List.any_eq_false]
 intro j hj
 rw [h j (List.mem_range.1 hj)]; simp
theorem full_yes {t : Tr} {q : List ByteArray} {j : Nat} (h : j < q.length) (hf : fullAt t q j = true) : fullP t q = true := by
 unfold fullP
 exact List.any_eq_true.2 ⟨j, List.mem_range.2 h, hf⟩
set_option maxHeartbeats 4000000 in
theorem full15_any (t : Tr) (o : Opr) (ve vk vp : Value) (w : World) (h : t.rd w w.heap.size ve vk) (hp : SlP w w.heap.size 1 StE vp o.path) (ho : o.Ok) (hr : t.right 5 = true) (hl : o.path.length ≤ 1000) (hN : t.sz ≤ 4000) :
  Calls Tryz.prog 141 #[.agg #[ve, vk], .agg #[vp, .int .i64 o.act, .string o.s, .int .i64 o.n]] w fun e w' => e = .returned (.bool (fullB t o)) ∧ Below w.heap.size w w' := by
 have HF : Hid (fullB t o = (entryB o.act && (fullP t (endP o) || decide (o.act = 5) && decide (24 ≤ (getK t (endP o)).es.length)))) := rfl
 have HEL := end_len o
 have HOR := hid (right_ord _ _ hr)
 have HC : Hid (∀ w', Below w.heap.size w w' → t.rd w' w'.heap.size ve vk) := fun w' hb => rd_below hb hb.size _ _ _ h
 have HD : Hid (∀ w', Below w.heap.size w w' → SlP w' w'.heap.size 1 StE vp o.path) := fun w' hb => hp.imp hb hb.size fun _ _ _ h => h
 obtain ⟨A3, n3, A4, n4, rfl, rfl⟩ := rd_shape h
 obtain ⟨A5, n5, rfl, p1, p2, p3⟩ := hp
 unfold Big at p2
 have HO := hid ho
 obtain ⟨oa, on, os⟩ := ho
 obtain ⟨path, act, s, n⟩ := o
 simp only at oa on os p1 p2 p3 HD HO hl ⊢
 have HX : Hid (∀ W, Below (w.heap.size + 2) ((w.alloc (.cells #[.slice A3 t.es.length n3, .slice A4 t.ks.length n4] 25)).alloc (.cells #[.slice A5 path.length n5, .int .i64 act, .string s, .int .i64 n] 67)) W →
   (Below w.heap.size w W ∧ t.rd W W.heap.size (.slice A3 t.es.length n3) (.slice A4 t.ks.length n4) ∧ SlP W W.heap.size 1 StE (.slice A5 path.length n5) path ∧ W.cell? ⟨w.heap.size, 0, none⟩ = some (.slice A3 t.es.length n3) ∧ W.cell? ⟨w.heap.size, 1, none⟩ = some (.slice A4 t.ks.length n4) ∧ W.cell? ⟨w.heap.size + 1, 0, none⟩ = some (.slice A5 path.length n5) ∧ W.cell? ⟨w.heap.size + 1, 1, none⟩ = some (.int .i64 act) ∧ W.cell? ⟨w.heap.size + 1, 2, none⟩ = some (.string s) ∧ W.cell? ⟨w.heap.size + 1, 3, none⟩ = some (.int .i64 n))) := fun W hW => by
  have g0 : W.heap[w.heap.size]? = some (.cells #[.slice A3 t.es.length n3, .slice A4 t.ks.length n4] 25 (0, 0)) := (hW.block _ (by omega)).trans ((heap_old (by simp)).trans (heap_new rfl))
  have g1 : W.heap[w.heap.size + 1]? = some (.cells #[.slice A5 path.length n5, .int .i64 act, .string s, .int .i64 n] 67 (0, 0)) := (hW.block _ (by omega)).trans (heap_new (by simp))
  have hB := (((Below.refl w.heap.size w).alloc (Nat.le_refl _) (.cells #[.slice A3 t.es.length n3, .slice A4 t.ks.length n4] 25)).alloc (by simp) (.cells #[.slice A5 path.length n5, .int .i64 act, .string s, .int .i64 n] 67)).trans (hW.mono (by omega))
  exact ⟨hB, HC.out _ hB, HD.out _ hB, cell_cells (i := 0) g0, cell_cells (i := 1) g0, cell_cells (i := 0) g1, cell_cells (i := 1) g1, cell_cells (i := 2) g1, cell_cells (i := 3) g1⟩
 clear h
 simp only at HF HEL
 clear p3 hr
 obtain ⟨q, HQ⟩ : ∃ q, Hid (endP ⟨path, act, s, n⟩ = q) := ⟨_, rfl⟩
 rw [HQ.out] at HF HEL
 go_enter Tryz.func141, Tryz.ntmps141
 go_wp2_with fail
 obtain ⟨hB, rt, rp, c0, c1, q0, q1, q2, q3⟩ := HX.out _ (Below.refl _ _)
 refine (entry_any act _).mono ?_
 cases he : entryB act
 ·rintro e w1 ⟨rfl, hb1⟩
  have hB1 := hB.trans (hb1.mono (by simp; omega))
  have HE := hid he
  clear he
  go_wp2_with fail
  go_ret
  exact ⟨ret_bool (by rw [HF.out, HE.out]; rfl), hB1⟩
 rintro e w1 ⟨rfl, hb1⟩
 have HB1 := hid (hb1.mono (show w.heap.size + 2 ≤ _ by simp))
 have HE := hid he
 clear hB rt rp c0 c1 q0 q1 q2 q3 hb1 he
 obtain ⟨hB, rt, rp, c0, c1, q0, q1, q2, q3⟩ := HX.out _ HB1.out
 go_wp2_with fail
 refine (end15_any ⟨path, act, s, n⟩ _ _ rp HO.out hl).mono ?_
 rw [HQ.out]
 rintro e w2 ⟨v2, rfl, ho2, hb2⟩
 have hsl2 := ho2.sl (by unfold Big; omega)
 have HB2 := hid (HB1.out.trans (hb2.mono (by have := HB1.out.size; simpa using this)))
 clear hB rt rp c0 c1 q0 q1 q2 q3 hb2 ho2
 obtain ⟨A6, n6, rfl, r1, r2, r3⟩ := hsl2
 unfold Big at r2
 have HSQ : Hid (∀ W, Below w2.heap.size w2 W → SlP W W.heap.size 1 StE (.slice A6 q.length n6) q) := fun W hW => SlP.imp (E := StE) ⟨A6, n6, rfl, r1, by unfold Big; omega, r3⟩ hW hW.size fun _ _ _ h => h
 have hs2 := HB2.out.size
 simp only [World.size_alloc] at hs2
 go_wp2_with fail
 go_loopw [16] (fun i wr => ∃ k : Nat, k ≤ q.length ∧ i = .int .i64 k ∧ Hid (∀ j, j < k → fullAt t q j = false) ∧ Below w2.heap.size w2 wr) (fun i _ => q.length - (intOf i).toNat)
 case atStart => exact ⟨0, Nat.zero_le _, rfl, fun j hj => absurd hj (Nat.not_lt_zero _), Below.refl _ _⟩
 case round =>
  obtain ⟨k, hk, rfl, hno, hb⟩ := hrel
  have HBR := hid hb
  have hsr := hb.size
  clear hb
  have HXR := hid (HX.out wr (HB2.out.trans (HBR.out.mono (by omega))))
  by_cases hlt : k < q.length
  ·obtain ⟨x, hx⟩ : ∃ x, q[k]? = some x := ⟨_, List.getElem?_eq_getElem hlt⟩
   obtain ⟨bq, offq, hA6, hbq, hcq⟩ := r3 (by rintro rfl; simp at hlt)
   subst hA6
   obtain ⟨cs, ⟨rfl, hok⟩, _, hu⟩ := hcq k _ hx
   have HE0 : Hid (∀ W, Below w2.heap.size w2 W → W.cell? ⟨bq, offq + k, none⟩ = some (.string x)) := fun W hW => (hW.cell hbq).trans (by simpa using hu 0 _ rfl)
   have HXX : Hid ((q[k]?).getD ByteArray.empty = x) := by unfold Hid; rw [hx]; rfl
   clear hu hcq r3 hx hok
   obtain ⟨G, HG⟩ : ∃ G, Hid (getK t (q.take k) = G) := ⟨_, rfl⟩
   have HGT : Hid (getT t (q.take k) = G) := (get_law HOR.out _).trans HG.out
   have hGz : G.sz ≤ 4000 := by rw [← HG.out]; exact Nat.le_trans (getK_szle t _) hN
   have HFA : Hid (fullAt t q k = (decide (24 ≤ G.ks.length) && !hasK G x)) := by unfold Hid fullAt; rw [HG.out, HXX.out]
   have hk5 : k ≤ n6 := by omega
   have hk6 : (k : Int) ≤ (n6 : Int) := by omega
   have hk7 : (k : Int) ≤ (q.length : Int) := by omega
   have hk8 : (0 : Int) ≤ (k : Int) := by omega
   have hk9 : k ≤ q.length := by omega
   have hk10 : ¬ (n6 < k) := by omega
   have HKK : Hid (∀ W, Below wr.heap.size wr W → (W.cell? ⟨w.heap.size, 0, none⟩ = some (.slice A3 t.es.length n3) ∧ W.cell? ⟨w.heap.size, 1, none⟩ = some (.slice A4 t.ks.length n4))) := fun W hW => by
    obtain ⟨_, _, _, a0, a1, _⟩ := HX.out W (HB2.out.trans ((HBR.out.trans (hW.mono (by omega))).mono (by omega)))
    exact ⟨a0, a1⟩
   have HY : Hid (∀ W, Below wr.heap.size wr W → (t.rd W W.heap.size (.slice A3 t.es.length n3) (.slice A4 t.ks.length n4) ∧ SlP W W.heap.size 1 StE (.slice (some ⟨bq, offq, none⟩) q.length n6) q)) := fun W hW => by
    obtain ⟨_, b, _⟩ := HX.out W (HB2.out.trans ((HBR.out.trans (hW.mono (by omega))).mono (by omega)))
    exact ⟨b, HSQ.out W (HBR.out.trans (hW.mono (by omega)))⟩
   obtain ⟨a0, a1⟩ := HKK.out wr (Below.refl _ _)
   have hw0 : w.heap.size < wr.heap.size := by omega
   go_upto_region 7 with (fail)
   go_cut [7] (fun s7 wx => BoxT wr.heap.size wr 25 G s7 wx)
   case first =>
    go_region_held3 (fun W => W.cell? ⟨w.heap.size, 0, none⟩ = some (.slice A3 t.es.length n3) ∧ W.cell? ⟨w.heap.size, 1, none⟩ = some (.slice A4 t.ks.length n4))
     (first | go_keep | exact HKK.out _ hbr4.out | exact HKK.out _ (hbr4.out.trans (by go_grown)) | exact HKK.out _ ((hbr4.out.setCell (by first | (simp; done) | (simp; omega)) _).setCell (by first | (simp; done) | (simp; omega)) _) | exact HKK.out _ (by go_grown) | fail)
     (first
      | (go_at_call 102; go_loud ((refine (r08get_any t (q.take k) _ _ _ _ (HY.out _ (by go_grown)).1 ((HY.out _ (by go_grown)).2.takeK (by omega)) (by omega)).mono ?_); rw [HGT.out]; rintro e w4 ⟨xe4, xk4, rfl, hrd4, hb⟩; have hbr4 : Hid (Below wr.heap.size wr w4) := hid (Below.trans (by go_grown) (hb.mono (by first | omega | (simp; done) | (simp; omega)))); have hsr4 := hbr4.out.size; obtain ⟨Ar4, nr4, Br4, mr4, hv1, hv2⟩ := rda_shape hrd4; subst hv1; subst hv2; have HR4 := hid hrd4; clear hrd4; (first | (have HG4 : Hid (w4.heap[wr.heap.size]? = some (.cells #[.slice none 0 0, .slice none 0 0] 25 (0, 0))) := hid (z_newD hb); have k0 : w4.cell? ⟨wr.heap.size, 0, none⟩ = some (.slice none 0 0) := cell_cells (i := 0) HG4.out; have k1 : w4.cell? ⟨wr.heap.size, 1, none⟩ = some (.slice none 0 0) := cell_cells (i := 1) HG4.out; have z0 := cells_frz (i := 0) HG4.out; have z1 := cells_frz (i := 1) HG4.out; have hna0 : w.heap.size ≠ wr.heap.size := (by omega); have hnb0 : wr.heap.size ≠ w.heap.size := (by omega)) | (have HG4 : Hid (w4.heap[wr.heap.size]? = some (.cells #[.slice none 0 0, .slice none 0 0] 25 (0, 0))) := hid (z_new hb); have k0 : w4.cell? ⟨wr.heap.size, 0, none⟩ = some (.slice none 0 0) := cell_cells (i := 0) HG4.out; have k1 : w4.cell? ⟨wr.heap.size, 1, none⟩ = some (.slice none 0 0) := cell_cells (i := 1) HG4.out; have z0 := cells_frz (i := 0) HG4.out; have z1 := cells_frz (i := 1) HG4.out; have hna0 : w.heap.size ≠ wr.heap.size := (by omega); have hnb0 : wr.heap.size ≠ w.heap.size := (by omega)) | skip); clear hb)))
    all_goals
     go_wp2_with fail
     go_meet
     case rel => first | exact boxt_new hbr4.out hbr4.out.size (by first | omega | (simp; done) | (simp; omega)) HR4.out | exact boxt_set HG4.out hbr4.out (by omega) (by first | (simp; done) | (simp; omega)) HR4.out
   case rest =>
    obtain ⟨g, rfl, hgm, xe, xk, hG, hrd, hbz⟩ := hcut
    obtain ⟨Aa, na, Ab, nb, rfl, rfl⟩ := rda_shape hrd
    have hgl := lt_of_block hG
    obtain ⟨wq, hwq⟩ : ∃ z : World, z = wc := ⟨wc, rfl⟩
    subst hwq
    have hGk : G.ks.length ≤ 140737488355328 := by have := es_sz G; omega
    have HQK := hid (fun (w5 : World) (hb5 : Below wq.heap.size wq w5) => r10kid_any G x w5 _ _ (rda_rd hrd (fun b hb => hb.2) hb5))
    have b0 := cell_cells (i := 0) hG
    have b1 := cell_cells (i := 1) hG
    simp only [List.getElem?_toArray, List.getElem?_cons_zero, List.getElem?_cons_succ] at b0 b1
    have e0 := HE0.out wq (HBR.out.trans (hbz.mono (by omega)))
    have hsz := hbz.size
    have hbql : bq < wq.heap.size := by omega
    have f0 := far_cell (B := wq.heap.size) b0 hgl
    have f1 := far_cell (B := wq.heap.size) b1 hgl
    have f2 := far_cell (B := wq.heap.size) e0 hbql
    have HBZ := hid hbz
    clear hG hrd hbz
    go_upto_region 8 with (fail)
    refine wp_region_far wq.heap.size (by kernel_rfl) (by kernel_rfl) ?_
    by_cases h24 : 24 ≤ G.ks.length
    ·have h24' : decide ((24 : Int) ≤ (G.ks.length : Int)) = true := by simp; omega
     repeat (go_big_quiet_step (first | (go_at_call 194; with_reducible exact Calls.far_all (Nat.le_refl _) HQK.out)))
     refine wpQuiet_nil ?_
     intro w6 hb6
     have HB6 := hid (HBR.out.trans ((HBZ.out.trans (hb6.mono (by omega))).mono (by omega)))
     have hB6 := (HX.out w6 (HB2.out.trans (HB6.out.mono (by omega)))).1
     clear f0 f1 f2 b0 b1 e0 hb6
     have HH : Hid (fullAt t q k = !(G.ks.any fun y => decide (y.1 = x))) := by unfold Hid; rw [HFA.out]; unfold hasK; simp [h24]
     cases hkk : G.ks.any fun y => decide (y.1 = x)
     ·have HFK : Hid (fullAt t q k = true) := by unfold Hid; rw [HH.out, hkk]; rfl
      clear hkk
      go_wp2_with fail
      go_ret
      exact ⟨ret_bool (by rw [HF.out, HE.out, full_yes hlt HFK.out]; rfl), hB6⟩
     ·have HFK : Hid (fullAt t q k = false) := by unfold Hid; rw [HH.out, hkk]; rfl
      clear hkk
      go_wp2_with fail
      go_roundw
      case rel =>
       refine ⟨k + 1, by omega, by go_num, fun j hj => ?_, HB6.out⟩
       rcases (show j < k ∨ j = k by omega) with h | rfl
       ·exact hno.out j h
       ·exact HFK.out
      case measure => simp [intOf]; omega
    ·have h24' : decide ((24 : Int) ≤ (G.ks.length : Int)) = false := by simp; omega
     repeat (go_big_quiet_step (first | (go_at_call 194; with_reducible exact Calls.far_all (Nat.le_refl _) HQK.out)))
     refine wpQuiet_nil ?_
     intro w6 hb6
     have HB6 := hid (HBR.out.trans ((HBZ.out.trans (hb6.mono (by omega))).mono (by omega)))
     clear f0 f1 f2 b0 b1 e0 hb6
     have HFK : Hid (fullAt t q k = false) := by unfold Hid; rw [HFA.out]; simp [h24]
     go_wp2_with fail
     go_roundw
     case rel =>
      refine ⟨k + 1, by omega, by go_num, fun j hj => ?_, HB6.out⟩
      rcases (show j < k ∨ j = k by omega) with h | rfl
      ·exact hno.out j h
      ·exact HFK.out
     case measure => simp [intOf]; omega
  ·obtain rfl : k = q.length := by omega
   have HNO := hid (full_no hno.out)
   obtain ⟨hB, rt, rp, c0, c1, q0, q1, q2, q3⟩ := HXR.out
   have rq := HSQ.out wr HBR.out
   by_cases ha : act = 5
   ·subst ha
    obtain ⟨G, HG⟩ : ∃ G, Hid (getK t q = G) := ⟨_, rfl⟩
    have HGT : Hid (getT t q = G) := (get_law HOR.out _).trans HG.out
    have hGz : G.sz ≤ 4000 := by rw [← HG.out]; exact Nat.le_trans (getK_szle t _) hN
    have hGe : G.es.length ≤ 140737488355328 := by have := es_sz G; omega
    rw [HG.out] at HF
    go_wp2_with fail
    refine (r08get_any t q _ _ _ _ rt rq (by omega)).mono ?_
    rw [HGT.out]
    rintro e w4 ⟨xe4, xk4, rfl, hrd4, hb4⟩
    obtain ⟨Ar4, nr4, Br4, mr4, rfl, rfl⟩ := rda_shape hrd4
    have hB4 := hB.trans (hb4.mono (by omega))
    have hfld : ∀ W, (Instr.field 25 (.agg #[.slice Ar4 G.es.length nr4, .slice Br4 G.ks.length mr4]) 0).run Tryz.prog W = .ok (.slice Ar4 G.es.length nr4) W := fun _ => rfl
    clear hrd4 c0 c1 q0 q1 q2 q3
    by_cases h24 : 24 ≤ G.es.length
    ·have h24' : decide ((24 : Int) ≤ (G.es.length : Int)) = true := decide_eq_true (by omega)
     have HRR : Hid (fullB t ⟨path, 5, s, n⟩ = true) := by unfold Hid; rw [HF.out, HE.out, HNO.out, decide_eq_true h24]; rfl
     go_wp2_with fail
     go_ret
     exact ⟨ret_bool HRR.out.symm, hB4⟩
    ·have h24' : decide ((24 : Int) ≤ (G.es.length : Int)) = false := decide_eq_false (by omega)
     have HRR : Hid (fullB t ⟨path, 5, s, n⟩ = false) := by unfold Hid; rw [HF.out, HE.out, HNO.out, decide_eq_false h24]; rfl
     go_wp2_with fail
     go_ret
     exact ⟨ret_bool HRR.out.symm, hB4⟩
   ·have hne : (act == 5) = false := by simpa using ha
    have HA := hid ha
    clear ha
    go_wp2_with fail
    go_ret
    exact ⟨ret_bool (by rw [HF.out, HE.out, HNO.out]; simp [HA.out]), hB⟩
theorem bnd_right {u : Tr} (h : u.right 5 = true) : ∀ d ∈ u.dots, 0 ≤ d.n ∧ d.n ≤ 1099511627778 := fun d hd => by
 have := dots_right h d hd
 unfold Dt.right at this
 simp at this
 omega
set_option maxHeartbeats 4000000 in
theorem sees15_any (t : Tr) (o : Opr) (ve vk vp : Value) (w : World) (h : t.rd w w.heap.size ve vk) (hp : SlP w w.heap.size 1 StE vp o.path) (ho : o.Ok) (hr : t.right 5 = true) (hl : o.path.length ≤ 1000) (hN : t.sz ≤ 4000) :
  Calls Tryz.prog 144 #[.agg #[ve, vk], .agg #[vp, .int .i64 o.act, .string o.s, .int .i64 o.n]] w (RetO w 45 3 (fun _ => SpE) (ctxOf (seesD t o))) := by
 have HOR := hid (right_ord _ _ hr)
 have HC : Hid (∀ w', Below w.heap.size w w' → t.rd w' w'.heap.size ve vk) := fun w' hb => rd_below hb hb.size _ _ _ h
 have HD : Hid (∀ w', Below w.heap.size w w' → SlP w' w'.heap.size 1 StE vp o.path) := fun w' hb => hp.imp hb hb.size fun _ _ _ h => h
 obtain ⟨A3, n3, A4, n4, rfl, rfl⟩ := rd_shape h
 obtain ⟨A5, n5, rfl, p1, p2, p3⟩ := hp
 unfold Big at p2
 have HO := hid ho
 obtain ⟨oa, on, os⟩ := ho
 obtain ⟨path, act, s, n⟩ := o
 simp only at oa on os p1 p2 p3 HD HO hl ⊢
 have HX : Hid (∀ W, Below (w.heap.size + 2) ((w.alloc (.cells #[.slice A3 t.es.length n3, .slice A4 t.ks.length n4] 25)).alloc (.cells #[.slice A5 path.length n5, .int .i64 act, .string s, .int .i64 n] 67)) W →
   (Below w.heap.size w W ∧ t.rd W W.heap.size (.slice A3 t.es.length n3) (.slice A4 t.ks.length n4) ∧ SlP W W.heap.size 1 StE (.slice A5 path.length n5) path ∧ W.cell? ⟨w.heap.size, 0, none⟩ = some (.slice A3 t.es.length n3) ∧ W.cell? ⟨w.heap.size, 1, none⟩ = some (.slice A4 t.ks.length n4) ∧ W.cell? ⟨w.heap.size + 1, 0, none⟩ = some (.slice A5 path.length n5) ∧ W.cell? ⟨w.heap.size + 1, 1, none⟩ = some (.int .i64 act) ∧ W.cell? ⟨w.heap.size + 1, 2, none⟩ = some (.string s) ∧ W.cell? ⟨w.heap.size + 1, 3, none⟩ = some (.int .i64 n))) := fun W hW => by
  have g0 : W.heap[w.heap.size]? = some (.cells #[.slice A3 t.es.length n3, .slice A4 t.ks.length n4] 25 (0, 0)) := (hW.block _ (by omega)).trans ((heap_old (by simp)).trans (heap_new rfl))
  have g1 : W.heap[w.heap.size + 1]? = some (.cells #[.slice A5 path.length n5, .int .i64 act, .string s, .int .i64 n] 67 (0, 0)) := (hW.block _ (by omega)).trans (heap_new (by simp))
  have hB := (((Below.refl w.heap.size w).alloc (Nat.le_refl _) (.cells #[.slice A3 t.es.length n3, .slice A4 t.ks.length n4] 25)).alloc (by simp) (.cells #[.slice A5 path.length n5, .int .i64 act, .string s, .int .i64 n] 67)).trans (hW.mono (by omega))
  exact ⟨hB, HC.out _ hB, HD.out _ hB, cell_cells (i := 0) g0, cell_cells (i := 1) g0, cell_cells (i := 0) g1, cell_cells (i := 1) g1, cell_cells (i := 2) g1, cell_cells (i := 3) g1⟩
 clear h
 clear p3
 obtain ⟨u, HU⟩ : ∃ u, Hid (getK t path = u) := ⟨_, rfl⟩
 have HUT : Hid (getT t path = u) := (get_law HOR.out _).trans HU.out
 have hUz : u.sz ≤ 4000 := by rw [← HU.out]; exact Nat.le_trans (getK_szle t _) hN
 have HUR : Hid (u.right 5 = true) := by unfold Hid; rw [← HU.out]; exact getK_right hr _
 have HUO := hid (right_ord _ _ HUR.out)
 have HS7 : Hid (∀ a, (a ≠ 3 ∧ a ≠ 4 ∧ a ≠ 5 ∧ a ≠ 6) → seesD t ⟨path, a, s, n⟩ = u.dots) := fun a ha => by unfold seesD; simp only; rw [if_neg (by omega), if_neg (by omega), if_neg (by omega), HU.out]
 have HS3 : Hid (∀ a, (a = 3 ∨ a = 4) → seesD t ⟨path, a, s, n⟩ = (getK u [s]).dots) := fun a ha => by unfold seesD; simp only; rw [if_pos ha, getK_app, HU.out]
 have HS5 : Hid (seesD t ⟨path, 5, s, n⟩ = []) := by unfold Hid seesD; simp
 have HS6 : Hid (seesD t ⟨path, 6, s, n⟩ = ownD u) := by unfold Hid seesD; simp [HU.out]
 clear hr
 go_enter Tryz.func144, Tryz.ntmps144
 go_wp2_with fail
 obtain ⟨hB, rt, rp, c0, c1, q0, q1, q2, q3⟩ := HX.out _ (Below.refl _ _)
 refine (r08get_any t path _ _ _ _ rt rp (by omega)).mono ?_
 rw [HUT.out]
 rintro e w1 ⟨xe1, xk1, rfl, hrd1, hb1⟩
 obtain ⟨Ar, nr, Br, mr, rfl, rfl⟩ := rda_shape hrd1
 have HB1 := hid (hb1.mono (show w.heap.size + 2 ≤ _ by simp))
 have hs1 := HB1.out.size
 simp only [World.size_alloc] at hs1
 have HY : Hid (∀ W, Below (w1.heap.size + 1) (w1.alloc (.cells #[.slice Ar u.es.length nr, .slice Br u.ks.length mr] 25)) W → (Below w.heap.size w W ∧ u.rd W W.heap.size (.slice Ar u.es.length nr) (.slice Br u.ks.length mr) ∧ W.heap[w1.heap.size]? = some (.cells #[.slice Ar u.es.length nr, .slice Br u.ks.length mr] 25 (0, 0)) ∧ W.cell? ⟨w.heap.size + 1, 1, none⟩ = some (.int .i64 act) ∧ W.cell? ⟨w.heap.size + 1, 2, none⟩ = some (.string s))) := fun W hW => by
  have g := (hW.block w1.heap.size (by omega)).trans (heap_new rfl)
  have hB1 := ((Below.refl _ w1).alloc (Nat.le_refl _) _).trans (hW.mono (by omega))
  obtain ⟨b0, _, _, _, _, _, b1, b2, _⟩ := HX.out W (HB1.out.trans (hB1.mono (by omega)))
  exact ⟨b0, rda_rd hrd1 (fun b hb => hb.2) hB1, g, b1, b2⟩
 clear hB rt rp c0 c1 q0 q1 q2 q3 hb1 hrd1
 obtain ⟨hB, ru, gx, q1, q2⟩ := HY.out _ (Below.refl _ _)
 have x0 := cell_cells (i := 0) gx
 have x1 := cell_cells (i := 1) gx
 simp only [List.getElem?_toArray, List.getElem?_cons_zero, List.getElem?_cons_succ] at x0 x1
 by_cases h34 : act = 3 ∨ act = 4
 ·have HSD := hid (HS3.out act h34)
  obtain ⟨G, HG⟩ : ∃ G, Hid (getK u [s] = G) := ⟨_, rfl⟩
  have HGT : Hid (getT u [s] = G) := (get_law HUO.out _).trans HG.out
  have hGz : G.sz ≤ 4000 := by rw [← HG.out]; exact Nat.le_trans (getK_szle u _) hUz
  have HGR : Hid (G.right 5 = true) := by unfold Hid; rw [← HG.out]; exact getK_right HUR.out _
  have HSL : Hid (SlP ((w1.alloc (.cells #[.slice Ar u.es.length nr, .slice Br u.ks.length mr] 25)).alloc (.cells #[.string s] 9)) ((w1.alloc (.cells #[.slice Ar u.es.length nr, .slice Br u.ks.length mr] 25)).alloc (.cells #[.string s] 9)).heap.size 1 StE (.slice (some ⟨w1.heap.size + 1, 0, none⟩) 1 1) [s]) := hid (by
   have := SlP.oneB (E := StE) (w := w1.alloc (.cells #[.slice Ar u.es.length nr, .slice Br u.ks.length mr] 25)) (n := w1.heap.size + 1) (B := w1.heap.size + 2) (x := s) (cs := [.string s]) ⟨rfl, os⟩ rfl 9 (by simp) (by omega)
   simpa using this)
  have hb2z : Below (w1.heap.size + 1) (w1.alloc (.cells #[.slice Ar u.es.length nr, .slice Br u.ks.length mr] 25)) ((w1.alloc (.cells #[.slice Ar u.es.length nr, .slice Br u.ks.length mr] 25)).alloc (.cells #[.string s] 9)) := (Below.refl _ _).alloc (by simp) _
  have HR2 := hid (HY.out _ hb2z).2.1
  have HB2Z := hid hb2z
  clear hb2z
  have hds := hid (bnd_right HGR.out)
  clear hB ru gx
  rcases h34 with rfl | rfl <;> (
   go_wp2_with fail
   refine (r08get_any u [s] _ _ _ _ HR2.out HSL.out (by omega)).mono ?_
   rw [HGT.out]
   rintro e w2 ⟨xe2, xk2, rfl, hrd2, hb2⟩
   obtain ⟨Ar2, nr2, Br2, mr2, rfl, rfl⟩ := rda_shape hrd2
   have HB2 := hid (HB2Z.out.trans (hb2.mono (by simp)))
   have hs2 := HB2.out.size
   simp only [World.size_alloc] at hs2
   clear q1 q2 x0 x1
   obtain ⟨hB, _, gx, _, _⟩ := HY.out _ HB2.out
   have HGX := hid gx
   have HBX := hid hB
   have HRD := hid hrd2
   have x0 := cell_cells (i := 0) gx
   have x1 := cell_cells (i := 1) gx
   simp only [List.getElem?_toArray, List.getElem?_cons_zero, List.getElem?_cons_succ] at x0 x1
   have z0 := cells_frz (i := 0) gx
   have z1 := cells_frz (i := 1) gx
   clear gx hB hrd2 hb2
   go_wp2_with fail
   obtain ⟨y0, y1, hK, hS⟩ := box_tree HGX.out HRD.out (fun b hb => by have := hb.1; simp at this; omega)
   have HR3 := rda_rd hK (fun b hb => by rw [hS]; exact hb.2) (Below.refl _ _)
   have HBW := hid ((HBX.out.setCell (p := ⟨w1.heap.size, 0, none⟩) (by simp; omega) (.slice Ar2 G.es.length nr2)).setCell (p := ⟨w1.heap.size, 1, none⟩) (by simp; omega) (.slice Br2 G.ks.length mr2))
   refine (r08dots_any G _ _ _ HR3 (by omega) hds.out).mono ?_
   rintro e w3 ⟨v3, rfl, ho3, hb3⟩
   have hs3 : w.heap.size ≤ ((w2.setCell ⟨w1.heap.size, 0, none⟩ (.slice Ar2 G.es.length nr2)).setCell ⟨w1.heap.size, 1, none⟩ (.slice Br2 G.ks.length mr2)).heap.size := HBW.out.size
   clear x0 x1 z0 z1 y0 y1
   go_wp2_with fail
   go_ret
   exact ⟨_, rfl, by rw [HSD.out, HG.out]; exact ho3.mono hs3, HBW.out.trans (hb3.mono hs3)⟩)
 by_cases h5 : act = 5
 ·subst h5
  have HB := hid hB
  clear hB ru gx
  go_wp2_with fail
  go_ret
  exact ⟨_, rfl, by rw [HS5.out]; exact OwnP.nil, HB.out⟩
 by_cases h6 : act = 6
 ·subst h6
  have HB := hid hB
  have HRu := hid ru
  have hds : Hid (∀ d ∈ ownD u, 0 ≤ d.n ∧ d.n ≤ 1099511627778) := fun d hd => bnd_right HUR.out d (ownD_dots hd)
  clear hB ru gx
  go_wp2_with fail
  refine (r10own_any u _ _ _ HRu.out (by omega) hds.out).mono ?_
  rintro e w3 ⟨v3, rfl, ho3, hb3⟩
  go_wp2_with fail
  go_ret
  exact ⟨_, rfl, by rw [HS6.out]; exact ho3.mono (by simp; omega), HB.out.trans (hb3.mono (by simp; omega))⟩
 ·have HSD := hid (HS7.out act ⟨by omega, by omega, h5, h6⟩)
  have HB := hid hB
  have HRu := hid ru
  have hds := hid (bnd_right HUR.out)
  have e3 : (act == 3) = false := by simp; omega
  have e4 : (act == 4) = false := by simp; omega
  have e5 : (act == 5) = false := by simpa using h5
  have e6 : (act == 6) = false := by simpa using h6
  clear hB ru gx h34 h5 h6
  go_wp2_with fail
  refine (r08dots_any u _ _ _ HRu.out (by omega) hds.out).mono ?_
  rintro e w3 ⟨v3, rfl, ho3, hb3⟩
  go_wp2_with fail
  go_ret
  exact ⟨_, rfl, by rw [HSD.out]; exact ho3.mono (by simp; omega), HB.out.trans (hb3.mono (by simp; omega))⟩
end Go.Proofs.YtlapdmgjfdelnaaGreat
namespace Go.Proofs.YtlapdmgjfdelnaaGreat
open Go.RowKit
set_option maxRecDepth 100000
theorem see_len {t : Tr} (o : Opr) (hN : t.sz ≤ 200) : (ctxOf (seesD t o)).length ≤ 5000 := by
 have h1 := ctxOf_len (seesD t o)
 have h2 := sees_len t o
 omega
theorem put_eq {t : Tr} {o : Opr} {d : Dt} (h : appI t o d = 0) : ctxBy (ctxOf (seesD t o)) [⟨d.dc, d.n, d.n⟩] 0 = appC t o d := by
 obtain ⟨h1, h2, h3, _⟩ := app_ok h
 obtain ⟨g1, g2, g3⟩ := chkT_dots h3
 unfold appC
 rw [if_pos h, ctx_add g2 fun x hx => dots_right h1 x (sees_right h1 x hx)]
set_option maxHeartbeats 8000000 in
theorem r15apply_any (t : Tr) (o : Opr) (d : Dt) (ve vk vp : Value) (w : World) (h : t.rd w w.heap.size ve vk) (hp : SlP w w.heap.size 1 StE vp o.path) (ho : o.Ok) (hd : d.Ok) (hl : o.path.length ≤ 1000) (hN : t.sz ≤ 200) :
  Calls Tryz.prog 87 #[.agg #[ve, vk], .agg #[vp, .int .i64 o.act, .string o.s, .int .i64 o.n], .agg #[.int .i64 d.dc, .int .i64 d.n]] w (RetCE w (appT t o d) (appC t o d) (appI t o d)) := by
 have HC : Hid (∀ w', Below w.heap.size w w' → t.rd w' w'.heap.size ve vk) := fun w' hb => rd_below hb hb.size _ _ _ h
 have HD : Hid (∀ w', Below w.heap.size w w' → SlP w' w'.heap.size 1 StE vp o.path) := fun w' hb => hp.imp hb hb.size fun _ _ _ h => h
 obtain ⟨A3, n3, A4, n4, rfl, rfl⟩ := rd_shape h
 obtain ⟨A5, n5, rfl, p1, p2, p3⟩ := hp
 unfold Big at p2
 have HO := hid ho
 obtain ⟨oa, on, os⟩ := ho
 obtain ⟨path, act, s, n⟩ := o
 simp only at oa on os p1 p2 p3 HD HO hl ⊢
 have hb0 := ((((Below.refl w.heap.size w).alloc (Nat.le_refl _) (.cells #[.slice A3 t.es.length n3, .slice A4 t.ks.length n4] 25)).alloc (by simp) (.cells #[.slice A5 path.length n5, .int .i64 act, .string s, .int .i64 n] 67)).alloc (by simp; omega) (.cells #[.int .i64 d.dc, .int .i64 d.n] 52)).alloc (by simp; omega) (.cells #[.slice none 0 0, .slice none 0 0, .slice none 0 0] 29)
 have HX : Hid (∀ W, Below (w.heap.size + 4) ((((w.alloc (.cells #[.slice A3 t.es.length n3, .slice A4 t.ks.length n4] 25)).alloc (.cells #[.slice A5 path.length n5, .int .i64 act, .string s, .int .i64 n] 67)).alloc (.cells #[.int .i64 d.dc, .int .i64 d.n] 52)).alloc (.cells #[.slice none 0 0, .slice none 0 0, .slice none 0 0] 29)) W →
   (Below w.heap.size w W ∧ t.rd W W.heap.size (.slice A3 t.es.length n3) (.slice A4 t.ks.length n4) ∧ SlP W W.heap.size 1 StE (.slice A5 path.length n5) path ∧ W.cell? ⟨w.heap.size, 0, none⟩ = some (.slice A3 t.es.length n3) ∧ W.cell? ⟨w.heap.size, 1, none⟩ = some (.slice A4 t.ks.length n4) ∧ W.cell? ⟨w.heap.size + 1, 0, none⟩ = some (.slice A5 path.length n5) ∧ W.cell? ⟨w.heap.size + 1, 1, none⟩ = some (.int .i64 act) ∧ W.cell? ⟨w.heap.size + 1, 2, none⟩ = some (.string s) ∧ W.cell? ⟨w.heap.size + 1, 3, none⟩ = some (.int .i64 n) ∧
    W.cell? ⟨w.heap.size + 2, 0, none⟩ = some (.int .i64 d.dc) ∧ W.cell? ⟨w.heap.size + 2, 1, none⟩ = some (.int .i64 d.n) ∧ W.heap[w.heap.size + 3]? = some (.cells #[.slice none 0 0, .slice none 0 0, .slice none 0 0] 29 (0, 0)))) := fun W hW => by
  have g0 : W.heap[w.heap.size]? = some (.cells #[.slice A3 t.es.length n3, .slice A4 t.ks.length n4] 25 (0, 0)) := (hW.block _ (by omega)).trans ((heap_old (by simp <;> omega)).trans ((heap_old (by simp <;> omega)).trans ((heap_old (by simp)).trans (heap_new rfl))))
  have g1 : W.heap[w.heap.size + 1]? = some (.cells #[.slice A5 path.length n5, .int .i64 act, .string s, .int .i64 n] 67 (0, 0)) := (hW.block _ (by omega)).trans ((heap_old (by simp <;> omega)).trans ((heap_old (by simp)).trans (heap_new (by simp))))
  have g2 : W.heap[w.heap.size + 2]? = some (.cells #[.int .i64 d.dc, .int .i64 d.n] 52 (0, 0)) := (hW.block _ (by omega)).trans ((heap_old (by simp)).trans (heap_new (by simp)))
  have g3 : W.heap[w.heap.size + 3]? = some (.cells #[.slice none 0 0, .slice none 0 0, .slice none 0 0] 29 (0, 0)) := (hW.block _ (by omega)).trans (heap_new (by simp))
  have hB := hb0.trans (hW.mono (by omega))
  exact ⟨hB, HC.out _ hB, HD.out _ hB, cell_cells (i := 0) g0, cell_cells (i := 1) g0, cell_cells (i := 0) g1, cell_cells (i := 1) g1, cell_cells (i := 2) g1, cell_cells (i := 3) g1, cell_cells (i := 0) g2, cell_cells (i := 1) g2, g3⟩
 clear h p3
 go_enter Tryz.func87, Tryz.ntmps87
 go_wp2_with fail
 obtain ⟨hB, rt, rp, c0, c1, p4, p5, p6, p7, d0, d1, g3⟩ := HX.out _ (Below.refl _ _)
 refine (r08Right_any t _ _ _ rt).mono ?_
 cases ht : t.right 5
 ·rintro e w1 ⟨rfl, hb1⟩
  have HBN := hid (hb1.mono (show w.heap.size + 4 ≤ _ by simp))
  have hAE : appI t ⟨path, act, s, n⟩ d = 1 := by unfold appI; rw [ht]; rfl
  have HAE := hid hAE
  obtain ⟨hAT, hAC⟩ := app_err (t := t) (o := ⟨path, act, s, n⟩) (d := d) (by rw [hAE]; first | decide | assumption)
  have HAT := hid hAT
  have HAC := hid hAC
  clear hAE hAT hAC
  clear hB rt rp c0 c1 p4 p5 p6 p7 d0 d1 g3 ht hb1
  have hG := (HX.out _ HBN.out).2.2.2.2.2.2.2.2.2.2.2
  have hBz := (HX.out _ HBN.out).1
  have HG := hid hG
  have HBZ := hid hBz
  have k0 := cell_cells (i := 0) hG
  have k1 := cell_cells (i := 1) hG
  have k2 := cell_cells (i := 2) hG
  simp only [List.getElem?_toArray, List.getElem?_cons_zero, List.getElem?_cons_succ] at k0 k1 k2
  have z0 := cells_frz (i := 0) hG
  have z1 := cells_frz (i := 1) hG
  have z2 := cells_frz (i := 2) hG
  clear hG hBz
  go_wp2_with fail
  obtain ⟨r0, r1, r2, q1, q2, q3⟩ := box_fin (N := w.heap.size + 4) (T := .mk [] []) (C := []) HG.out HBZ.out (by omega) (by omega) (rda_nil _ _) SlA.nil
  exact bodyPost_ret (v := .tuple #[.agg #[.slice none 0 0, .slice none 0 0, .slice none 0 0], .int .i64 1]) (by simp [results, Tryz.results87, go_sem, r0, r1, r2] <;> rfl) rfl ⟨_, _, _, by rw [HAE.out], by rw [HAT.out]; exact q1, by rw [HAC.out]; exact q2, q3⟩
 rintro e w1 ⟨rfl, hb1⟩
 have HBN := hid (hb1.mono (show w.heap.size + 4 ≤ _ by simp))
 clear hB rt rp c0 c1 p4 p5 p6 p7 d0 d1 g3 hb1
 obtain ⟨hB, rt, rp, c0, c1, p4, p5, p6, p7, d0, d1, g3⟩ := HX.out _ HBN.out
 have HT := hid ht
 clear ht
 go_wp2_with fail
 refine (r15op_any ⟨path, act, s, n⟩ _ _ rp HO.out).mono ?_
 by_cases hi : opI ⟨path, act, s, n⟩ = 0
 case neg =>
  rintro e w2 ⟨rfl, hb2⟩
  have HBN2 := hid (HBN.out.trans (hb2.mono (by have := HBN.out.size; simpa using this)))
  have hne : (opI ⟨path, act, s, n⟩ == 0) = false := by simpa using hi
  have hAE : appI t ⟨path, act, s, n⟩ d = (opI ⟨path, act, s, n⟩) := by unfold appI; rw [HT.out]; simp only [Bool.not_true, Bool.false_eq_true, if_false]; rw [if_pos hi]
  have HAE := hid hAE
  obtain ⟨hAT, hAC⟩ := app_err (t := t) (o := ⟨path, act, s, n⟩) (d := d) (by rw [hAE]; first | decide | assumption)
  have HAT := hid hAT
  have HAC := hid hAC
  clear hAE hAT hAC
  clear hB rt rp c0 c1 p4 p5 p6 p7 d0 d1 g3 hb2 hi HBN
  have HBN := HBN2
  have hG := (HX.out _ HBN.out).2.2.2.2.2.2.2.2.2.2.2
  have hBz := (HX.out _ HBN.out).1
  have HG := hid hG
  have HBZ := hid hBz
  have k0 := cell_cells (i := 0) hG
  have k1 := cell_cells (i := 1) hG
  have k2 := cell_cells (i := 2) hG
  simp only [List.getElem?_toArray, List.getElem?_cons_zero, List.getElem?_cons_succ] at k0 k1 k2
  have z0 := cells_frz (i := 0) hG
  have z1 := cells_frz (i := 1) hG
  have z2 := cells_frz (i := 2) hG
  clear hG hBz
  go_wp2_with fail
  obtain ⟨r0, r1, r2, q1, q2, q3⟩ := box_fin (N := w.heap.size + 4) (T := .mk [] []) (C := []) HG.out HBZ.out (by omega) (by omega) (rda_nil _ _) SlA.nil
  exact bodyPost_ret (v := .tuple #[.agg #[.slice none 0 0, .slice none 0 0, .slice none 0 0], .int .i64 (opI ⟨path, act, s, n⟩)]) (by simp [results, Tryz.results87, go_sem, r0, r1, r2] <;> rfl) rfl ⟨_, _, _, by rw [HAE.out], by rw [HAT.out]; exact q1, by rw [HAC.out]; exact q2, q3⟩
 rw [hi]
 rintro e w2 ⟨rfl, hb2⟩
 have HBN2 := hid (HBN.out.trans (hb2.mono (by have := HBN.out.size; simpa using this)))
 have HI := hid hi
 clear hB rt rp c0 c1 p4 p5 p6 p7 d0 d1 g3 hb2 hi HBN
 have HBN := HBN2
 clear HBN2
 obtain ⟨hB, rt, rp, c0, c1, p4, p5, p6, p7, d0, d1, g3⟩ := HX.out _ HBN.out
 go_wp2_with fail
 refine (r10check_any t d _ _ _ rt (by omega)).mono ?_
 cases hk : chkT t d
 ·rintro e w3 ⟨rfl, hb3⟩
  have HBN2 := hid (HBN.out.trans (hb3.mono (by have := HBN.out.size; simpa using this)))
  have hAE : appI t ⟨path, act, s, n⟩ d = 1 := by unfold appI; rw [HT.out, HI.out, hk]; rfl
  have HAE := hid hAE
  obtain ⟨hAT, hAC⟩ := app_err (t := t) (o := ⟨path, act, s, n⟩) (d := d) (by rw [hAE]; first | decide | assumption)
  have HAT := hid hAT
  have HAC := hid hAC
  clear hAE hAT hAC
  clear hB rt rp c0 c1 p4 p5 p6 p7 d0 d1 g3 hb3 hk HBN
  have HBN := HBN2
  have hG := (HX.out _ HBN.out).2.2.2.2.2.2.2.2.2.2.2
  have hBz := (HX.out _ HBN.out).1
  have HG := hid hG
  have HBZ := hid hBz
  have k0 := cell_cells (i := 0) hG
  have k1 := cell_cells (i := 1) hG
  have k2 := cell_cells (i := 2) hG
  simp only [List.getElem?_toArray, List.getElem?_cons_zero, List.getElem?_cons_succ] at k0 k1 k2
  have z0 := cells_frz (i := 0) hG
  have z1 := cells_frz (i := 1) hG
  have z2 := cells_frz (i := 2) hG
  clear hG hBz
  go_wp2_with fail
  obtain ⟨r0, r1, r2, q1, q2, q3⟩ := box_fin (N := w.heap.size + 4) (T := .mk [] []) (C := []) HG.out HBZ.out (by omega) (by omega) (rda_nil _ _) SlA.nil
  exact bodyPost_ret (v := .tuple #[.agg #[.slice none 0 0, .slice none 0 0, .slice none 0 0], .int .i64 1]) (by simp [results, Tryz.results87, go_sem, r0, r1, r2] <;> rfl) rfl ⟨_, _, _, by rw [HAE.out], by rw [HAT.out]; exact q1, by rw [HAC.out]; exact q2, q3⟩
 rintro e w3 ⟨rfl, hb3⟩
 have HBN2 := hid (HBN.out.trans (hb3.mono (by have := HBN.out.size; simpa using this)))
 have HK := hid hk
 clear hB rt rp c0 c1 p4 p5 p6 p7 d0 d1 g3 hb3 hk HBN
 have HBN := HBN2
 clear HBN2
 obtain ⟨hB, rt, rp, c0, c1, p4, p5, p6, p7, d0, d1, g3⟩ := HX.out _ HBN.out
 go_wp2_with fail
 refine (full15_any t ⟨path, act, s, n⟩ _ _ _ _ rt rp HO.out HT.out hl (by omega)).mono ?_
 cases hf : fullB t ⟨path, act, s, n⟩
 case true =>
  rintro e w4 ⟨rfl, hb4⟩
  have HBN2 := hid (HBN.out.trans (hb4.mono (by have := HBN.out.size; simpa using this)))
  have hAE : appI t ⟨path, act, s, n⟩ d = 4 := by unfold appI; rw [HT.out, HI.out, HK.out, hf]; rfl
  have HAE := hid hAE
  obtain ⟨hAT, hAC⟩ := app_err (t := t) (o := ⟨path, act, s, n⟩) (d := d) (by rw [hAE]; first | decide | assumption)
  have HAT := hid hAT
  have HAC := hid hAC
  clear hAE hAT hAC
  clear hB rt rp c0 c1 p4 p5 p6 p7 d0 d1 g3 hb4 hf HBN
  have HBN := HBN2
  have hG := (HX.out _ HBN.out).2.2.2.2.2.2.2.2.2.2.2
  have hBz := (HX.out _ HBN.out).1
  have HG := hid hG
  have HBZ := hid hBz
  have k0 := cell_cells (i := 0) hG
  have k1 := cell_cells (i := 1) hG
  have k2 := cell_cells (i := 2) hG
  simp only [List.getElem?_toArray, List.getElem?_cons_zero, List.getElem?_cons_succ] at k0 k1 k2
  have z0 := cells_frz (i := 0) hG
  have z1 := cells_frz (i := 1) hG
  have z2 := cells_frz (i := 2) hG
  clear hG hBz
  go_wp2_with fail
  obtain ⟨r0, r1, r2, q1, q2, q3⟩ := box_fin (N := w.heap.size + 4) (T := .mk [] []) (C := []) HG.out HBZ.out (by omega) (by omega) (rda_nil _ _) SlA.nil
  exact bodyPost_ret (v := .tuple #[.agg #[.slice none 0 0, .slice none 0 0, .slice none 0 0], .int .i64 4]) (by simp [results, Tryz.results87, go_sem, r0, r1, r2] <;> rfl) rfl ⟨_, _, _, by rw [HAE.out], by rw [HAT.out]; exact q1, by rw [HAC.out]; exact q2, q3⟩
 rintro e w4 ⟨rfl, hb4⟩
 have HBN2 := hid (HBN.out.trans (hb4.mono (by have := HBN.out.size; simpa using this)))
 have HAE : Hid (appI t ⟨path, act, s, n⟩ d = 0) := by unfold Hid appI; rw [HT.out, HI.out, HK.out, hf]; rfl
 clear hB rt rp c0 c1 p4 p5 p6 p7 d0 d1 g3 hb4 hf HBN
 have HBN := HBN2
 clear HBN2
 obtain ⟨hB, rt, rp, c0, c1, p4, p5, p6, p7, d0, d1, g3⟩ := HX.out _ HBN.out
 go_wp2_with fail
 refine (entry_any act _).mono ?_
 obtain ⟨ga, gb, gc, gd⟩ := app_ok HAE.out
 have HDR : Hid (d.right = true) := (chkT_dots gc).2.1
 have hcl := see_len (t := t) ⟨path, act, s, n⟩ hN
 have HCR : Hid (∀ x ∈ seesD t ⟨path, act, s, n⟩, x.right = true) := fun x hx => dots_right ga x (sees_right ga x hx)
 obtain ⟨C, HCE⟩ : ∃ C, Hid (ctxOf (seesD t ⟨path, act, s, n⟩) = C) := ⟨_, rfl⟩
 have HPE : Hid (ctxBy C [⟨d.dc, d.n, d.n⟩] 0 = appC t ⟨path, act, s, n⟩ d) := by unfold Hid; rw [← HCE.out]; exact put_eq HAE.out
 have HSO : Hid (SpsOk C) := by unfold Hid; rw [← HCE.out]; exact spsOk_ctxOf HCR.out
 have HSD : Hid (SpsOk [⟨d.dc, d.n, d.n⟩]) := by
  unfold Hid; rw [← ctxOf_one HDR.out]; exact spsOk_ctxOf (right_one HDR.out)
 rw [HCE.out] at hcl
 have HKY := hid (end_keys gb)
 have hel := (end_keys gb).2.2.1
 clear ga gb gc gd
 cases he : entryB act
 ·rintro e w5 ⟨rfl, hb5⟩
  have HBN2 := hid (HBN.out.trans (hb5.mono (by have := HBN.out.size; simpa using this)))
  have HAT : Hid (appT t ⟨path, act, s, n⟩ d = .mk [] []) := by unfold Hid appT; simp only [he]; simp
  clear hB rt rp c0 c1 p4 p5 p6 p7 d0 d1 g3 hb5 he HBN
  have HBN := HBN2
  clear HBN2
  obtain ⟨hB, rt, rp, c0, c1, p4, p5, p6, p7, d0, d1, g3⟩ := HX.out _ HBN.out
  have hs5 := HBN.out.size
  simp only [World.size_alloc] at hs5
  have HKK : Hid (∀ W, Below w5.heap.size w5 W → (W.cell? ⟨w.heap.size, 0, none⟩ = some (.slice A3 t.es.length n3) ∧ W.cell? ⟨w.heap.size, 1, none⟩ = some (.slice A4 t.ks.length n4) ∧ W.cell? ⟨w.heap.size + 1, 0, none⟩ = some (.slice A5 path.length n5) ∧ W.cell? ⟨w.heap.size + 1, 1, none⟩ = some (.int .i64 act) ∧ W.cell? ⟨w.heap.size + 1, 2, none⟩ = some (.string s) ∧ W.cell? ⟨w.heap.size + 1, 3, none⟩ = some (.int .i64 n) ∧ W.cell? ⟨w.heap.size + 2, 0, none⟩ = some (.int .i64 d.dc) ∧ W.cell? ⟨w.heap.size + 2, 1, none⟩ = some (.int .i64 d.n))) := fun W hW => by
   obtain ⟨_, _, _, a0, a1, a2, a3, a4, a5, a6, a7, _⟩ := HX.out W (HBN.out.trans (hW.mono (by omega)))
   exact ⟨a0, a1, a2, a3, a4, a5, a6, a7⟩
  have HGZ : Hid (∀ W, Below w5.heap.size w5 W → W.heap[w.heap.size + 3]? = some (.cells #[.slice none 0 0, .slice none 0 0, .slice none 0 0] 29 (0, 0))) := fun W hW => (HX.out W (HBN.out.trans (hW.mono (by omega)))).2.2.2.2.2.2.2.2.2.2.2
  have HRT := hid rt
  have HRP := hid rp
  have HBB := hid hB
  have HY : Hid (∀ W, Below w5.heap.size w5 W → (t.rd W W.heap.size (.slice A3 t.es.length n3) (.slice A4 t.ks.length n4) ∧ SlP W W.heap.size 1 StE (.slice A5 path.length n5) path)) := fun W hW => ⟨rd_below hW hW.size _ _ _ HRT.out, HRP.out.imp hW hW.size fun _ _ _ h => h⟩
  have HDO := hid hd
  clear rt rp hB g3
  have hn0 : ¬ (w.heap.size = w.heap.size + 1 + 1 + 1) := by omega
  have hn1 : ¬ (w.heap.size + 1 + 1 + 1 = w.heap.size) := by omega
  have hn2 : ¬ (w.heap.size + 1 = w.heap.size + 1 + 1 + 1) := by omega
  have hn3 : ¬ (w.heap.size = w.heap.size + 1 + 1) := by omega
  have hn4 : ¬ (w.heap.size + 1 + 1 = w.heap.size) := by omega
  have hn5 : ¬ (w.heap.size + 1 + 1 + 1 = w5.heap.size) := by omega
  have hn6 : ¬ (w5.heap.size = w.heap.size + 1 + 1 + 1) := by omega
  go_upto_region 11 with (fail)
  go_region_held3 (fun W => W.cell? ⟨w.heap.size, 0, none⟩ = some (.slice A3 t.es.length n3) ∧ W.cell? ⟨w.heap.size, 1, none⟩ = some (.slice A4 t.ks.length n4) ∧ W.cell? ⟨w.heap.size + 1, 0, none⟩ = some (.slice A5 path.length n5) ∧ W.cell? ⟨w.heap.size + 1, 1, none⟩ = some (.int .i64 act) ∧ W.cell? ⟨w.heap.size + 1, 2, none⟩ = some (.string s) ∧ W.cell? ⟨w.heap.size + 1, 3, none⟩ = some (.int .i64 n) ∧ W.cell? ⟨w.heap.size + 2, 0, none⟩ = some (.int .i64 d.dc) ∧ W.cell? ⟨w.heap.size + 2, 1, none⟩ = some (.int .i64 d.n))
   (first | go_keep | exact HKK.out _ hbr7.out | exact HKK.out _ hbr6.out | exact HKK.out _ (by go_grown) | fail)
   (first
    | (go_at_call 144; go_loud ((refine (sees15_any t ⟨path, act, s, n⟩ _ _ _ _ (HY.out _ (by go_grown)).1 (HY.out _ (by go_grown)).2 HO.out HT.out hl (by omega)).mono ?_); rw [HCE.out]; rintro e w6 ⟨v6, rfl, ho6, hb⟩; obtain ⟨A6, c6, hv6⟩ := ho6.shape; subst hv6; have hbr6 : Hid (Below w5.heap.size w5 w6) := hid (Below.trans (by go_grown) (hb.mono (by first | omega | (simp; done) | (simp; omega)))); have hsr6 := hbr6.out.size; have HS6 := hid (ho6.sl (by unfold Big; omega)); clear ho6 hb))
    | (go_at_call 143; go_loud ((refine (r10gone_any d C _ w6 HDO.out HS6.out (by omega) HSO.out HSD.out).mono ?_); rw [HPE.out]; rintro e w7 ⟨ve7, vk7, vc7, rfl, hrd7, hsl7, hb⟩; obtain ⟨Ar7, nr7, Br7, mr7, hv1, hv2⟩ := rda_shape hrd7; subst hv1; subst hv2; obtain ⟨Dr7, kr7, hv3⟩ := hsl7.shape; subst hv3; have hbr7 : Hid (Below w5.heap.size w5 w7) := hid (hbr6.out.trans (hb.mono (by omega))); have hsr7 := hbr7.out.size; have HR7 := hid hrd7; have HL7 := hid hsl7; have HG7 := hid (HGZ.out _ hbr7.out); have k0 := cell_cells (i := 0) HG7.out; have k1 := cell_cells (i := 1) HG7.out; have k2 := cell_cells (i := 2) HG7.out; simp only [List.getElem?_toArray, List.getElem?_cons_zero, List.getElem?_cons_succ] at k0 k1 k2; have z0 := cells_frz (i := 0) HG7.out; have z1 := cells_frz (i := 1) HG7.out; have z2 := cells_frz (i := 2) HG7.out; clear hrd7 hsl7 hb)))
  all_goals (
   go_wp2_with fail
   obtain ⟨r0, r1, r2, q1, q2, q3⟩ := box_fin (N := w6.heap.size) HG7.out (HBB.out.trans (hbr7.out.mono (by omega))) (by omega) (by omega) HR7.out HL7.out
   exact bodyPost_ret (v := .tuple #[.agg #[.slice Ar7 (Tr.mk [] []).es.length nr7, .slice Br7 (Tr.mk [] []).ks.length mr7, .slice Dr7 (appC t ⟨path, act, s, n⟩ d).length kr7], .int .i64 0]) (by simp [results, Tryz.results87, go_sem, r0, r1, r2] <;> rfl) rfl ⟨_, _, _, by rw [HAE.out], by rw [HAT.out]; exact q1, q2, q3⟩)
 rintro e w5 ⟨rfl, hb5⟩
 have HBN2 := hid (HBN.out.trans (hb5.mono (by have := HBN.out.size; simpa using this)))
 have HAT : Hid (appT t ⟨path, act, s, n⟩ d = pathT (endP ⟨path, act, s, n⟩) (entE ⟨path, act, s, n⟩ d)) := by unfold Hid appT; rw [if_pos ⟨HAE.out, he⟩]
 clear hB rt rp c0 c1 p4 p5 p6 p7 d0 d1 g3 hb5 he HBN
 have HBN := HBN2
 clear HBN2
 obtain ⟨q, HQ⟩ : ∃ q, Hid (endP ⟨path, act, s, n⟩ = q) := ⟨_, rfl⟩
 rw [HQ.out] at HAT hel
 obtain ⟨es, HES⟩ : ∃ es, Hid ((entE ⟨path, act, s, n⟩ d).s = es) := ⟨_, rfl⟩
 have HEN : Hid (entE ⟨path, act, s, n⟩ d = ⟨d.dc, d.n, es, n⟩) := by unfold Hid; rw [← HES.out]; rfl
 have HBT : Hid (buildL [(q, ⟨d.dc, d.n, es, n⟩)] = appT t ⟨path, act, s, n⟩ d) := by unfold Hid; rw [HAT.out, HEN.out]; exact pathT_build (by rw [← HQ.out]; exact HKY.out.2.1)
 have HEO : Hid ((⟨d.dc, d.n, es, n⟩ : En).Ok) := by
  refine ⟨hd.dc, hd.n, on, ?_⟩
  show es.size ≤ Big
  rw [← HES.out]; unfold entE; simp only; split
  ·exact os
  ·decide
 have hs5 := HBN.out.size
 simp only [World.size_alloc] at hs5
 obtain ⟨hB, rt, rp, c0, c1, p4, p5, p6, p7, d0, d1, g3⟩ := HX.out _ HBN.out
 have HRT := hid rt
 have HRP := hid rp
 have HBB := hid hB
 have HY : Hid (∀ W, Below w5.heap.size w5 W → (t.rd W W.heap.size (.slice A3 t.es.length n3) (.slice A4 t.ks.length n4) ∧ SlP W W.heap.size 1 StE (.slice A5 path.length n5) path)) := fun W hW => ⟨rd_below hW hW.size _ _ _ HRT.out, HRP.out.imp hW hW.size fun _ _ _ h => h⟩
 clear rt rp hB g3
 have HZ0 : Hid (Below w5.heap.size w5 (w5.alloc (.cells #[.int .i64 d.dc, .int .i64 d.n, .string ⟨#[]⟩, .int .i64 n] 113))) := hid ((Below.refl _ w5).alloc (Nat.le_refl _) _)
 have HZ1 : Hid ((w5.alloc (.cells #[.int .i64 d.dc, .int .i64 d.n, .string ⟨#[]⟩, .int .i64 n] 113)).heap[w5.heap.size]? = some (.cells #[.int .i64 d.dc, .int .i64 d.n, .string ⟨#[]⟩, .int .i64 n] 113 (0, 0))) := hid (heap_new rfl)
 have z9 := cells_frz (i := 2) HZ1.out
 obtain ⟨_, _, _, _, _, _, xa1, xa2, _⟩ := HX.out _ (HBN.out.trans (HZ0.out.mono (by omega)))
 by_cases ha : act = 6
 ·have hes : es = s := by rw [← HES.out]; unfold entE; simp [ha]
  have ha6 : (act == 6) = true := by simpa using ha
  clear ha
  go_wp2_with fail
  obtain ⟨wz, hwz⟩ : ∃ z : World, z = (w5.alloc (.cells #[.int .i64 d.dc, .int .i64 d.n, .string s, .int .i64 n] 113)) := ⟨_, rfl⟩
  have HVZ : Hid (Below w5.heap.size w5 wz) := by rw [hwz]; exact hid ((Below.refl _ w5).alloc (Nat.le_refl _) _)
  have HEZ : Hid (wz.heap[w5.heap.size]? = some (.cells #[.int .i64 d.dc, .int .i64 d.n, .string es, .int .i64 n] 113 (0, 0))) := by rw [hwz, hes]; exact hid (heap_new rfl)
  rw [← hwz]
  have hzs : w5.heap.size + 1 ≤ wz.heap.size := by have := lt_of_block HEZ.out; omega
  clear hes hwz HZ0 HZ1 z9 xa1 xa2 c0 c1 p4 p5 p6 p7 d0 d1
  have hn0 : ¬ (w.heap.size = w.heap.size + 1 + 1 + 1) := by omega
  have hn1 : ¬ (w.heap.size + 1 + 1 + 1 = w.heap.size) := by omega
  have hn2 : ¬ (w.heap.size + 1 = w.heap.size + 1 + 1 + 1) := by omega
  have hn3 : ¬ (w.heap.size = w.heap.size + 1 + 1) := by omega
  have hn4 : ¬ (w.heap.size + 1 + 1 = w.heap.size) := by omega
  have hn5 : ¬ (w.heap.size + 1 + 1 + 1 = w5.heap.size) := by omega
  have hn6 : ¬ (w5.heap.size = w.heap.size + 1 + 1 + 1) := by omega
  have hsz := HVZ.out.size
  have HKK : Hid (∀ W, Below wz.heap.size wz W → (W.cell? ⟨w.heap.size, 0, none⟩ = some (.slice A3 t.es.length n3) ∧ W.cell? ⟨w.heap.size, 1, none⟩ = some (.slice A4 t.ks.length n4) ∧ W.cell? ⟨w.heap.size + 1, 0, none⟩ = some (.slice A5 path.length n5) ∧ W.cell? ⟨w.heap.size + 1, 1, none⟩ = some (.int .i64 act) ∧ W.cell? ⟨w.heap.size + 1, 2, none⟩ = some (.string s) ∧ W.cell? ⟨w.heap.size + 1, 3, none⟩ = some (.int .i64 n) ∧ W.cell? ⟨w5.heap.size, 0, none⟩ = some (.int .i64 d.dc) ∧ W.cell? ⟨w5.heap.size, 1, none⟩ = some (.int .i64 d.n) ∧ W.cell? ⟨w5.heap.size, 2, none⟩ = some (.string es) ∧ W.cell? ⟨w5.heap.size, 3, none⟩ = some (.int .i64 n))) := fun W hW => by
   obtain ⟨_, _, _, a0, a1, a2, a3, a4, a5, _⟩ := HX.out W (HBN.out.trans ((HVZ.out.trans (hW.mono hsz)).mono (by omega)))
   have g := (hW.block w5.heap.size (by omega)).trans HEZ.out
   exact ⟨a0, a1, a2, a3, a4, a5, cell_cells (i := 0) g, cell_cells (i := 1) g, cell_cells (i := 2) g, cell_cells (i := 3) g⟩
  have HGZ : Hid (∀ W, Below wz.heap.size wz W → W.heap[w.heap.size + 3]? = some (.cells #[.slice none 0 0, .slice none 0 0, .slice none 0 0] 29 (0, 0))) := fun W hW => (HX.out W (HBN.out.trans ((HVZ.out.trans (hW.mono hsz)).mono (by omega)))).2.2.2.2.2.2.2.2.2.2.2
  have HYZ : Hid (∀ W, Below wz.heap.size wz W → (t.rd W W.heap.size (.slice A3 t.es.length n3) (.slice A4 t.ks.length n4) ∧ SlP W W.heap.size 1 StE (.slice A5 path.length n5) path)) := fun W hW => HY.out W (HVZ.out.trans (hW.mono hsz))
  obtain ⟨b0, b1, b2, b3, b4, b5, b6, b7, b8, b9⟩ := HKK.out _ (Below.refl _ _)
  go_upto_region 15 with (fail)
  go_region_held3 (fun W => W.cell? ⟨w.heap.size, 0, none⟩ = some (.slice A3 t.es.length n3) ∧ W.cell? ⟨w.heap.size, 1, none⟩ = some (.slice A4 t.ks.length n4) ∧ W.cell? ⟨w.heap.size + 1, 0, none⟩ = some (.slice A5 path.length n5) ∧ W.cell? ⟨w.heap.size + 1, 1, none⟩ = some (.int .i64 act) ∧ W.cell? ⟨w.heap.size + 1, 2, none⟩ = some (.string s) ∧ W.cell? ⟨w.heap.size + 1, 3, none⟩ = some (.int .i64 n) ∧ W.cell? ⟨w5.heap.size, 0, none⟩ = some (.int .i64 d.dc) ∧ W.cell? ⟨w5.heap.size, 1, none⟩ = some (.int .i64 d.n) ∧ W.cell? ⟨w5.heap.size, 2, none⟩ = some (.string es) ∧ W.cell? ⟨w5.heap.size, 3, none⟩ = some (.int .i64 n))
   (first | with_reducible exact HKK.out _ hbr8.out | with_reducible exact HKK.out _ hbr7.out | with_reducible exact HKK.out _ hbr6.out | go_keep | exact HKK.out _ (by go_grown) | fail)
   (first
    | (go_at_call 145; go_loud ((refine (end15_any ⟨path, act, s, n⟩ _ _ (HYZ.out _ (by go_grown)).2 HO.out hl).mono ?_); rw [HQ.out]; rintro e w6 ⟨v6, rfl, ho6, hb⟩; obtain ⟨A6, c6, hv6⟩ := ho6.shape; subst hv6; have hbr6 : Hid (Below wz.heap.size wz w6) := hid (Below.trans (by go_grown) (hb.mono (by first | omega | (simp; done) | (simp; omega)))); have hsr6 := hbr6.out.size; have HS6 := hid (ho6.sl (by unfold Big; omega)); clear ho6 hb))
    | (go_at_call 144; go_loud ((refine (sees15_any t ⟨path, act, s, n⟩ _ _ _ w6 (HYZ.out _ hbr6.out).1 (HYZ.out _ hbr6.out).2 HO.out HT.out hl (by omega)).mono ?_); rw [HCE.out]; rintro e w7 ⟨v7, rfl, ho7, hb⟩; obtain ⟨A7, c7, hv7⟩ := ho7.shape; subst hv7; have hbr7 : Hid (Below wz.heap.size wz w7) := hid (hbr6.out.trans (hb.mono (by omega))); have hsr7 := hbr7.out.size; have HS7 := hid (ho7.sl (by unfold Big; omega)); have HS67 : Hid (SlP w7 w7.heap.size 1 StE (.slice A6 q.length c6) q) := hid (HS6.out.imp hb hb.size fun _ _ _ h => h); clear ho7 hb))
    | (go_at_call 73; go_loud ((refine (r10put_any q ⟨d.dc, d.n, es, n⟩ C _ _ w7 HEO.out HS67.out HS7.out (by omega) HSO.out HSD.out).mono ?_); rw [HPE.out, HBT.out]; rintro e w8 ⟨ve8, vk8, vc8, rfl, hrd8, hsl8, hb⟩; obtain ⟨Ar8, nr8, Br8, mr8, hv1, hv2⟩ := rda_shape hrd8; subst hv1; subst hv2; obtain ⟨Dr8, kr8, hv3⟩ := hsl8.shape; subst hv3; have hbr8 : Hid (Below wz.heap.size wz w8) := hid (hbr7.out.trans (hb.mono (by omega))); have hsr8 := hbr8.out.size; have HR8 := hid hrd8; have HL8 := hid hsl8; have HG8 := hid (HGZ.out _ hbr8.out); have k0 := cell_cells (i := 0) HG8.out; have k1 := cell_cells (i := 1) HG8.out; have k2 := cell_cells (i := 2) HG8.out; simp only [List.getElem?_toArray, List.getElem?_cons_zero, List.getElem?_cons_succ] at k0 k1 k2; have z0 := cells_frz (i := 0) HG8.out; have z1 := cells_frz (i := 1) HG8.out; have z2 := cells_frz (i := 2) HG8.out; clear hrd8 hsl8 hb)))
  all_goals (
   go_wp2_with fail
   obtain ⟨r0, r1, r2, q1, q2, q3⟩ := box_fin (N := w7.heap.size) HG8.out (HBB.out.trans ((HVZ.out.trans (hbr8.out.mono (by omega))).mono (by omega))) (by omega) (by omega) HR8.out HL8.out
   exact bodyPost_ret (v := .tuple #[.agg #[.slice Ar8 (appT t ⟨path, act, s, n⟩ d).es.length nr8, .slice Br8 (appT t ⟨path, act, s, n⟩ d).ks.length mr8, .slice Dr8 (appC t ⟨path, act, s, n⟩ d).length kr8], .int .i64 0]) (by simp [results, Tryz.results87, go_sem, r0, r1, r2] <;> rfl) rfl ⟨_, _, _, by rw [HAE.out], q1, q2, q3⟩)
 ·have hes : es = ByteArray.empty := by rw [← HES.out]; unfold entE; simp [ha]
  have ha6 : (act == 6) = false := by simpa using ha
  clear ha
  go_wp2_with fail
  obtain ⟨wz, hwz⟩ : ∃ z : World, z = (w5.alloc (.cells #[.int .i64 d.dc, .int .i64 d.n, .string ⟨#[]⟩, .int .i64 n] 113)) := ⟨_, rfl⟩
  have HVZ : Hid (Below w5.heap.size w5 wz) := by rw [hwz]; exact HZ0
  have HEZ : Hid (wz.heap[w5.heap.size]? = some (.cells #[.int .i64 d.dc, .int .i64 d.n, .string es, .int .i64 n] 113 (0, 0))) := by rw [hwz, hes]; exact HZ1
  rw [← hwz]
  have hzs : w5.heap.size + 1 ≤ wz.heap.size := by have := lt_of_block HEZ.out; omega
  clear hes hwz HZ0 HZ1 z9 xa1 xa2 c0 c1 p4 p5 p6 p7 d0 d1
  have hn0 : ¬ (w.heap.size = w.heap.size + 1 + 1 + 1) := by omega
  have hn1 : ¬ (w.heap.size + 1 + 1 + 1 = w.heap.size) := by omega
  have hn2 : ¬ (w.heap.size + 1 = w.heap.size + 1 + 1 + 1) := by omega
  have hn3 : ¬ (w.heap.size = w.heap.size + 1 + 1) := by omega
  have hn4 : ¬ (w.heap.size + 1 + 1 = w.heap.size) := by omega
  have hn5 : ¬ (w.heap.size + 1 + 1 + 1 = w5.heap.size) := by omega
  have hn6 : ¬ (w5.heap.size = w.heap.size + 1 + 1 + 1) := by omega
  have hsz := HVZ.out.size
  have HKK : Hid (∀ W, Below wz.heap.size wz W → (W.cell? ⟨w.heap.size, 0, none⟩ = some (.slice A3 t.es.length n3) ∧ W.cell? ⟨w.heap.size, 1, none⟩ = some (.slice A4 t.ks.length n4) ∧ W.cell? ⟨w.heap.size + 1, 0, none⟩ = some (.slice A5 path.length n5) ∧ W.cell? ⟨w.heap.size + 1, 1, none⟩ = some (.int .i64 act) ∧ W.cell? ⟨w.heap.size + 1, 2, none⟩ = some (.string s) ∧ W.cell? ⟨w.heap.size + 1, 3, none⟩ = some (.int .i64 n) ∧ W.cell? ⟨w5.heap.size, 0, none⟩ = some (.int .i64 d.dc) ∧ W.cell? ⟨w5.heap.size, 1, none⟩ = some (.int .i64 d.n) ∧ W.cell? ⟨w5.heap.size, 2, none⟩ = some (.string es) ∧ W.cell? ⟨w5.heap.size, 3, none⟩ = some (.int .i64 n))) := fun W hW => by
   obtain ⟨_, _, _, a0, a1, a2, a3, a4, a5, _⟩ := HX.out W (HBN.out.trans ((HVZ.out.trans (hW.mono hsz)).mono (by omega)))
   have g := (hW.block w5.heap.size (by omega)).trans HEZ.out
   exact ⟨a0, a1, a2, a3, a4, a5, cell_cells (i := 0) g, cell_cells (i := 1) g, cell_cells (i := 2) g, cell_cells (i := 3) g⟩
  have HGZ : Hid (∀ W, Below wz.heap.size wz W → W.heap[w.heap.size + 3]? = some (.cells #[.slice none 0 0, .slice none 0 0, .slice none 0 0] 29 (0, 0))) := fun W hW => (HX.out W (HBN.out.trans ((HVZ.out.trans (hW.mono hsz)).mono (by omega)))).2.2.2.2.2.2.2.2.2.2.2
  have HYZ : Hid (∀ W, Below wz.heap.size wz W → (t.rd W W.heap.size (.slice A3 t.es.length n3) (.slice A4 t.ks.length n4) ∧ SlP W W.heap.size 1 StE (.slice A5 path.length n5) path)) := fun W hW => HY.out W (HVZ.out.trans (hW.mono hsz))
  obtain ⟨b0, b1, b2, b3, b4, b5, b6, b7, b8, b9⟩ := HKK.out _ (Below.refl _ _)
  go_upto_region 15 with (fail)
  go_region_held3 (fun W => W.cell? ⟨w.heap.size, 0, none⟩ = some (.slice A3 t.es.length n3) ∧ W.cell? ⟨w.heap.size, 1, none⟩ = some (.slice A4 t.ks.length n4) ∧ W.cell? ⟨w.heap.size + 1, 0, none⟩ = some (.slice A5 path.length n5) ∧ W.cell? ⟨w.heap.size + 1, 1, none⟩ = some (.int .i64 act) ∧ W.cell? ⟨w.heap.size + 1, 2, none⟩ = some (.string s) ∧ W.cell? ⟨w.heap.size + 1, 3, none⟩ = some (.int .i64 n) ∧ W.cell? ⟨w5.heap.size, 0, none⟩ = some (.int .i64 d.dc) ∧ W.cell? ⟨w5.heap.size, 1, none⟩ = some (.int .i64 d.n) ∧ W.cell? ⟨w5.heap.size, 2, none⟩ = some (.string es) ∧ W.cell? ⟨w5.heap.size, 3, none⟩ = some (.int .i64 n))
   (first | with_reducible exact HKK.out _ hbr8.out | with_reducible exact HKK.out _ hbr7.out | with_reducible exact HKK.out _ hbr6.out | go_keep | exact HKK.out _ (by go_grown) | fail)
   (first
    | (go_at_call 145; go_loud ((refine (end15_any ⟨path, act, s, n⟩ _ _ (HYZ.out _ (by go_grown)).2 HO.out hl).mono ?_); rw [HQ.out]; rintro e w6 ⟨v6, rfl, ho6, hb⟩; obtain ⟨A6, c6, hv6⟩ := ho6.shape; subst hv6; have hbr6 : Hid (Below wz.heap.size wz w6) := hid (Below.trans (by go_grown) (hb.mono (by first | omega | (simp; done) | (simp; omega)))); have hsr6 := hbr6.out.size; have HS6 := hid (ho6.sl (by unfold Big; omega)); clear ho6 hb))
    | (go_at_call 144; go_loud ((refine (sees15_any t ⟨path, act, s, n⟩ _ _ _ w6 (HYZ.out _ hbr6.out).1 (HYZ.out _ hbr6.out).2 HO.out HT.out hl (by omega)).mono ?_); rw [HCE.out]; rintro e w7 ⟨v7, rfl, ho7, hb⟩; obtain ⟨A7, c7, hv7⟩ := ho7.shape; subst hv7; have hbr7 : Hid (Below wz.heap.size wz w7) := hid (hbr6.out.trans (hb.mono (by omega))); have hsr7 := hbr7.out.size; have HS7 := hid (ho7.sl (by unfold Big; omega)); have HS67 : Hid (SlP w7 w7.heap.size 1 StE (.slice A6 q.length c6) q) := hid (HS6.out.imp hb hb.size fun _ _ _ h => h); clear ho7 hb))
    | (go_at_call 73; go_loud ((refine (r10put_any q ⟨d.dc, d.n, es, n⟩ C _ _ w7 HEO.out HS67.out HS7.out (by omega) HSO.out HSD.out).mono ?_); rw [HPE.out, HBT.out]; rintro e w8 ⟨ve8, vk8, vc8, rfl, hrd8, hsl8, hb⟩; obtain ⟨Ar8, nr8, Br8, mr8, hv1, hv2⟩ := rda_shape hrd8; subst hv1; subst hv2; obtain ⟨Dr8, kr8, hv3⟩ := hsl8.shape; subst hv3; have hbr8 : Hid (Below wz.heap.size wz w8) := hid (hbr7.out.trans (hb.mono (by omega))); have hsr8 := hbr8.out.size; have HR8 := hid hrd8; have HL8 := hid hsl8; have HG8 := hid (HGZ.out _ hbr8.out); have k0 := cell_cells (i := 0) HG8.out; have k1 := cell_cells (i := 1) HG8.out; have k2 := cell_cells (i := 2) HG8.out; simp only [List.getElem?_toArray, List.getElem?_cons_zero, List.getElem?_cons_succ] at k0 k1 k2; have z0 := cells_frz (i := 0) HG8.out; have z1 := cells_frz (i := 1) HG8.out; have z2 := cells_frz (i := 2) HG8.out; clear hrd8 hsl8 hb)))
  all_goals (
   go_wp2_with fail
   obtain ⟨r0, r1, r2, q1, q2, q3⟩ := box_fin (N := w7.heap.size) HG8.out (HBB.out.trans ((HVZ.out.trans (hbr8.out.mono (by omega))).mono (by omega))) (by omega) (by omega) HR8.out HL8.out
   exact bodyPost_ret (v := .tuple #[.agg #[.slice Ar8 (appT t ⟨path, act, s, n⟩ d).es.length nr8, .slice Br8 (appT t ⟨path, act, s, n⟩ d).ks.length mr8, .slice Dr8 (appC t ⟨path, act, s, n⟩ d).length kr8], .int .i64 0]) (by simp [results, Tryz.results87, go_sem, r0, r1, r2] <;> rfl) rfl ⟨_, _, _, by rw [HAE.out], q1, q2, q3⟩)
end Go.Proofs.YtlapdmgjfdelnaaGreat
namespace Go.Proofs.YtlapdmgjfdelnaaGreat
open Go.ChangeShapes Go.WideShapes Go.ChangeAt Go.RowKit
set_option maxRecDepth 100000
def Wt {H : Type} (P : Program) (t : TypeId) (d : DataW H) : Prop := ∀ m ∈ d.weights P t, m ≤ reachBytes
section
variable {H : Type} {enc : TypeId × Value → H} {w : World}
theorem Wt.field {P : Program} {t : TypeId} {fs : Array Field} {parts : List (DataW H)} (hu : P.underlying t = some (.struct fs)) (h : Wt P t (.agg parts)) {i : Nat} {f : Field} {d : DataW H} (hf : fs[i]? = some f) (hd : parts[i]? = some d) : Wt P f.type d := fun m hm => by
 refine h m ?_
 unfold DataW.weights
 rw [hu]
 exact DataW.weights_mem_each (j := i) (t := f.type) (d := d) (by simp [hf]) hd m hm
theorem Wt.all {P : Program} {e : TypeId} : ∀ {ds : List (DataW H)} {d : DataW H}, d ∈ ds → ∀ m ∈ d.weights P e, m ∈ DataW.weightsAll P e ds
 | x :: ds, d, hd, m, hm => by
  rw [DataW.weightsAll]
  rcases List.mem_cons.1 hd with rfl | hd
  ·exact List.mem_append_left _ hm
  ·exact List.mem_append_right _ (Wt.all hd m hm)
theorem Wt.elem {P : Program} {t e : TypeId} {elems spare : List (DataW H)} (hu : P.underlying t = some (.slice e)) (h : Wt P t (.slice elems spare)) : (elems.length + spare.length) * P.bytesOf e ≤ reachBytes ∧ ∀ d ∈ elems, Wt P e d := by
 unfold Wt at h
 unfold DataW.weights at h
 rw [hu] at h
 refine ⟨h _ (by simp), fun d hd m hm => h m ?_⟩
 exact List.mem_cons_of_mem _ (List.mem_append_left _ (Wt.all hd m hm))
theorem wf_i64 {n : Int} (h : (Lit.int .i64 n).wf = true) : I64 n := by
 have h1 : IntKind.i64.min = -9223372036854775808 := rfl
 have h2 : IntKind.i64.max = 9223372036854775807 := rfl
 simp only [Lit.wf, Bool.and_eq_true, decide_eq_true_eq] at h
 unfold I64; omega
theorem slc_open {α : Type} {E : α → List Value → Prop} {t e : TypeId} {sz bytes fuel : Nat} {cs : List Value} {x : DataW H × List MemPlace} (hu : Tryz.prog.underlying t = some (.slice e)) (hC : Tryz.prog.cellsOf e = sz) (hsz : 0 < sz) (hB : Tryz.prog.bytesOf e = bytes) (hb : 0 < bytes)
  (h : DataW.trod enc Tryz.prog w 0 (fun _ => true) true fuel t cs = some x) (hw : Wt Tryz.prog t x.1)
  (hel : ∀ n cs y, n < fuel → DataW.trod enc Tryz.prog w 0 (fun _ => true) true n e cs = some y → Wt Tryz.prog e y.1 → ∃ a, E a cs) :
  ∃ v xs, cs = [v] ∧ SlP w w.heap.size sz E v xs := by
 rcases DataW.trod_slice hu h with ⟨rfl, rfl⟩ | ⟨a, len, cap, elems, rest, n, rfl, rfl, rfl, _, hl, hm, hlen, he, hs, _⟩
 ·exact ⟨_, [], rfl, SlP.nil⟩
 ·obtain ⟨hr, hwe⟩ := Wt.elem hu hw
  rw [hB, List.length_map, List.length_map] at hr
  have hrl := (hs rfl).1
  have hcap : cap ≤ Big := by
   have h1 : (elems.length + rest.length) * 1 ≤ (elems.length + rest.length) * bytes := Nat.mul_le_mul_left _ hb
   unfold reachBytes at hr; unfold Big; omega
  have key : ∀ i, i < len → ∃ (x : α) (c : List Value), E x c ∧ c.length = sz ∧ ∀ j, j < sz → w.cell? (a.add (i * sz + j)) = c[j]? := fun i hi => by
   have h1 := he i hi
   have h2 : elems[i]? = some elems[i] := List.getElem?_eq_getElem (by omega)
   rw [h2] at h1
   obtain ⟨c, h3, h4⟩ := Option.bind_eq_some_iff.1 h1
   obtain ⟨_, h5, h6⟩ := World.cells?_some h3
   obtain ⟨x, hx⟩ := hel n c elems[i] (Nat.lt_succ_self n) h4 (hwe _ (List.mem_map.2 ⟨elems[i], List.getElem_mem _, rfl⟩))
   rw [hC] at h5 h6
   exact ⟨x, c, hx, h5, fun j hj => by rw [← Go.Deep.add_add]; exact h6 j hj⟩
  rcases Nat.eq_zero_or_pos len with h0 | h0
  ·subst h0
   exact ⟨_, [], rfl, ⟨some a, cap, rfl, Nat.zero_le _, Nat.zero_le _, fun h => absurd rfl h⟩⟩
  ·obtain ⟨x0, c0, _, hc0, hcell0⟩ := key 0 h0
   have hv0 := hcell0 0 hsz
   rw [List.getElem?_eq_getElem (by omega)] at hv0
   obtain ⟨b, off, spot⟩ := a
   have hspot : spot = none := by simpa [Addr.add] using World.cell?_spot hv0
   subst hspot
   have hbl : b < w.heap.size := by
    have := World.block_lt_of_cell? w _ hv0
    simpa [Addr.add] using this
   classical
   refine ⟨_, (List.range len).map fun i => if hi : i < len then Classical.choose (key i hi) else x0, rfl, some ⟨b, off, none⟩, cap, by simp, by simp; omega, by simp; omega, fun _ => ⟨b, off, rfl, hbl, fun j x hx => ?_⟩⟩
   have hj : j < len := by have := (List.getElem?_eq_some_iff.1 hx).1; simpa using this
   rw [List.getElem?_map, List.getElem?_range hj] at hx
   simp only [Option.map_some, dif_pos hj, Option.some.injEq] at hx
   obtain ⟨c, h1, h2, h3⟩ := Classical.choose_spec (key j hj)
   rw [hx] at h1
   refine ⟨c, h1, h2, fun i u hi => ?_⟩
   have hlt : i < sz := by have := (List.getElem?_eq_some_iff.1 hi).1; omega
   have := h3 i hlt
   rw [hi] at this
   rw [← this]
   congr 1
   simp [Addr.add, Nat.add_assoc]
theorem cellsOne : Tryz.prog.cellsOf 9 = 1 ∧ Tryz.prog.cellsOf 3 = 1 ∧ Tryz.prog.cellsOf 2 = 1 ∧ Tryz.prog.cellsOf 22 = 1 ∧ Tryz.prog.cellsOf 23 = 1 := by refine ⟨?_, ?_, ?_, ?_, ?_⟩ <;> kernel_rfl
theorem trodAll_below (hl : laidOutB Tryz.prog = true) {W' : World} : ∀ (ts : List TypeId) (vs : List Value) (ds : List (DataW H)) (ps : List MemPlace), (∀ t ∈ ts, Tryz.prog.readableRec t = true ∧ t < Tryz.prog.types.size) →
  DataW.TrodAll enc Tryz.prog w 0 (fun _ => true) true ts vs ds ps → Below w.heap.size w W' → (∀ x ∈ ps, x.block < w.heap.size) → DataW.TrodAll enc Tryz.prog W' 0 (fun b => decide (b < w.heap.size)) true ts vs ds ps
 | [], [], [], ps, _, h, _, _ => h
 | t :: ts, v :: vs, d :: ds, ps, hr, h, hb, hlt => by
  obtain ⟨p, q, h1, h2, rfl⟩ := h
  exact ⟨p, q, Below.trod hl (hr t (by simp)).1 (hr t (by simp)).2 h1 hb (fun x hx => hlt x (List.mem_append_left _ hx)), trodAll_below hl ts vs ds q (fun t ht => hr t (by simp [ht])) h2 hb (fun x hx => hlt x (List.mem_append_right _ hx)), rfl⟩
end
end Go.Proofs.YtlapdmgjfdelnaaGreat
namespace Go.Proofs.YtlapdmgjfdelnaaGreat
open Go.ChangeShapes Go.WideShapes Go.ChangeAt Go.RowKit
set_option maxRecDepth 100000
theorem own : ownKnob Tryz.prog.godebug = none := by kernel_rfl
theorem laidOut : laidOutB Tryz.prog = true := by kernel_rfl
end Go.Proofs.YtlapdmgjfdelnaaGreat
namespace Go.Proofs.YtlapdmgjfdelnaaGreat
open Go.ChangeShapes Go.WideShapes Go.ChangeAt Go.RowKit
set_option maxRecDepth 100000
end Go.Proofs.YtlapdmgjfdelnaaGreat
namespace Go.Proofs.YtlapdmgjfdelnaaGreat
open Go.ChangeShapes Go.WideShapes Go.ChangeAt Go.RowKit
set_option maxRecDepth 100000
section
variable {H : Type} {enc : TypeId × Value → H} {w : World}
end
end Go.Proofs.YtlapdmgjfdelnaaGreat
namespace Go.Proofs.YtlapdmgjfdelnaaGreat
open Go.ChangeShapes Go.WideShapes Go.ChangeAt Go.RowKit
set_option maxRecDepth 100000
theorem bytesString : Tryz.prog.bytesOf 9 = 16 := by kernel_rfl
theorem str_open {H : Type} {enc : TypeId × Value → H} {w : World} {fuel : Nat} {cs : List Value} {x : DataW H × List MemPlace} (h : DataW.trod enc Tryz.prog w 0 (fun _ => true) true fuel 9 cs = some x) (hw : Wt Tryz.prog 9 x.1) : ∃ s : ByteArray, StE s cs := by
 obtain ⟨s, e, hy, _⟩ := DataW.trod_string Tryz.underlying9 h
 refine ⟨s, e, ?_⟩
 have := hw s.size (by rw [hy]; simp [DataW.weights])
 unfold reachBytes at this; unfold Big; omega
end Go.Proofs.YtlapdmgjfdelnaaGreat
