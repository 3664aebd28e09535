/- What the laws need, part 7: ormap.Update. No condition but that there is not too much. flag.Enable. No condition but that there are not too many entries. ormap.Reset. No condition but that there are not too many entries. Changes of a tree, plain: what the program's loop makes is what the document says. op.Apply, plain: leaf and loop make what the document says. op.leaf: what changes at a path's end. Condition: not too big. op.Kind, paths, and what acts are of; both the program's and the document's. No condition. op.checkPath, op.check, op.RightPath, op.Right. No condition. A box that holds what is known: what a walk leaves behind a call whose result is laid into a box. No condition. tributarylaw09.small and right, at one and at two. No condition. Lists of what is known, in a block. No condition. The plain law of OpApart; what is read. -/
import Derived.Test.YtmphgnjodangcaaGreatWa6
namespace Go.Proofs.YtmphgnjodangcaaGreat
open Go.RowKit
set_option maxRecDepth 100000

/-- What ormap.Update tells: the error's number, the tree, the context. -/
def updE (t : Tr) (key : ByteArray) (D : Tr) (c : List Sp) : Int :=
  if !(t.right 5) || !caR D c || !keyB key then 1 else if !empB D.es.length D.ks.length && decide (24 ≤ t.ks.length) && !(t.ks.any fun y => decide (y.1 = key)) then 4 else wrapE D key
def updT (t : Tr) (key : ByteArray) (D : Tr) (c : List Sp) : Tr := if updE t key D c = 0 then wrapT D key else .mk [] []
def updC (t : Tr) (key : ByteArray) (D : Tr) (c : List Sp) : List Sp := if updE t key D c = 0 then c else []

theorem cell_box3n {w3 : World} {b : Nat} {x0 x1 x2 : Value} {a : Addr} {v : Value} (hne : b ≠ a.block) (h : w3.cell? a = some v) :
    (((w3.setCell ⟨b, 0, none⟩ x0).setCell ⟨b, 1, none⟩ x1).setCell ⟨b, 2, none⟩ x2).cell? a = some v := by
  rw [World.cell?_setCell_far _ _ _ _ hne, World.cell?_setCell_far _ _ _ _ hne, World.cell?_setCell_far _ _ _ _ hne]; exact h
set_option maxHeartbeats 4000000 in
theorem oupdate_any (t D : Tr) (c : List Sp) (key : ByteArray) (ve vk xe xk xc : Value) (w : World) (h : t.rd w w.heap.size ve vk) (hD : D.rd w w.heap.size xe xk) (hc : SlP w w.heap.size 3 SpE xc c) (hkey : key.size ≤ Big) (hN : t.sz ≤ 4000) (hN' : D.sz ≤ 4000) (hN2 : c.length ≤ 20000) :
    Calls Tryz.prog 58 #[.agg #[ve, vk], .string key, .agg #[xe, xk, xc]] w (RetCE w (updT t key D c) (updC t key D c) (updE t key D c)) := by
  have HT : Hid (∀ w', Below w.heap.size w w' → t.rd w' w'.heap.size ve vk) := fun w' hb => rd_below hb hb.size _ _ _ h
  have HD : Hid (∀ w', Below w.heap.size w w' → D.rd w' w'.heap.size xe xk) := fun w' hb => rd_below hb hb.size _ _ _ hD
  have HC : Hid (∀ w', Below w.heap.size w w' → SlP w' w'.heap.size 3 SpE xc c) := fun w' hb => hc.imp hb hb.size fun _ _ _ h => h
  have HKS : Hid (∀ w', Below w.heap.size w w' → SlP w' w'.heap.size 3 (KdE w' w'.heap.size) vk t.ks) := fun w' hb => by
    have := HT.out w' hb; obtain ⟨es, ks⟩ := t; exact (rd_iff.1 this).2
  obtain ⟨A3, n3, A4, n4, rfl, rfl⟩ := rd_shape h
  obtain ⟨A5, n5, A6, n6, rfl, rfl⟩ := rd_shape hD
  obtain ⟨A7, n7, rfl, _⟩ := hc
  have hkb : key.size ≤ 140737488355328 := hkey
  clear h hD
  have hb0 : Below w.heap.size w ((((w.alloc (.cells #[.slice A3 t.es.length n3, .slice A4 t.ks.length n4] 27)).alloc (.cells #[.string key] 9)).alloc (.cells #[.slice A5 D.es.length n5, .slice A6 D.ks.length n6, .slice A7 c.length n7] 31)).alloc (.cells #[.slice none 0 0, .slice none 0 0, .slice none 0 0] 31)) :=
    ((((Below.refl _ w).alloc (Nat.le_refl _) _).alloc (by simp) _).alloc (by simp <;> omega) _).alloc (by simp <;> omega) _
  have HW : Hid (∀ w', Below (w.heap.size + 4) ((((w.alloc (.cells #[.slice A3 t.es.length n3, .slice A4 t.ks.length n4] 27)).alloc (.cells #[.string key] 9)).alloc (.cells #[.slice A5 D.es.length n5, .slice A6 D.ks.length n6, .slice A7 c.length n7] 31)).alloc (.cells #[.slice none 0 0, .slice none 0 0, .slice none 0 0] 31)) w' →
      Below w.heap.size w w' ∧ w.heap.size + 4 ≤ w'.heap.size ∧ w'.heap[w.heap.size]? = some (.cells #[.slice A3 t.es.length n3, .slice A4 t.ks.length n4] 27 (0, 0)) ∧ w'.heap[w.heap.size + 1]? = some (.cells #[.string key] 9 (0, 0)) ∧
      w'.heap[w.heap.size + 2]? = some (.cells #[.slice A5 D.es.length n5, .slice A6 D.ks.length n6, .slice A7 c.length n7] 31 (0, 0)) ∧ w'.heap[w.heap.size + 3]? = some (.cells #[.slice none 0 0, .slice none 0 0, .slice none 0 0] 31 (0, 0))) := fun w' hb =>
    ⟨hb0.trans (hb.mono (by omega)), by have := hb.size; simpa using this, (hb.block _ (by omega)).trans ((heap_old (by simp <;> omega)).trans ((heap_old (by simp <;> omega)).trans ((heap_old (by simp)).trans (heap_new rfl)))), (hb.block _ (by omega)).trans ((heap_old (by simp <;> omega)).trans ((heap_old (by simp)).trans (heap_new (by simp)))), (hb.block _ (by omega)).trans ((heap_old (by simp)).trans (heap_new (by simp))), (hb.block _ (by omega)).trans (heap_new (by simp))⟩
  go_enter Tryz.func58, Tryz.ntmps58
  go_wp2_with fail
  refine (tRight_any t _ _ _ (HT.out _ hb0)).mono ?_
  rintro e w1 ⟨rfl, hb1⟩
  have hb1' := hid (hb1.mono (show w.heap.size + 4 ≤ _ by simp))
  obtain ⟨hB1, hs1, g3, g4, g5, g6⟩ := HW.out _ hb1'.out
  have HG6 := hid g6
  have c0 : w1.cell? ⟨w.heap.size, 0, none⟩ = some (.slice A3 t.es.length n3) := cell_cells (i := 0) g3
  have c1 : w1.cell? ⟨w.heap.size, 1, none⟩ = some (.slice A4 t.ks.length n4) := cell_cells (i := 1) g3
  have d0 : w1.cell? ⟨w.heap.size + 1, 0, none⟩ = some (.string key) := cell_cells (i := 0) g4
  have e0 : w1.cell? ⟨w.heap.size + 2, 0, none⟩ = some (.slice A5 D.es.length n5) := cell_cells (i := 0) g5
  have e1 : w1.cell? ⟨w.heap.size + 2, 1, none⟩ = some (.slice A6 D.ks.length n6) := cell_cells (i := 1) g5
  have e2 : w1.cell? ⟨w.heap.size + 2, 2, none⟩ = some (.slice A7 c.length n7) := cell_cells (i := 2) g5
  have k0 : w1.cell? ⟨w.heap.size + 3, 0, none⟩ = some (.slice none 0 0) := cell_cells (i := 0) g6
  have k1 : w1.cell? ⟨w.heap.size + 3, 1, none⟩ = some (.slice none 0 0) := cell_cells (i := 1) g6
  have k2 : w1.cell? ⟨w.heap.size + 3, 2, none⟩ = some (.slice none 0 0) := cell_cells (i := 2) g6
  have z0 := cells_frz (i := 0) g6
  have z1 := cells_frz (i := 1) g6
  have z2 := cells_frz (i := 2) g6
  clear g3 g4 g5 g6
  clear hb1
  cases hr : t.right 5
  · have HE : Hid (updE t key D c = 1) := by unfold Hid updE; rw [hr]; rfl
    have HTT : Hid (updT t key D c = .mk [] []) := by unfold Hid updT; rw [HE.out]; rfl
    have HCC : Hid (updC t key D c = []) := by unfold Hid updC; rw [HE.out]; rfl
    clear hr
    go_wp2_with fail
    obtain ⟨r0, r1, r2, hK, hS⟩ := box3 HG6.out (.slice none 0 0) (.slice none 0 0) (.slice none 0 0)
    have hBW := ((hB1.setCell (p := ⟨w.heap.size + 3, 0, none⟩) (by simp) (.slice none 0 0)).setCell (p := ⟨w.heap.size + 3, 1, none⟩) (by simp) (.slice none 0 0)).setCell (p := ⟨w.heap.size + 3, 2, none⟩) (by simp) (.slice none 0 0)
    refine bodyPost_ret (v := .tuple #[.agg #[.slice none 0 0, .slice none 0 0, .slice none 0 0], .int .i64 1]) (by simp [results, Tryz.results58, go_sem, r0, r1, r2]) rfl ⟨_, _, _, by rw [HE.out], by rw [HTT.out]; exact rda_nil _ _, by rw [HCC.out]; exact SlA.nil, hBW⟩
  go_wp2_with fail
  refine (caright_any D c _ _ _ w1 (HD.out _ hB1) (HC.out _ hB1) hN' hN2).mono ?_
  rintro e w2 ⟨rfl, hb2⟩
  clear c0 c1 d0 e0 e1 e2 k0 k1 k2 z0 z1 z2 HG6
  have hb2' := hid (hb1'.out.trans (hb2.mono hs1))
  obtain ⟨hB2, hs2, g3, g4, g5, g6⟩ := HW.out _ hb2'.out
  have HG6 := hid g6
  have c0 : w2.cell? ⟨w.heap.size, 0, none⟩ = some (.slice A3 t.es.length n3) := cell_cells (i := 0) g3
  have c1 : w2.cell? ⟨w.heap.size, 1, none⟩ = some (.slice A4 t.ks.length n4) := cell_cells (i := 1) g3
  have d0 : w2.cell? ⟨w.heap.size + 1, 0, none⟩ = some (.string key) := cell_cells (i := 0) g4
  have e0 : w2.cell? ⟨w.heap.size + 2, 0, none⟩ = some (.slice A5 D.es.length n5) := cell_cells (i := 0) g5
  have e1 : w2.cell? ⟨w.heap.size + 2, 1, none⟩ = some (.slice A6 D.ks.length n6) := cell_cells (i := 1) g5
  have e2 : w2.cell? ⟨w.heap.size + 2, 2, none⟩ = some (.slice A7 c.length n7) := cell_cells (i := 2) g5
  have k0 : w2.cell? ⟨w.heap.size + 3, 0, none⟩ = some (.slice none 0 0) := cell_cells (i := 0) g6
  have k1 : w2.cell? ⟨w.heap.size + 3, 1, none⟩ = some (.slice none 0 0) := cell_cells (i := 1) g6
  have k2 : w2.cell? ⟨w.heap.size + 3, 2, none⟩ = some (.slice none 0 0) := cell_cells (i := 2) g6
  have z0 := cells_frz (i := 0) g6
  have z1 := cells_frz (i := 1) g6
  have z2 := cells_frz (i := 2) g6
  clear g3 g4 g5 g6
  clear hb2
  cases hq : caR D c
  · have HE : Hid (updE t key D c = 1) := by unfold Hid updE; rw [hr, hq]; rfl
    have HTT : Hid (updT t key D c = .mk [] []) := by unfold Hid updT; rw [HE.out]; rfl
    have HCC : Hid (updC t key D c = []) := by unfold Hid updC; rw [HE.out]; rfl
    clear hr hq
    go_wp2_with fail
    obtain ⟨r0, r1, r2, hK, hS⟩ := box3 HG6.out (.slice none 0 0) (.slice none 0 0) (.slice none 0 0)
    have hBW := ((hB2.setCell (p := ⟨w.heap.size + 3, 0, none⟩) (by simp) (.slice none 0 0)).setCell (p := ⟨w.heap.size + 3, 1, none⟩) (by simp) (.slice none 0 0)).setCell (p := ⟨w.heap.size + 3, 2, none⟩) (by simp) (.slice none 0 0)
    refine bodyPost_ret (v := .tuple #[.agg #[.slice none 0 0, .slice none 0 0, .slice none 0 0], .int .i64 1]) (by simp [results, Tryz.results58, go_sem, r0, r1, r2]) rfl ⟨_, _, _, by rw [HE.out], by rw [HTT.out]; exact rda_nil _ _, by rw [HCC.out]; exact SlA.nil, hBW⟩
  cases kb : keyB key
  · have hkb2 : ¬ (1 ≤ key.size ∧ key.size ≤ 30) := by simpa [keyB] using kb
    have HE : Hid (updE t key D c = 1) := by unfold Hid updE; rw [hr, hq, kb]; rfl
    have HTT : Hid (updT t key D c = .mk [] []) := by unfold Hid updT; rw [HE.out]; rfl
    have HCC : Hid (updC t key D c = []) := by unfold Hid updC; rw [HE.out]; rfl
    clear hr hq kb
    by_cases hz : key.size < 1
    · have t1 : decide ((key.size : Int) < 1) = true := by simp; omega
      go_wp2_with fail
      obtain ⟨r0, r1, r2, hK, hS⟩ := box3 HG6.out (.slice none 0 0) (.slice none 0 0) (.slice none 0 0)
      have hBW := ((hB2.setCell (p := ⟨w.heap.size + 3, 0, none⟩) (by simp) (.slice none 0 0)).setCell (p := ⟨w.heap.size + 3, 1, none⟩) (by simp) (.slice none 0 0)).setCell (p := ⟨w.heap.size + 3, 2, none⟩) (by simp) (.slice none 0 0)
      refine bodyPost_ret (v := .tuple #[.agg #[.slice none 0 0, .slice none 0 0, .slice none 0 0], .int .i64 1]) (by simp [results, Tryz.results58, go_sem, r0, r1, r2]) rfl ⟨_, _, _, by rw [HE.out], by rw [HTT.out]; exact rda_nil _ _, by rw [HCC.out]; exact SlA.nil, hBW⟩
    · have t1 : decide ((key.size : Int) < 1) = false := by simp; omega
      have t2 : decide ((30 : Int) < key.size) = true := by simp; omega
      go_wp2_with fail
      obtain ⟨r0, r1, r2, hK, hS⟩ := box3 HG6.out (.slice none 0 0) (.slice none 0 0) (.slice none 0 0)
      have hBW := ((hB2.setCell (p := ⟨w.heap.size + 3, 0, none⟩) (by simp) (.slice none 0 0)).setCell (p := ⟨w.heap.size + 3, 1, none⟩) (by simp) (.slice none 0 0)).setCell (p := ⟨w.heap.size + 3, 2, none⟩) (by simp) (.slice none 0 0)
      refine bodyPost_ret (v := .tuple #[.agg #[.slice none 0 0, .slice none 0 0, .slice none 0 0], .int .i64 1]) (by simp [results, Tryz.results58, go_sem, r0, r1, r2]) rfl ⟨_, _, _, by rw [HE.out], by rw [HTT.out]; exact rda_nil _ _, by rw [HCC.out]; exact SlA.nil, hBW⟩
  have hkb2 : 1 ≤ key.size ∧ key.size ≤ 30 := by simpa [keyB] using kb
  have t1 : decide ((key.size : Int) < 1) = false := by simp; omega
  have t2 : decide ((30 : Int) < key.size) = false := by simp; omega
  go_wp2_with fail
  refine (conKid_any (fun y => decide (y = key)) _ _ t.ks _ w2 (HKS.out _ hB2) (updTest d0 (by omega))).mono ?_
  rintro e w3 ⟨rfl, hb3⟩
  clear c0 c1 d0 e0 e1 e2 k0 k1 k2 z0 z1 z2 HG6
  have hb3' := hid (hb2'.out.trans (hb3.mono hs2))
  obtain ⟨hB3, hs3, g3, g4, g5, g6⟩ := HW.out _ hb3'.out
  have HG6 := hid g6
  have c0 : w3.cell? ⟨w.heap.size, 0, none⟩ = some (.slice A3 t.es.length n3) := cell_cells (i := 0) g3
  have c1 : w3.cell? ⟨w.heap.size, 1, none⟩ = some (.slice A4 t.ks.length n4) := cell_cells (i := 1) g3
  have d0 : w3.cell? ⟨w.heap.size + 1, 0, none⟩ = some (.string key) := cell_cells (i := 0) g4
  have e0 : w3.cell? ⟨w.heap.size + 2, 0, none⟩ = some (.slice A5 D.es.length n5) := cell_cells (i := 0) g5
  have e1 : w3.cell? ⟨w.heap.size + 2, 1, none⟩ = some (.slice A6 D.ks.length n6) := cell_cells (i := 1) g5
  have e2 : w3.cell? ⟨w.heap.size + 2, 2, none⟩ = some (.slice A7 c.length n7) := cell_cells (i := 2) g5
  have k0 : w3.cell? ⟨w.heap.size + 3, 0, none⟩ = some (.slice none 0 0) := cell_cells (i := 0) g6
  have k1 : w3.cell? ⟨w.heap.size + 3, 1, none⟩ = some (.slice none 0 0) := cell_cells (i := 1) g6
  have k2 : w3.cell? ⟨w.heap.size + 3, 2, none⟩ = some (.slice none 0 0) := cell_cells (i := 2) g6
  have z0 := cells_frz (i := 0) g6
  have z1 := cells_frz (i := 1) g6
  have z2 := cells_frz (i := 2) g6
  clear g3 g4 g5 g6
  clear hb3
  go_wp2_with fail
  refine (tempty_any D.es.length D.ks.length A5 A6 n5 n6 w3).mono ?_
  rintro e w4 ⟨rfl, hb4⟩
  clear c0 c1 d0 e0 e1 e2 k0 k1 k2 z0 z1 z2 HG6
  have hb4' := hid (hb3'.out.trans (hb4.mono hs3))
  obtain ⟨hB4, hs4, g3, g4, g5, g6⟩ := HW.out _ hb4'.out
  have HG6 := hid g6
  have c0 : w4.cell? ⟨w.heap.size, 0, none⟩ = some (.slice A3 t.es.length n3) := cell_cells (i := 0) g3
  have c1 : w4.cell? ⟨w.heap.size, 1, none⟩ = some (.slice A4 t.ks.length n4) := cell_cells (i := 1) g3
  have d0 : w4.cell? ⟨w.heap.size + 1, 0, none⟩ = some (.string key) := cell_cells (i := 0) g4
  have e0 : w4.cell? ⟨w.heap.size + 2, 0, none⟩ = some (.slice A5 D.es.length n5) := cell_cells (i := 0) g5
  have e1 : w4.cell? ⟨w.heap.size + 2, 1, none⟩ = some (.slice A6 D.ks.length n6) := cell_cells (i := 1) g5
  have e2 : w4.cell? ⟨w.heap.size + 2, 2, none⟩ = some (.slice A7 c.length n7) := cell_cells (i := 2) g5
  have k0 : w4.cell? ⟨w.heap.size + 3, 0, none⟩ = some (.slice none 0 0) := cell_cells (i := 0) g6
  have k1 : w4.cell? ⟨w.heap.size + 3, 1, none⟩ = some (.slice none 0 0) := cell_cells (i := 1) g6
  have k2 : w4.cell? ⟨w.heap.size + 3, 2, none⟩ = some (.slice none 0 0) := cell_cells (i := 2) g6
  have z0 := cells_frz (i := 0) g6
  have z1 := cells_frz (i := 1) g6
  have z2 := cells_frz (i := 2) g6
  clear g3 g4 g5 g6
  clear hb4
  have hfi : decide ((24 : Int) ≤ (t.ks.length : Int)) = decide (24 ≤ t.ks.length) := by rw [Bool.eq_iff_iff]; simp; omega
  cases em : empB D.es.length D.ks.length
  · cases fl : decide (24 ≤ t.ks.length)
    · have HE0 : Hid (updE t key D c = wrapE D key) := by unfold Hid updE; rw [hr, hq, kb, em, fl]; simp
      rw [fl] at hfi
      clear em fl
      clear hr hq kb
      go_wp2_with fail
      refine (twrap_any D key _ _ _ _ (HD.out _ (hB4.alloc (by omega) _)) (SlP.oneB (x := key) (cs := [.string key]) ⟨rfl, hkey⟩ rfl _ rfl (by simp)) (by omega)).mono ?_
      rintro e w5 ⟨v5, u5, rfl, hrd5, hb5⟩
      obtain ⟨A8, n8, A9, n9, rfl, rfl⟩ := rda_shape hrd5
      clear c0 c1 d0 e0 e1 e2 k0 k1 k2 z0 z1 z2 HG6
      have hb5' := hid (hb4'.out.trans ((((Below.refl w4.heap.size w4).alloc (Nat.le_refl _) _).trans (hb5.mono (show w4.heap.size ≤ _ by simp))).mono hs4))
      obtain ⟨hB5, hs5, g3, g4, g5, g6⟩ := HW.out _ hb5'.out
      have HG6 := hid g6
      have c0 : w5.cell? ⟨w.heap.size, 0, none⟩ = some (.slice A3 t.es.length n3) := cell_cells (i := 0) g3
      have c1 : w5.cell? ⟨w.heap.size, 1, none⟩ = some (.slice A4 t.ks.length n4) := cell_cells (i := 1) g3
      have d0 : w5.cell? ⟨w.heap.size + 1, 0, none⟩ = some (.string key) := cell_cells (i := 0) g4
      have e0 : w5.cell? ⟨w.heap.size + 2, 0, none⟩ = some (.slice A5 D.es.length n5) := cell_cells (i := 0) g5
      have e1 : w5.cell? ⟨w.heap.size + 2, 1, none⟩ = some (.slice A6 D.ks.length n6) := cell_cells (i := 1) g5
      have e2 : w5.cell? ⟨w.heap.size + 2, 2, none⟩ = some (.slice A7 c.length n7) := cell_cells (i := 2) g5
      have k0 : w5.cell? ⟨w.heap.size + 3, 0, none⟩ = some (.slice none 0 0) := cell_cells (i := 0) g6
      have k1 : w5.cell? ⟨w.heap.size + 3, 1, none⟩ = some (.slice none 0 0) := cell_cells (i := 1) g6
      have k2 : w5.cell? ⟨w.heap.size + 3, 2, none⟩ = some (.slice none 0 0) := cell_cells (i := 2) g6
      have z0 := cells_frz (i := 0) g6
      have z1 := cells_frz (i := 1) g6
      have z2 := cells_frz (i := 2) g6
      clear g3 g4 g5 g6
      have hs5' := hb5.size
      simp only [World.size_alloc] at hs5'
      clear hb5
      have hlt3 : w.heap.size + 3 < w5.heap.size := by omega
      have hne3 : w.heap.size + 3 ≠ w5.heap.size := by omega
      have hlt2 : w.heap.size + 2 < w5.heap.size := by omega
      have hne2 : w.heap.size + 2 ≠ w5.heap.size := by omega
      have hw3 : wrapE D key = 0 ∨ wrapE D key = 1 ∨ wrapE D key = 10 := by unfold wrapE; split <;> (try split) <;> simp
      have HTX : Hid (updT t key D c = if wrapE D key = 0 then wrapT D key else .mk [] []) := by unfold Hid updT; rw [HE0.out]
      have HCX : Hid (updC t key D c = if wrapE D key = 0 then c else []) := by unfold Hid updC; rw [HE0.out]
      rw [HE0.out]
      generalize wrapE D key = K at *
      generalize wrapT D key = T at *
      rcases hw3 with rfl | rfl | rfl
      · have HX : Hid (∀ w', Below (w5.heap.size + 1) (w5.alloc (.cells #[.slice A8 T.es.length n8, .slice A9 T.ks.length n9] 27)) w' → Below w5.heap.size w5 w' ∧ (w'.cell? ⟨w.heap.size + 2, 2, none⟩ = some (.slice A7 c.length n7) ∧ w'.cell? ⟨w5.heap.size, 0, none⟩ = some (.slice A8 T.es.length n8) ∧ w'.cell? ⟨w5.heap.size, 1, none⟩ = some (.slice A9 T.ks.length n9))) := fun w' hb => by
          have hB : Below w5.heap.size w5 w' := ((Below.refl _ w5).alloc (Nat.le_refl _) _).trans (hb.mono (by omega))
          refine ⟨hB, (hB.cell (p := ⟨w.heap.size + 2, 2, none⟩) (by show w.heap.size + 2 < _; omega)).trans e2, ?_, ?_⟩
          · rw [hb.cell (p := ⟨w5.heap.size, 0, none⟩) (by simp), World.cell?_alloc_new]; rfl
          · rw [hb.cell (p := ⟨w5.heap.size, 1, none⟩) (by simp), World.cell?_alloc_new]; rfl
        clear c0 c1 d0 e0 e1 k0 k1 k2 z0 z1 z2
        go_upto_region 9 with (fail)
        go_region_held3 (fun w' => w'.cell? ⟨w.heap.size + 2, 2, none⟩ = some (.slice A7 c.length n7) ∧ w'.cell? ⟨w5.heap.size, 0, none⟩ = some (.slice A8 T.es.length n8) ∧ w'.cell? ⟨w5.heap.size, 1, none⟩ = some (.slice A9 T.ks.length n9))
          (first | go_keep | exact (HX.out _ hbx.out).2 | exact ⟨cell_box3n (by simp) (HX.out _ hbx.out).2.1, cell_box3n (by show w.heap.size + 3 ≠ _; omega) (HX.out _ hbx.out).2.2.1, cell_box3n (by show w.heap.size + 3 ≠ _; omega) (HX.out _ hbx.out).2.2.2⟩)
          (first | (go_at_call 116; go_loud ((refine (cloneC_any c _ _ (HC.out _ ((hB5.alloc (by omega) _).drew)) (by unfold Few; omega)).mono ?_); rintro e w6 ⟨v6, rfl, ho6, hb6⟩; obtain ⟨A10, c10, hv6⟩ := ho6.shape; subst hv6; have HO6 := hid ho6; have hbx : Hid (Below (w5.heap.size + 1) (w5.alloc (.cells #[.slice A8 T.es.length n8, .slice A9 T.ks.length n9] 27)) w6) := (((Below.refl (w5.heap.size + 1) (w5.alloc (.cells #[.slice A8 T.es.length n8, .slice A9 T.ks.length n9] 27))).drew).trans (hb6.mono (by simp))); have hby := hid (HX.out _ hbx.out).1; have hs6 : w5.heap.size + 1 ≤ w6.heap.size := (by have := hbx.out.size; simpa using this); have HGx := hid ((hby.out.block (w.heap.size + 3) (by omega)).trans HG6.out); have k0 : w6.cell? ⟨w.heap.size + 3, 0, none⟩ = some (.slice none 0 0) := cell_cells (i := 0) HGx.out; have k1 : w6.cell? ⟨w.heap.size + 3, 1, none⟩ = some (.slice none 0 0) := cell_cells (i := 1) HGx.out; have k2 : w6.cell? ⟨w.heap.size + 3, 2, none⟩ = some (.slice none 0 0) := cell_cells (i := 2) HGx.out; have z0 := cells_frz (i := 0) HGx.out; have z1 := cells_frz (i := 1) HGx.out; have z2 := cells_frz (i := 2) HGx.out; have hlt6 : w.heap.size + 3 < w6.heap.size := (by omega); have hne6 : w.heap.size + 3 ≠ w6.heap.size := (by omega); clear ho6 hb6)))
        all_goals go_wp2_with fail
        obtain ⟨r0, r1, r2, hK, hS⟩ := box3 HGx.out (.slice A8 T.es.length n8) (.slice A9 T.ks.length n9) (.slice A10 c.length c10)
        have hBW : Below w.heap.size w (((w6.setCell ⟨w.heap.size + 3, 0, none⟩ (.slice A8 T.es.length n8)).setCell ⟨w.heap.size + 3, 1, none⟩ (.slice A9 T.ks.length n9)).setCell ⟨w.heap.size + 3, 2, none⟩ (.slice A10 c.length c10)) := (((hB5.trans (hby.out.mono (by omega))).setCell (by simp) _).setCell (by simp) _).setCell (by simp) _
        clear k0 k1 k2 z0 z1 z2
        generalize (((w6.setCell ⟨w.heap.size + 3, 0, none⟩ (.slice A8 T.es.length n8)).setCell ⟨w.heap.size + 3, 1, none⟩ (.slice A9 T.ks.length n9)).setCell ⟨w.heap.size + 3, 2, none⟩ (.slice A10 c.length c10)) = W at *
        refine bodyPost_ret (v := .tuple #[.agg #[.slice A8 T.es.length n8, .slice A9 T.ks.length n9, .slice A10 c.length c10], .int .i64 0]) (by simp [results, Tryz.results58, go_sem, r0, r1, r2]) rfl ⟨_, _, _, by rw [HE0.out], ?_, ?_, hBW⟩
        · rw [HTX.out, if_pos trivial]
          exact rda_up (fun b hb => (hK b (by have := hb.1; simp only [World.size_alloc] at this; omega)).trans (hby.out.block b hb.2)) (fun b hb => ⟨by have := hb.1; simp only [World.size_alloc] at this; omega, by have := hb.2; omega⟩) _ _ _ hrd5
        · rw [HCX.out, if_pos trivial]
          refine (HO6.out.sla (by unfold Big; omega)).up (fun b hb => hK b (by have := hb.1; simp only [World.size_alloc, World.size_drew] at this; omega)) (fun b hb => ⟨by have := hb.1; simp only [World.size_alloc, World.size_drew] at this; omega, by have := hb.2.1; omega⟩) (fun _ _ _ h => h)
      · go_wp2_with fail
        obtain ⟨r0, r1, r2, hK, hS⟩ := box3 HG6.out (.slice none 0 0) (.slice none 0 0) (.slice none 0 0)
        have hBW : Below w.heap.size w (((w5.setCell ⟨w.heap.size + 3, 0, none⟩ (.slice none 0 0)).setCell ⟨w.heap.size + 3, 1, none⟩ (.slice none 0 0)).setCell ⟨w.heap.size + 3, 2, none⟩ (.slice none 0 0)) := ((hB5.setCell (by simp) _).setCell (by simp) _).setCell (by simp) _
        clear c0 c1 d0 e0 e1 e2 k0 k1 k2 z0 z1 z2
        generalize (((w5.setCell ⟨w.heap.size + 3, 0, none⟩ (.slice none 0 0)).setCell ⟨w.heap.size + 3, 1, none⟩ (.slice none 0 0)).setCell ⟨w.heap.size + 3, 2, none⟩ (.slice none 0 0)) = W at *
        have q0 : (W.alloc (.cells #[.slice A8 T.es.length n8, .slice A9 T.ks.length n9] 27)).cell? ⟨w.heap.size + 1 + 1 + 1, 0, none⟩ = some (.slice none 0 0) := by rw [World.cell?_alloc_lt _ _ _ (by show w.heap.size + 3 < _; omega)]; exact r0
        have q1 : (W.alloc (.cells #[.slice A8 T.es.length n8, .slice A9 T.ks.length n9] 27)).cell? ⟨w.heap.size + 1 + 1 + 1, 1, none⟩ = some (.slice none 0 0) := by rw [World.cell?_alloc_lt _ _ _ (by show w.heap.size + 3 < _; omega)]; exact r1
        have q2 : (W.alloc (.cells #[.slice A8 T.es.length n8, .slice A9 T.ks.length n9] 27)).cell? ⟨w.heap.size + 1 + 1 + 1, 2, none⟩ = some (.slice none 0 0) := by rw [World.cell?_alloc_lt _ _ _ (by show w.heap.size + 3 < _; omega)]; exact r2
        refine bodyPost_ret (v := .tuple #[.agg #[.slice none 0 0, .slice none 0 0, .slice none 0 0], .int .i64 1]) (by simp [results, Tryz.results58, go_sem, q0, q1, q2]) rfl ⟨_, _, _, by rw [HE0.out], by rw [HTX.out, if_neg (by decide)]; exact rda_nil _ _, by rw [HCX.out, if_neg (by decide)]; exact SlA.nil, hBW.alloc (by omega) _⟩
      · go_wp2_with fail
        obtain ⟨r0, r1, r2, hK, hS⟩ := box3 HG6.out (.slice none 0 0) (.slice none 0 0) (.slice none 0 0)
        have hBW : Below w.heap.size w (((w5.setCell ⟨w.heap.size + 3, 0, none⟩ (.slice none 0 0)).setCell ⟨w.heap.size + 3, 1, none⟩ (.slice none 0 0)).setCell ⟨w.heap.size + 3, 2, none⟩ (.slice none 0 0)) := ((hB5.setCell (by simp) _).setCell (by simp) _).setCell (by simp) _
        clear c0 c1 d0 e0 e1 e2 k0 k1 k2 z0 z1 z2
        generalize (((w5.setCell ⟨w.heap.size + 3, 0, none⟩ (.slice none 0 0)).setCell ⟨w.heap.size + 3, 1, none⟩ (.slice none 0 0)).setCell ⟨w.heap.size + 3, 2, none⟩ (.slice none 0 0)) = W at *
        have q0 : (W.alloc (.cells #[.slice A8 T.es.length n8, .slice A9 T.ks.length n9] 27)).cell? ⟨w.heap.size + 1 + 1 + 1, 0, none⟩ = some (.slice none 0 0) := by rw [World.cell?_alloc_lt _ _ _ (by show w.heap.size + 3 < _; omega)]; exact r0
        have q1 : (W.alloc (.cells #[.slice A8 T.es.length n8, .slice A9 T.ks.length n9] 27)).cell? ⟨w.heap.size + 1 + 1 + 1, 1, none⟩ = some (.slice none 0 0) := by rw [World.cell?_alloc_lt _ _ _ (by show w.heap.size + 3 < _; omega)]; exact r1
        have q2 : (W.alloc (.cells #[.slice A8 T.es.length n8, .slice A9 T.ks.length n9] 27)).cell? ⟨w.heap.size + 1 + 1 + 1, 2, none⟩ = some (.slice none 0 0) := by rw [World.cell?_alloc_lt _ _ _ (by show w.heap.size + 3 < _; omega)]; exact r2
        refine bodyPost_ret (v := .tuple #[.agg #[.slice none 0 0, .slice none 0 0, .slice none 0 0], .int .i64 10]) (by simp [results, Tryz.results58, go_sem, q0, q1, q2]) rfl ⟨_, _, _, by rw [HE0.out], by rw [HTX.out, if_neg (by decide)]; exact rda_nil _ _, by rw [HCX.out, if_neg (by decide)]; exact SlA.nil, hBW.alloc (by omega) _⟩
    · rw [fl] at hfi
      cases an : (t.ks.any fun y => decide (y.1 = key))
      · have HE : Hid (updE t key D c = 4) := by unfold Hid updE; rw [hr, hq, kb, em, fl, an]; rfl
        have HTT : Hid (updT t key D c = .mk [] []) := by unfold Hid updT; rw [HE.out]; rfl
        have HCC : Hid (updC t key D c = []) := by unfold Hid updC; rw [HE.out]; rfl
        clear hr hq kb em fl an
        go_wp2_with fail
        obtain ⟨r0, r1, r2, hK, hS⟩ := box3 HG6.out (.slice none 0 0) (.slice none 0 0) (.slice none 0 0)
        have hBW := ((hB4.setCell (p := ⟨w.heap.size + 3, 0, none⟩) (by simp) (.slice none 0 0)).setCell (p := ⟨w.heap.size + 3, 1, none⟩) (by simp) (.slice none 0 0)).setCell (p := ⟨w.heap.size + 3, 2, none⟩) (by simp) (.slice none 0 0)
        refine bodyPost_ret (v := .tuple #[.agg #[.slice none 0 0, .slice none 0 0, .slice none 0 0], .int .i64 4]) (by simp [results, Tryz.results58, go_sem, r0, r1, r2]) rfl ⟨_, _, _, by rw [HE.out], by rw [HTT.out]; exact rda_nil _ _, by rw [HCC.out]; exact SlA.nil, hBW⟩
      · have HE0 : Hid (updE t key D c = wrapE D key) := by unfold Hid updE; rw [hr, hq, kb, em, fl, an]; simp
        clear em fl an
        clear hr hq kb
        go_wp2_with fail
        refine (twrap_any D key _ _ _ _ (HD.out _ (hB4.alloc (by omega) _)) (SlP.oneB (x := key) (cs := [.string key]) ⟨rfl, hkey⟩ rfl _ rfl (by simp)) (by omega)).mono ?_
        rintro e w5 ⟨v5, u5, rfl, hrd5, hb5⟩
        obtain ⟨A8, n8, A9, n9, rfl, rfl⟩ := rda_shape hrd5
        clear c0 c1 d0 e0 e1 e2 k0 k1 k2 z0 z1 z2 HG6
        have hb5' := hid (hb4'.out.trans ((((Below.refl w4.heap.size w4).alloc (Nat.le_refl _) _).trans (hb5.mono (show w4.heap.size ≤ _ by simp))).mono hs4))
        obtain ⟨hB5, hs5, g3, g4, g5, g6⟩ := HW.out _ hb5'.out
        have HG6 := hid g6
        have c0 : w5.cell? ⟨w.heap.size, 0, none⟩ = some (.slice A3 t.es.length n3) := cell_cells (i := 0) g3
        have c1 : w5.cell? ⟨w.heap.size, 1, none⟩ = some (.slice A4 t.ks.length n4) := cell_cells (i := 1) g3
        have d0 : w5.cell? ⟨w.heap.size + 1, 0, none⟩ = some (.string key) := cell_cells (i := 0) g4
        have e0 : w5.cell? ⟨w.heap.size + 2, 0, none⟩ = some (.slice A5 D.es.length n5) := cell_cells (i := 0) g5
        have e1 : w5.cell? ⟨w.heap.size + 2, 1, none⟩ = some (.slice A6 D.ks.length n6) := cell_cells (i := 1) g5
        have e2 : w5.cell? ⟨w.heap.size + 2, 2, none⟩ = some (.slice A7 c.length n7) := cell_cells (i := 2) g5
        have k0 : w5.cell? ⟨w.heap.size + 3, 0, none⟩ = some (.slice none 0 0) := cell_cells (i := 0) g6
        have k1 : w5.cell? ⟨w.heap.size + 3, 1, none⟩ = some (.slice none 0 0) := cell_cells (i := 1) g6
        have k2 : w5.cell? ⟨w.heap.size + 3, 2, none⟩ = some (.slice none 0 0) := cell_cells (i := 2) g6
        have z0 := cells_frz (i := 0) g6
        have z1 := cells_frz (i := 1) g6
        have z2 := cells_frz (i := 2) g6
        clear g3 g4 g5 g6
        have hs5' := hb5.size
        simp only [World.size_alloc] at hs5'
        clear hb5
        have hlt3 : w.heap.size + 3 < w5.heap.size := by omega
        have hne3 : w.heap.size + 3 ≠ w5.heap.size := by omega
        have hlt2 : w.heap.size + 2 < w5.heap.size := by omega
        have hne2 : w.heap.size + 2 ≠ w5.heap.size := by omega
        have hw3 : wrapE D key = 0 ∨ wrapE D key = 1 ∨ wrapE D key = 10 := by unfold wrapE; split <;> (try split) <;> simp
        have HTX : Hid (updT t key D c = if wrapE D key = 0 then wrapT D key else .mk [] []) := by unfold Hid updT; rw [HE0.out]
        have HCX : Hid (updC t key D c = if wrapE D key = 0 then c else []) := by unfold Hid updC; rw [HE0.out]
        rw [HE0.out]
        generalize wrapE D key = K at *
        generalize wrapT D key = T at *
        rcases hw3 with rfl | rfl | rfl
        · have HX : Hid (∀ w', Below (w5.heap.size + 1) (w5.alloc (.cells #[.slice A8 T.es.length n8, .slice A9 T.ks.length n9] 27)) w' → Below w5.heap.size w5 w' ∧ (w'.cell? ⟨w.heap.size + 2, 2, none⟩ = some (.slice A7 c.length n7) ∧ w'.cell? ⟨w5.heap.size, 0, none⟩ = some (.slice A8 T.es.length n8) ∧ w'.cell? ⟨w5.heap.size, 1, none⟩ = some (.slice A9 T.ks.length n9))) := fun w' hb => by
            have hB : Below w5.heap.size w5 w' := ((Below.refl _ w5).alloc (Nat.le_refl _) _).trans (hb.mono (by omega))
            refine ⟨hB, (hB.cell (p := ⟨w.heap.size + 2, 2, none⟩) (by show w.heap.size + 2 < _; omega)).trans e2, ?_, ?_⟩
            · rw [hb.cell (p := ⟨w5.heap.size, 0, none⟩) (by simp), World.cell?_alloc_new]; rfl
            · rw [hb.cell (p := ⟨w5.heap.size, 1, none⟩) (by simp), World.cell?_alloc_new]; rfl
          clear c0 c1 d0 e0 e1 k0 k1 k2 z0 z1 z2
          go_upto_region 9 with (fail)
          go_region_held3 (fun w' => w'.cell? ⟨w.heap.size + 2, 2, none⟩ = some (.slice A7 c.length n7) ∧ w'.cell? ⟨w5.heap.size, 0, none⟩ = some (.slice A8 T.es.length n8) ∧ w'.cell? ⟨w5.heap.size, 1, none⟩ = some (.slice A9 T.ks.length n9))
            (first | go_keep | exact (HX.out _ hbx.out).2 | exact ⟨cell_box3n (by simp) (HX.out _ hbx.out).2.1, cell_box3n (by show w.heap.size + 3 ≠ _; omega) (HX.out _ hbx.out).2.2.1, cell_box3n (by show w.heap.size + 3 ≠ _; omega) (HX.out _ hbx.out).2.2.2⟩)
            (first | (go_at_call 116; go_loud ((refine (cloneC_any c _ _ (HC.out _ ((hB5.alloc (by omega) _).drew)) (by unfold Few; omega)).mono ?_); rintro e w6 ⟨v6, rfl, ho6, hb6⟩; obtain ⟨A10, c10, hv6⟩ := ho6.shape; subst hv6; have HO6 := hid ho6; have hbx : Hid (Below (w5.heap.size + 1) (w5.alloc (.cells #[.slice A8 T.es.length n8, .slice A9 T.ks.length n9] 27)) w6) := (((Below.refl (w5.heap.size + 1) (w5.alloc (.cells #[.slice A8 T.es.length n8, .slice A9 T.ks.length n9] 27))).drew).trans (hb6.mono (by simp))); have hby := hid (HX.out _ hbx.out).1; have hs6 : w5.heap.size + 1 ≤ w6.heap.size := (by have := hbx.out.size; simpa using this); have HGx := hid ((hby.out.block (w.heap.size + 3) (by omega)).trans HG6.out); have k0 : w6.cell? ⟨w.heap.size + 3, 0, none⟩ = some (.slice none 0 0) := cell_cells (i := 0) HGx.out; have k1 : w6.cell? ⟨w.heap.size + 3, 1, none⟩ = some (.slice none 0 0) := cell_cells (i := 1) HGx.out; have k2 : w6.cell? ⟨w.heap.size + 3, 2, none⟩ = some (.slice none 0 0) := cell_cells (i := 2) HGx.out; have z0 := cells_frz (i := 0) HGx.out; have z1 := cells_frz (i := 1) HGx.out; have z2 := cells_frz (i := 2) HGx.out; have hlt6 : w.heap.size + 3 < w6.heap.size := (by omega); have hne6 : w.heap.size + 3 ≠ w6.heap.size := (by omega); clear ho6 hb6)))
          all_goals go_wp2_with fail
          obtain ⟨r0, r1, r2, hK, hS⟩ := box3 HGx.out (.slice A8 T.es.length n8) (.slice A9 T.ks.length n9) (.slice A10 c.length c10)
          have hBW : Below w.heap.size w (((w6.setCell ⟨w.heap.size + 3, 0, none⟩ (.slice A8 T.es.length n8)).setCell ⟨w.heap.size + 3, 1, none⟩ (.slice A9 T.ks.length n9)).setCell ⟨w.heap.size + 3, 2, none⟩ (.slice A10 c.length c10)) := (((hB5.trans (hby.out.mono (by omega))).setCell (by simp) _).setCell (by simp) _).setCell (by simp) _
          clear k0 k1 k2 z0 z1 z2
          generalize (((w6.setCell ⟨w.heap.size + 3, 0, none⟩ (.slice A8 T.es.length n8)).setCell ⟨w.heap.size + 3, 1, none⟩ (.slice A9 T.ks.length n9)).setCell ⟨w.heap.size + 3, 2, none⟩ (.slice A10 c.length c10)) = W at *
          refine bodyPost_ret (v := .tuple #[.agg #[.slice A8 T.es.length n8, .slice A9 T.ks.length n9, .slice A10 c.length c10], .int .i64 0]) (by simp [results, Tryz.results58, go_sem, r0, r1, r2]) rfl ⟨_, _, _, by rw [HE0.out], ?_, ?_, hBW⟩
          · rw [HTX.out, if_pos trivial]
            exact rda_up (fun b hb => (hK b (by have := hb.1; simp only [World.size_alloc] at this; omega)).trans (hby.out.block b hb.2)) (fun b hb => ⟨by have := hb.1; simp only [World.size_alloc] at this; omega, by have := hb.2; omega⟩) _ _ _ hrd5
          · rw [HCX.out, if_pos trivial]
            refine (HO6.out.sla (by unfold Big; omega)).up (fun b hb => hK b (by have := hb.1; simp only [World.size_alloc, World.size_drew] at this; omega)) (fun b hb => ⟨by have := hb.1; simp only [World.size_alloc, World.size_drew] at this; omega, by have := hb.2.1; omega⟩) (fun _ _ _ h => h)
        · go_wp2_with fail
          obtain ⟨r0, r1, r2, hK, hS⟩ := box3 HG6.out (.slice none 0 0) (.slice none 0 0) (.slice none 0 0)
          have hBW : Below w.heap.size w (((w5.setCell ⟨w.heap.size + 3, 0, none⟩ (.slice none 0 0)).setCell ⟨w.heap.size + 3, 1, none⟩ (.slice none 0 0)).setCell ⟨w.heap.size + 3, 2, none⟩ (.slice none 0 0)) := ((hB5.setCell (by simp) _).setCell (by simp) _).setCell (by simp) _
          clear c0 c1 d0 e0 e1 e2 k0 k1 k2 z0 z1 z2
          generalize (((w5.setCell ⟨w.heap.size + 3, 0, none⟩ (.slice none 0 0)).setCell ⟨w.heap.size + 3, 1, none⟩ (.slice none 0 0)).setCell ⟨w.heap.size + 3, 2, none⟩ (.slice none 0 0)) = W at *
          have q0 : (W.alloc (.cells #[.slice A8 T.es.length n8, .slice A9 T.ks.length n9] 27)).cell? ⟨w.heap.size + 1 + 1 + 1, 0, none⟩ = some (.slice none 0 0) := by rw [World.cell?_alloc_lt _ _ _ (by show w.heap.size + 3 < _; omega)]; exact r0
          have q1 : (W.alloc (.cells #[.slice A8 T.es.length n8, .slice A9 T.ks.length n9] 27)).cell? ⟨w.heap.size + 1 + 1 + 1, 1, none⟩ = some (.slice none 0 0) := by rw [World.cell?_alloc_lt _ _ _ (by show w.heap.size + 3 < _; omega)]; exact r1
          have q2 : (W.alloc (.cells #[.slice A8 T.es.length n8, .slice A9 T.ks.length n9] 27)).cell? ⟨w.heap.size + 1 + 1 + 1, 2, none⟩ = some (.slice none 0 0) := by rw [World.cell?_alloc_lt _ _ _ (by show w.heap.size + 3 < _; omega)]; exact r2
          refine bodyPost_ret (v := .tuple #[.agg #[.slice none 0 0, .slice none 0 0, .slice none 0 0], .int .i64 1]) (by simp [results, Tryz.results58, go_sem, q0, q1, q2]) rfl ⟨_, _, _, by rw [HE0.out], by rw [HTX.out, if_neg (by decide)]; exact rda_nil _ _, by rw [HCX.out, if_neg (by decide)]; exact SlA.nil, hBW.alloc (by omega) _⟩
        · go_wp2_with fail
          obtain ⟨r0, r1, r2, hK, hS⟩ := box3 HG6.out (.slice none 0 0) (.slice none 0 0) (.slice none 0 0)
          have hBW : Below w.heap.size w (((w5.setCell ⟨w.heap.size + 3, 0, none⟩ (.slice none 0 0)).setCell ⟨w.heap.size + 3, 1, none⟩ (.slice none 0 0)).setCell ⟨w.heap.size + 3, 2, none⟩ (.slice none 0 0)) := ((hB5.setCell (by simp) _).setCell (by simp) _).setCell (by simp) _
          clear c0 c1 d0 e0 e1 e2 k0 k1 k2 z0 z1 z2
          generalize (((w5.setCell ⟨w.heap.size + 3, 0, none⟩ (.slice none 0 0)).setCell ⟨w.heap.size + 3, 1, none⟩ (.slice none 0 0)).setCell ⟨w.heap.size + 3, 2, none⟩ (.slice none 0 0)) = W at *
          have q0 : (W.alloc (.cells #[.slice A8 T.es.length n8, .slice A9 T.ks.length n9] 27)).cell? ⟨w.heap.size + 1 + 1 + 1, 0, none⟩ = some (.slice none 0 0) := by rw [World.cell?_alloc_lt _ _ _ (by show w.heap.size + 3 < _; omega)]; exact r0
          have q1 : (W.alloc (.cells #[.slice A8 T.es.length n8, .slice A9 T.ks.length n9] 27)).cell? ⟨w.heap.size + 1 + 1 + 1, 1, none⟩ = some (.slice none 0 0) := by rw [World.cell?_alloc_lt _ _ _ (by show w.heap.size + 3 < _; omega)]; exact r1
          have q2 : (W.alloc (.cells #[.slice A8 T.es.length n8, .slice A9 T.ks.length n9] 27)).cell? ⟨w.heap.size + 1 + 1 + 1, 2, none⟩ = some (.slice none 0 0) := by rw [World.cell?_alloc_lt _ _ _ (by show w.heap.size + 3 < _; omega)]; exact r2
          refine bodyPost_ret (v := .tuple #[.agg #[.slice none 0 0, .slice none 0 0, .slice none 0 0], .int .i64 10]) (by simp [results, Tryz.results58, go_sem, q0, q1, q2]) rfl ⟨_, _, _, by rw [HE0.out], by rw [HTX.out, if_neg (by decide)]; exact rda_nil _ _, by rw [HCX.out, if_neg (by decide)]; exact SlA.nil, hBW.alloc (by omega) _⟩
  · have HE0 : Hid (updE t key D c = wrapE D key) := by unfold Hid updE; rw [hr, hq, kb, em]; simp
    clear em
    clear hr hq kb
    go_wp2_with fail
    refine (twrap_any D key _ _ _ _ (HD.out _ (hB4.alloc (by omega) _)) (SlP.oneB (x := key) (cs := [.string key]) ⟨rfl, hkey⟩ rfl _ rfl (by simp)) (by omega)).mono ?_
    rintro e w5 ⟨v5, u5, rfl, hrd5, hb5⟩
    obtain ⟨A8, n8, A9, n9, rfl, rfl⟩ := rda_shape hrd5
    clear c0 c1 d0 e0 e1 e2 k0 k1 k2 z0 z1 z2 HG6
    have hb5' := hid (hb4'.out.trans ((((Below.refl w4.heap.size w4).alloc (Nat.le_refl _) _).trans (hb5.mono (show w4.heap.size ≤ _ by simp))).mono hs4))
    obtain ⟨hB5, hs5, g3, g4, g5, g6⟩ := HW.out _ hb5'.out
    have HG6 := hid g6
    have c0 : w5.cell? ⟨w.heap.size, 0, none⟩ = some (.slice A3 t.es.length n3) := cell_cells (i := 0) g3
    have c1 : w5.cell? ⟨w.heap.size, 1, none⟩ = some (.slice A4 t.ks.length n4) := cell_cells (i := 1) g3
    have d0 : w5.cell? ⟨w.heap.size + 1, 0, none⟩ = some (.string key) := cell_cells (i := 0) g4
    have e0 : w5.cell? ⟨w.heap.size + 2, 0, none⟩ = some (.slice A5 D.es.length n5) := cell_cells (i := 0) g5
    have e1 : w5.cell? ⟨w.heap.size + 2, 1, none⟩ = some (.slice A6 D.ks.length n6) := cell_cells (i := 1) g5
    have e2 : w5.cell? ⟨w.heap.size + 2, 2, none⟩ = some (.slice A7 c.length n7) := cell_cells (i := 2) g5
    have k0 : w5.cell? ⟨w.heap.size + 3, 0, none⟩ = some (.slice none 0 0) := cell_cells (i := 0) g6
    have k1 : w5.cell? ⟨w.heap.size + 3, 1, none⟩ = some (.slice none 0 0) := cell_cells (i := 1) g6
    have k2 : w5.cell? ⟨w.heap.size + 3, 2, none⟩ = some (.slice none 0 0) := cell_cells (i := 2) g6
    have z0 := cells_frz (i := 0) g6
    have z1 := cells_frz (i := 1) g6
    have z2 := cells_frz (i := 2) g6
    clear g3 g4 g5 g6
    have hs5' := hb5.size
    simp only [World.size_alloc] at hs5'
    clear hb5
    have hlt3 : w.heap.size + 3 < w5.heap.size := by omega
    have hne3 : w.heap.size + 3 ≠ w5.heap.size := by omega
    have hlt2 : w.heap.size + 2 < w5.heap.size := by omega
    have hne2 : w.heap.size + 2 ≠ w5.heap.size := by omega
    have hw3 : wrapE D key = 0 ∨ wrapE D key = 1 ∨ wrapE D key = 10 := by unfold wrapE; split <;> (try split) <;> simp
    have HTX : Hid (updT t key D c = if wrapE D key = 0 then wrapT D key else .mk [] []) := by unfold Hid updT; rw [HE0.out]
    have HCX : Hid (updC t key D c = if wrapE D key = 0 then c else []) := by unfold Hid updC; rw [HE0.out]
    rw [HE0.out]
    generalize wrapE D key = K at *
    generalize wrapT D key = T at *
    rcases hw3 with rfl | rfl | rfl
    · have HX : Hid (∀ w', Below (w5.heap.size + 1) (w5.alloc (.cells #[.slice A8 T.es.length n8, .slice A9 T.ks.length n9] 27)) w' → Below w5.heap.size w5 w' ∧ (w'.cell? ⟨w.heap.size + 2, 2, none⟩ = some (.slice A7 c.length n7) ∧ w'.cell? ⟨w5.heap.size, 0, none⟩ = some (.slice A8 T.es.length n8) ∧ w'.cell? ⟨w5.heap.size, 1, none⟩ = some (.slice A9 T.ks.length n9))) := fun w' hb => by
        have hB : Below w5.heap.size w5 w' := ((Below.refl _ w5).alloc (Nat.le_refl _) _).trans (hb.mono (by omega))
        refine ⟨hB, (hB.cell (p := ⟨w.heap.size + 2, 2, none⟩) (by show w.heap.size + 2 < _; omega)).trans e2, ?_, ?_⟩
        · rw [hb.cell (p := ⟨w5.heap.size, 0, none⟩) (by simp), World.cell?_alloc_new]; rfl
        · rw [hb.cell (p := ⟨w5.heap.size, 1, none⟩) (by simp), World.cell?_alloc_new]; rfl
      clear c0 c1 d0 e0 e1 k0 k1 k2 z0 z1 z2
      go_upto_region 9 with (fail)
      go_region_held3 (fun w' => w'.cell? ⟨w.heap.size + 2, 2, none⟩ = some (.slice A7 c.length n7) ∧ w'.cell? ⟨w5.heap.size, 0, none⟩ = some (.slice A8 T.es.length n8) ∧ w'.cell? ⟨w5.heap.size, 1, none⟩ = some (.slice A9 T.ks.length n9))
        (first | go_keep | exact (HX.out _ hbx.out).2 | exact ⟨cell_box3n (by simp) (HX.out _ hbx.out).2.1, cell_box3n (by show w.heap.size + 3 ≠ _; omega) (HX.out _ hbx.out).2.2.1, cell_box3n (by show w.heap.size + 3 ≠ _; omega) (HX.out _ hbx.out).2.2.2⟩)
        (first | (go_at_call 116; go_loud ((refine (cloneC_any c _ _ (HC.out _ ((hB5.alloc (by omega) _).drew)) (by unfold Few; omega)).mono ?_); rintro e w6 ⟨v6, rfl, ho6, hb6⟩; obtain ⟨A10, c10, hv6⟩ := ho6.shape; subst hv6; have HO6 := hid ho6; have hbx : Hid (Below (w5.heap.size + 1) (w5.alloc (.cells #[.slice A8 T.es.length n8, .slice A9 T.ks.length n9] 27)) w6) := (((Below.refl (w5.heap.size + 1) (w5.alloc (.cells #[.slice A8 T.es.length n8, .slice A9 T.ks.length n9] 27))).drew).trans (hb6.mono (by simp))); have hby := hid (HX.out _ hbx.out).1; have hs6 : w5.heap.size + 1 ≤ w6.heap.size := (by have := hbx.out.size; simpa using this); have HGx := hid ((hby.out.block (w.heap.size + 3) (by omega)).trans HG6.out); have k0 : w6.cell? ⟨w.heap.size + 3, 0, none⟩ = some (.slice none 0 0) := cell_cells (i := 0) HGx.out; have k1 : w6.cell? ⟨w.heap.size + 3, 1, none⟩ = some (.slice none 0 0) := cell_cells (i := 1) HGx.out; have k2 : w6.cell? ⟨w.heap.size + 3, 2, none⟩ = some (.slice none 0 0) := cell_cells (i := 2) HGx.out; have z0 := cells_frz (i := 0) HGx.out; have z1 := cells_frz (i := 1) HGx.out; have z2 := cells_frz (i := 2) HGx.out; have hlt6 : w.heap.size + 3 < w6.heap.size := (by omega); have hne6 : w.heap.size + 3 ≠ w6.heap.size := (by omega); clear ho6 hb6)))
      all_goals go_wp2_with fail
      obtain ⟨r0, r1, r2, hK, hS⟩ := box3 HGx.out (.slice A8 T.es.length n8) (.slice A9 T.ks.length n9) (.slice A10 c.length c10)
      have hBW : Below w.heap.size w (((w6.setCell ⟨w.heap.size + 3, 0, none⟩ (.slice A8 T.es.length n8)).setCell ⟨w.heap.size + 3, 1, none⟩ (.slice A9 T.ks.length n9)).setCell ⟨w.heap.size + 3, 2, none⟩ (.slice A10 c.length c10)) := (((hB5.trans (hby.out.mono (by omega))).setCell (by simp) _).setCell (by simp) _).setCell (by simp) _
      clear k0 k1 k2 z0 z1 z2
      generalize (((w6.setCell ⟨w.heap.size + 3, 0, none⟩ (.slice A8 T.es.length n8)).setCell ⟨w.heap.size + 3, 1, none⟩ (.slice A9 T.ks.length n9)).setCell ⟨w.heap.size + 3, 2, none⟩ (.slice A10 c.length c10)) = W at *
      refine bodyPost_ret (v := .tuple #[.agg #[.slice A8 T.es.length n8, .slice A9 T.ks.length n9, .slice A10 c.length c10], .int .i64 0]) (by simp [results, Tryz.results58, go_sem, r0, r1, r2]) rfl ⟨_, _, _, by rw [HE0.out], ?_, ?_, hBW⟩
      · rw [HTX.out, if_pos trivial]
        exact rda_up (fun b hb => (hK b (by have := hb.1; simp only [World.size_alloc] at this; omega)).trans (hby.out.block b hb.2)) (fun b hb => ⟨by have := hb.1; simp only [World.size_alloc] at this; omega, by have := hb.2; omega⟩) _ _ _ hrd5
      · rw [HCX.out, if_pos trivial]
        refine (HO6.out.sla (by unfold Big; omega)).up (fun b hb => hK b (by have := hb.1; simp only [World.size_alloc, World.size_drew] at this; omega)) (fun b hb => ⟨by have := hb.1; simp only [World.size_alloc, World.size_drew] at this; omega, by have := hb.2.1; omega⟩) (fun _ _ _ h => h)
    · go_wp2_with fail
      obtain ⟨r0, r1, r2, hK, hS⟩ := box3 HG6.out (.slice none 0 0) (.slice none 0 0) (.slice none 0 0)
      have hBW : Below w.heap.size w (((w5.setCell ⟨w.heap.size + 3, 0, none⟩ (.slice none 0 0)).setCell ⟨w.heap.size + 3, 1, none⟩ (.slice none 0 0)).setCell ⟨w.heap.size + 3, 2, none⟩ (.slice none 0 0)) := ((hB5.setCell (by simp) _).setCell (by simp) _).setCell (by simp) _
      clear c0 c1 d0 e0 e1 e2 k0 k1 k2 z0 z1 z2
      generalize (((w5.setCell ⟨w.heap.size + 3, 0, none⟩ (.slice none 0 0)).setCell ⟨w.heap.size + 3, 1, none⟩ (.slice none 0 0)).setCell ⟨w.heap.size + 3, 2, none⟩ (.slice none 0 0)) = W at *
      have q0 : (W.alloc (.cells #[.slice A8 T.es.length n8, .slice A9 T.ks.length n9] 27)).cell? ⟨w.heap.size + 1 + 1 + 1, 0, none⟩ = some (.slice none 0 0) := by rw [World.cell?_alloc_lt _ _ _ (by show w.heap.size + 3 < _; omega)]; exact r0
      have q1 : (W.alloc (.cells #[.slice A8 T.es.length n8, .slice A9 T.ks.length n9] 27)).cell? ⟨w.heap.size + 1 + 1 + 1, 1, none⟩ = some (.slice none 0 0) := by rw [World.cell?_alloc_lt _ _ _ (by show w.heap.size + 3 < _; omega)]; exact r1
      have q2 : (W.alloc (.cells #[.slice A8 T.es.length n8, .slice A9 T.ks.length n9] 27)).cell? ⟨w.heap.size + 1 + 1 + 1, 2, none⟩ = some (.slice none 0 0) := by rw [World.cell?_alloc_lt _ _ _ (by show w.heap.size + 3 < _; omega)]; exact r2
      refine bodyPost_ret (v := .tuple #[.agg #[.slice none 0 0, .slice none 0 0, .slice none 0 0], .int .i64 1]) (by simp [results, Tryz.results58, go_sem, q0, q1, q2]) rfl ⟨_, _, _, by rw [HE0.out], by rw [HTX.out, if_neg (by decide)]; exact rda_nil _ _, by rw [HCX.out, if_neg (by decide)]; exact SlA.nil, hBW.alloc (by omega) _⟩
    · go_wp2_with fail
      obtain ⟨r0, r1, r2, hK, hS⟩ := box3 HG6.out (.slice none 0 0) (.slice none 0 0) (.slice none 0 0)
      have hBW : Below w.heap.size w (((w5.setCell ⟨w.heap.size + 3, 0, none⟩ (.slice none 0 0)).setCell ⟨w.heap.size + 3, 1, none⟩ (.slice none 0 0)).setCell ⟨w.heap.size + 3, 2, none⟩ (.slice none 0 0)) := ((hB5.setCell (by simp) _).setCell (by simp) _).setCell (by simp) _
      clear c0 c1 d0 e0 e1 e2 k0 k1 k2 z0 z1 z2
      generalize (((w5.setCell ⟨w.heap.size + 3, 0, none⟩ (.slice none 0 0)).setCell ⟨w.heap.size + 3, 1, none⟩ (.slice none 0 0)).setCell ⟨w.heap.size + 3, 2, none⟩ (.slice none 0 0)) = W at *
      have q0 : (W.alloc (.cells #[.slice A8 T.es.length n8, .slice A9 T.ks.length n9] 27)).cell? ⟨w.heap.size + 1 + 1 + 1, 0, none⟩ = some (.slice none 0 0) := by rw [World.cell?_alloc_lt _ _ _ (by show w.heap.size + 3 < _; omega)]; exact r0
      have q1 : (W.alloc (.cells #[.slice A8 T.es.length n8, .slice A9 T.ks.length n9] 27)).cell? ⟨w.heap.size + 1 + 1 + 1, 1, none⟩ = some (.slice none 0 0) := by rw [World.cell?_alloc_lt _ _ _ (by show w.heap.size + 3 < _; omega)]; exact r1
      have q2 : (W.alloc (.cells #[.slice A8 T.es.length n8, .slice A9 T.ks.length n9] 27)).cell? ⟨w.heap.size + 1 + 1 + 1, 2, none⟩ = some (.slice none 0 0) := by rw [World.cell?_alloc_lt _ _ _ (by show w.heap.size + 3 < _; omega)]; exact r2
      refine bodyPost_ret (v := .tuple #[.agg #[.slice none 0 0, .slice none 0 0, .slice none 0 0], .int .i64 10]) (by simp [results, Tryz.results58, go_sem, q0, q1, q2]) rfl ⟨_, _, _, by rw [HE0.out], by rw [HTX.out, if_neg (by decide)]; exact rda_nil _ _, by rw [HCX.out, if_neg (by decide)]; exact SlA.nil, hBW.alloc (by omega) _⟩
end Go.Proofs.YtmphgnjodangcaaGreat

namespace Go.Proofs.YtmphgnjodangcaaGreat
open Go.RowKit
set_option maxRecDepth 100000

/-- What flag.Enable makes. -/
def enT (t : Tr) (d : Dt) : Tr := if chkT t d then .mk [⟨d.dc, d.n, ByteArray.empty, 0⟩] [] else .mk [] []
theorem EnE.mk' {d : Dt} (hd : d.Ok) : EnE (⟨d.dc, d.n, ByteArray.empty, 0⟩ : En) [.int .i64 d.dc, .int .i64 d.n, .string ByteArray.empty, .int .i64 0] := ⟨rfl, En.Ok.mk' hd ⟨by decide, by decide⟩⟩
theorem cell_box3 {w3 : World} {b : Nat} {x0 x1 x2 : Value} {a : Addr} {v : Value} {o : Obj} (hne : b ≠ a.block) (hlt : a.block < w3.heap.size) (h : w3.cell? a = some v) :
    ((((w3.setCell ⟨b, 0, none⟩ x0).setCell ⟨b, 1, none⟩ x1).setCell ⟨b, 2, none⟩ x2).alloc o).cell? a = some v := by
  rw [World.cell?_alloc_lt _ _ _ (by simpa using hlt), World.cell?_setCell_far _ _ _ _ hne, World.cell?_setCell_far _ _ _ _ hne, World.cell?_setCell_far _ _ _ _ hne]; exact h
set_option maxHeartbeats 4000000 in
theorem fenable_any (t : Tr) (d : Dt) (ve vk : Value) (w : World) (h : t.rd w w.heap.size ve vk) (hN : t.sz ≤ 4000) (hd : d.Ok) :
    Calls Tryz.prog 205 #[.agg #[ve, vk], .agg #[.int .i64 d.dc, .int .i64 d.n]] w (RetCE w (enT t d) (disC t d) (chkI t d)) := by
  have HC : Hid (∀ w', Below w.heap.size w w' → t.rd w' w'.heap.size ve vk) := fun w' hb => rd_below hb hb.size _ _ _ h
  obtain ⟨A3, n3, A4, n4, rfl, rfl⟩ := rd_shape h
  have hb0 := (((Below.refl w.heap.size w).alloc (Nat.le_refl _) (.cells #[.slice A3 t.es.length n3, .slice A4 t.ks.length n4] 27)).alloc (by simp) (.cells #[.int .i64 d.dc, .int .i64 d.n] 54)).alloc (by simp; omega) (.cells #[.slice none 0 0, .slice none 0 0, .slice none 0 0] 31)
  clear h
  go_enter Tryz.func205, Tryz.ntmps205
  go_wp2_with fail
  refine (fcheck_any t d _ _ _ (HC.out _ hb0) (by omega)).mono ?_
  rintro e w1 ⟨rfl, hb1⟩
  have hs1 := hb1.size
  simp only [World.size_alloc] at hs1
  have hB1 : Below w.heap.size w w1 := hb0.trans (hb1.mono (by simp; omega))
  have c0 : w1.cell? ⟨w.heap.size, 0, none⟩ = some (.slice A3 t.es.length n3) := by
    rw [hb1.cell (p := ⟨w.heap.size, 0, none⟩) (by simp; omega)]
    rw [World.cell?_alloc_lt _ _ _ (by simp; omega), World.cell?_alloc_lt _ _ _ (by simp)]; simp
  have c1 : w1.cell? ⟨w.heap.size, 1, none⟩ = some (.slice A4 t.ks.length n4) := by
    rw [hb1.cell (p := ⟨w.heap.size, 1, none⟩) (by simp; omega)]
    rw [World.cell?_alloc_lt _ _ _ (by simp; omega), World.cell?_alloc_lt _ _ _ (by simp)]; simp
  have d0 : w1.cell? ⟨w.heap.size + 1, 0, none⟩ = some (.int .i64 d.dc) := by rw [hb1.cell (p := ⟨w.heap.size + 1, 0, none⟩) (by simp), World.cell?_alloc_lt _ _ _ (by simp)]; simp
  have d1 : w1.cell? ⟨w.heap.size + 1, 1, none⟩ = some (.int .i64 d.n) := by rw [hb1.cell (p := ⟨w.heap.size + 1, 1, none⟩) (by simp), World.cell?_alloc_lt _ _ _ (by simp)]; simp
  have hg : w1.heap[w.heap.size + 2]? = some (.cells #[.slice none 0 0, .slice none 0 0, .slice none 0 0] 31 (0, 0)) := (hb1.block (w.heap.size + 2) (by simp)).trans (heap_new (by simp))
  have HG := hid hg
  have k0 : w1.cell? ⟨w.heap.size + 2, 0, none⟩ = some (.slice none 0 0) := cell_cells (i := 0) hg
  have k1 : w1.cell? ⟨w.heap.size + 2, 1, none⟩ = some (.slice none 0 0) := cell_cells (i := 1) hg
  have k2 : w1.cell? ⟨w.heap.size + 2, 2, none⟩ = some (.slice none 0 0) := cell_cells (i := 2) hg
  have z0 := cells_frz (i := 0) hg
  have z1 := cells_frz (i := 1) hg
  have z2 := cells_frz (i := 2) hg
  clear hg hb1
  cases hc : chkT t d
  · have HE : Hid (chkI t d = 1) := by unfold Hid chkI; rw [hc]; rfl
    have HD : Hid (disC t d = []) := by unfold Hid disC; rw [hc]; rfl
    have HT : Hid (enT t d = .mk [] []) := by unfold Hid enT; rw [hc]; rfl
    rw [HE.out]
    clear hc
    go_wp2_with fail
    obtain ⟨r0, r1, r2, hK, hS⟩ := box3 HG.out (.slice none 0 0) (.slice none 0 0) (.slice none 0 0)
    have hBW := ((hB1.setCell (p := ⟨w.heap.size + 2, 0, none⟩) (by simp) (.slice none 0 0)).setCell (p := ⟨w.heap.size + 2, 1, none⟩) (by simp) (.slice none 0 0)).setCell (p := ⟨w.heap.size + 2, 2, none⟩) (by simp) (.slice none 0 0)
    refine bodyPost_ret (v := .tuple #[.agg #[.slice none 0 0, .slice none 0 0, .slice none 0 0], .int .i64 1]) (by simp [results, Tryz.results205, go_sem, r0, r1, r2]) rfl ⟨_, _, _, by rw [HE.out], ?_, ?_, hBW⟩
    · rw [HT.out]; exact rda_nil _ _
    · rw [HD.out]; exact SlA.nil
  · have HE : Hid (chkI t d = 0) := by unfold Hid chkI; rw [hc]; rfl
    have HD : Hid (disC t d = seenC t d) := by unfold Hid disC; rw [hc]; rfl
    have HT : Hid (enT t d = .mk [⟨d.dc, d.n, ByteArray.empty, 0⟩] []) := by unfold Hid enT; rw [hc]; rfl
    have HDR := hid (chkT_right hc)
    have HTR := hid (chkT_tree hc)
    have hsc := seenC_len t d
    have HK : Hid (∀ w', Below w1.heap.size w1 w' → w'.cell? ⟨w.heap.size + 1, 0, none⟩ = some (.int .i64 d.dc) ∧ w'.cell? ⟨w.heap.size + 1, 1, none⟩ = some (.int .i64 d.n) ∧ w'.cell? ⟨w.heap.size, 0, none⟩ = some (.slice A3 t.es.length n3) ∧ w'.cell? ⟨w.heap.size, 1, none⟩ = some (.slice A4 t.ks.length n4)) := fun w' hb =>
      ⟨(hb.cell (p := ⟨w.heap.size + 1, 0, none⟩) (by show w.heap.size + 1 < _; omega)).trans d0, (hb.cell (p := ⟨w.heap.size + 1, 1, none⟩) (by show w.heap.size + 1 < _; omega)).trans d1, (hb.cell (p := ⟨w.heap.size, 0, none⟩) (by show w.heap.size < _; omega)).trans c0, (hb.cell (p := ⟨w.heap.size, 1, none⟩) (by show w.heap.size < _; omega)).trans c1⟩
    rw [HE.out]
    have hne5 : w.heap.size + 1 + 1 ≠ w.heap.size := by omega
    have hne6 : w.heap.size ≠ w.heap.size + 1 + 1 := by omega
    clear hc k0 k1 k2 z0 z1 z2
    go_upto_region 4 with (fail)
    go_region_held3 (fun w' => w'.cell? ⟨w.heap.size + 1, 0, none⟩ = some (.int .i64 d.dc) ∧ w'.cell? ⟨w.heap.size + 1, 1, none⟩ = some (.int .i64 d.n) ∧ w'.cell? ⟨w.heap.size, 0, none⟩ = some (.slice A3 t.es.length n3) ∧ w'.cell? ⟨w.heap.size, 1, none⟩ = some (.slice A4 t.ks.length n4))
      (first | go_keep | exact HK.out _ hbx.out | exact ⟨cell_box3 (by simp) (by show w.heap.size + 1 < _; omega) (HK.out _ hbx.out).1, cell_box3 (by simp) (by show w.heap.size + 1 < _; omega) (HK.out _ hbx.out).2.1, cell_box3 (by show w.heap.size + 1 + 1 ≠ w.heap.size; omega) (by show w.heap.size < _; omega) (HK.out _ hbx.out).2.2.1, cell_box3 (by show w.heap.size + 1 + 1 ≠ w.heap.size; omega) (by show w.heap.size < _; omega) (HK.out _ hbx.out).2.2.2⟩)
      (first | (go_at_call 246; go_loud ((refine (seen_any t d _ _ _ (HC.out _ (by first | exact hB1.drew | exact (hB1.alloc (by omega) _).drew | exact hB1.drew.alloc (by show w.heap.size ≤ w1.heap.size; omega) _)) hN HTR.out HDR.out hd).mono ?_); rintro e w3 ⟨v3, rfl, ho3, hb3⟩; obtain ⟨A5, c5, hv3⟩ := ho3.shape; subst hv3; have HO3 := hid ho3; have HB3 := hid hb3; have hbx : Hid (Below w1.heap.size w1 w3) := (by first | exact ((Below.refl _ w1).drew).trans hb3 | exact (((Below.refl _ w1).alloc (Nat.le_refl _) _).drew).trans (hb3.mono (Nat.le_of_lt (by simp))) | exact (((Below.refl _ w1).drew).alloc (Nat.le_refl _) _).trans (hb3.mono (Nat.le_of_lt (by simp)))); have hs3 := hbx.out.size; have HG3 := hid ((hbx.out.block (w.heap.size + 2) (by omega)).trans HG.out); have k0 : w3.cell? ⟨w.heap.size + 2, 0, none⟩ = some (.slice none 0 0) := cell_cells (i := 0) HG3.out; have k1 : w3.cell? ⟨w.heap.size + 2, 1, none⟩ = some (.slice none 0 0) := cell_cells (i := 1) HG3.out; have k2 : w3.cell? ⟨w.heap.size + 2, 2, none⟩ = some (.slice none 0 0) := cell_cells (i := 2) HG3.out; have z0 := cells_frz (i := 0) HG3.out; have z1 := cells_frz (i := 1) HG3.out; have z2 := cells_frz (i := 2) HG3.out; have hlt3 : w.heap.size + 2 < w3.heap.size := (by omega); have hne3 : w.heap.size + 2 ≠ w3.heap.size := (by omega); clear ho3 hb3)))
    all_goals go_wp2_with fail
    · have hE3 : w3.heap[w1.heap.size]? = some (.cells #[.int .i64 d.dc, .int .i64 d.n, .string ⟨#[]⟩, .int .i64 0] 142 (0, 0)) := (HB3.out.block w1.heap.size (by simp)).trans (heap_new rfl)
      obtain ⟨r0, r1, r2, hK, hS⟩ := box3 HG3.out (.slice (some ⟨w1.heap.size, 0, none⟩) 1 1) (.slice none 0 0) (.slice A5 (seenC t d).length c5)
      have hBW : Below w.heap.size w (((w3.setCell ⟨w.heap.size + 2, 0, none⟩ (.slice (some ⟨w1.heap.size, 0, none⟩) 1 1)).setCell ⟨w.heap.size + 2, 1, none⟩ (.slice none 0 0)).setCell ⟨w.heap.size + 2, 2, none⟩ (.slice A5 (seenC t d).length c5)) := (((hB1.trans (hbx.out.mono (by omega))).setCell (by simp) _).setCell (by simp) _).setCell (by simp) _
      clear k0 k1 k2 z0 z1 z2
      generalize (((w3.setCell ⟨w.heap.size + 2, 0, none⟩ (.slice (some ⟨w1.heap.size, 0, none⟩) 1 1)).setCell ⟨w.heap.size + 2, 1, none⟩ (.slice none 0 0)).setCell ⟨w.heap.size + 2, 2, none⟩ (.slice A5 (seenC t d).length c5)) = W at *
      refine bodyPost_ret (v := .tuple #[.agg #[.slice (some ⟨w1.heap.size, 0, none⟩) 1 1, .slice none 0 0, .slice A5 (seenC t d).length c5], .int .i64 0]) (by simp [results, Tryz.results205, go_sem, r0, r1, r2]) rfl ⟨_, _, _, by rw [HE.out], ?_, ?_, hBW⟩
      · rw [HT.out, rda_iff]
        refine ⟨?_, SlA.nil⟩
        exact SlA.one (x := (⟨d.dc, d.n, ByteArray.empty, 0⟩ : En)) (cs := [.int .i64 d.dc, .int .i64 d.n, .string ByteArray.empty, .int .i64 0]) (e := 142) (z := (0, 0)) ⟨rfl, En.Ok.mk' hd ⟨by decide, by decide⟩⟩ rfl ((hK _ (by omega)).trans hE3) ⟨by omega, by have := HB3.out.size; simp at this; omega⟩
      · rw [HD.out]
        refine (HO3.out.sla (by unfold Big; omega)).up (fun b hb => hK b (by have := hb.1; simp only [World.size_alloc, World.size_drew] at this; omega)) (fun b hb => ⟨by have := hb.1; simp only [World.size_alloc, World.size_drew] at this; omega, by have := hb.2.1; omega⟩) (fun _ _ _ h => h)
    · obtain ⟨r0, r1, r2, hK, hS⟩ := box3 HG3.out (.slice (some ⟨w3.heap.size, 0, none⟩) 1 1) (.slice none 0 0) (.slice A5 (seenC t d).length c5)
      have hBW : Below w.heap.size w (((w3.setCell ⟨w.heap.size + 2, 0, none⟩ (.slice (some ⟨w3.heap.size, 0, none⟩) 1 1)).setCell ⟨w.heap.size + 2, 1, none⟩ (.slice none 0 0)).setCell ⟨w.heap.size + 2, 2, none⟩ (.slice A5 (seenC t d).length c5)) := (((hB1.trans (hbx.out.mono (by omega))).setCell (by simp) _).setCell (by simp) _).setCell (by simp) _
      clear k0 k1 k2 z0 z1 z2
      generalize (((w3.setCell ⟨w.heap.size + 2, 0, none⟩ (.slice (some ⟨w3.heap.size, 0, none⟩) 1 1)).setCell ⟨w.heap.size + 2, 1, none⟩ (.slice none 0 0)).setCell ⟨w.heap.size + 2, 2, none⟩ (.slice A5 (seenC t d).length c5)) = W at *
      have q0 : (W.alloc (.cells #[.int .i64 d.dc, .int .i64 d.n, .string ⟨#[]⟩, .int .i64 0] 142)).cell? ⟨w.heap.size + 1 + 1, 0, none⟩ = some (.slice (some ⟨w3.heap.size, 0, none⟩) 1 1) := by rw [World.cell?_alloc_lt _ _ _ (by show w.heap.size + 2 < _; omega)]; exact r0
      have q1 : (W.alloc (.cells #[.int .i64 d.dc, .int .i64 d.n, .string ⟨#[]⟩, .int .i64 0] 142)).cell? ⟨w.heap.size + 1 + 1, 1, none⟩ = some (.slice none 0 0) := by rw [World.cell?_alloc_lt _ _ _ (by show w.heap.size + 2 < _; omega)]; exact r1
      have q2 : (W.alloc (.cells #[.int .i64 d.dc, .int .i64 d.n, .string ⟨#[]⟩, .int .i64 0] 142)).cell? ⟨w.heap.size + 1 + 1, 2, none⟩ = some (.slice A5 (seenC t d).length c5) := by rw [World.cell?_alloc_lt _ _ _ (by show w.heap.size + 2 < _; omega)]; exact r2
      refine bodyPost_ret (v := .tuple #[.agg #[.slice (some ⟨w3.heap.size, 0, none⟩) 1 1, .slice none 0 0, .slice A5 (seenC t d).length c5], .int .i64 0]) (by simp [results, Tryz.results205, go_sem, q0, q1, q2]) rfl ⟨_, _, _, by rw [HE.out], ?_, ?_, hBW.alloc (by omega) _⟩
      · rw [HT.out, rda_iff]
        refine ⟨?_, SlA.nil⟩
        exact SlA.one (x := (⟨d.dc, d.n, ByteArray.empty, 0⟩ : En)) (cs := [.int .i64 d.dc, .int .i64 d.n, .string ByteArray.empty, .int .i64 0]) (e := 142) (z := (0, 0)) ⟨rfl, En.Ok.mk' hd ⟨by decide, by decide⟩⟩ rfl (heap_new hS.symm) ⟨by omega, by rw [World.size_alloc]; omega⟩
      · rw [HD.out]
        refine (HO3.out.sla (by unfold Big; omega)).up (fun b hb => (heap_old (by have := hb.2.1; omega)).trans (hK b (by have := hb.1; simp only [World.size_drew] at this; omega))) (fun b hb => ⟨by have := hb.1; simp only [World.size_drew] at this; omega, by rw [World.size_alloc]; have := hb.2.1; omega⟩) (fun _ _ _ h => h)
end Go.Proofs.YtmphgnjodangcaaGreat

namespace Go.Proofs.YtmphgnjodangcaaGreat
open Go.RowKit
set_option maxRecDepth 100000

set_option maxHeartbeats 4000000 in
theorem oreset_any (t : Tr) (d : Dt) (ve vk : Value) (w : World) (h : t.rd w w.heap.size ve vk) (hN : t.sz ≤ 4000) (hd : d.Ok) :
    Calls Tryz.prog 207 #[.agg #[ve, vk], .agg #[.int .i64 d.dc, .int .i64 d.n]] w (RetCE w (.mk [] []) (disC t d) (chkI t d)) := by
  have hdl := dots_len t
  have h2 := ctxOf_len t.dots
  have h3 := ctxOf_len [d]
  simp only [List.length_singleton] at h3
  have HC : Hid (∀ w', Below w.heap.size w w' → t.rd w' w'.heap.size ve vk) := fun w' hb => rd_below hb hb.size _ _ _ h
  obtain ⟨A3, n3, A4, n4, rfl, rfl⟩ := rd_shape h
  have hb0 := (((Below.refl w.heap.size w).alloc (Nat.le_refl _) (.cells #[.slice A3 t.es.length n3, .slice A4 t.ks.length n4] 27)).alloc (by simp) (.cells #[.int .i64 d.dc, .int .i64 d.n] 54)).alloc (by simp; omega) (.cells #[.slice none 0 0, .slice none 0 0, .slice none 0 0] 31)
  clear h
  go_enter Tryz.func207, Tryz.ntmps207
  go_wp2_with fail
  refine (fcheck_any t d _ _ _ (HC.out _ hb0) (by omega)).mono ?_
  rintro e w1 ⟨rfl, hb1⟩
  have hs1 := hb1.size
  simp only [World.size_alloc] at hs1
  have hB1 : Below w.heap.size w w1 := hb0.trans (hb1.mono (by simp; omega))
  have c0 : w1.cell? ⟨w.heap.size, 0, none⟩ = some (.slice A3 t.es.length n3) := by
    rw [hb1.cell (p := ⟨w.heap.size, 0, none⟩) (by simp; omega)]
    rw [World.cell?_alloc_lt _ _ _ (by simp; omega), World.cell?_alloc_lt _ _ _ (by simp)]; simp
  have c1 : w1.cell? ⟨w.heap.size, 1, none⟩ = some (.slice A4 t.ks.length n4) := by
    rw [hb1.cell (p := ⟨w.heap.size, 1, none⟩) (by simp; omega)]
    rw [World.cell?_alloc_lt _ _ _ (by simp; omega), World.cell?_alloc_lt _ _ _ (by simp)]; simp
  have d0 : w1.cell? ⟨w.heap.size + 1, 0, none⟩ = some (.int .i64 d.dc) := by rw [hb1.cell (p := ⟨w.heap.size + 1, 0, none⟩) (by simp), World.cell?_alloc_lt _ _ _ (by simp)]; simp
  have d1 : w1.cell? ⟨w.heap.size + 1, 1, none⟩ = some (.int .i64 d.n) := by rw [hb1.cell (p := ⟨w.heap.size + 1, 1, none⟩) (by simp), World.cell?_alloc_lt _ _ _ (by simp)]; simp
  have hg : w1.heap[w.heap.size + 2]? = some (.cells #[.slice none 0 0, .slice none 0 0, .slice none 0 0] 31 (0, 0)) := (hb1.block (w.heap.size + 2) (by simp)).trans (heap_new (by simp))
  have HG := hid hg
  have k0 : w1.cell? ⟨w.heap.size + 2, 0, none⟩ = some (.slice none 0 0) := cell_cells (i := 0) hg
  have k1 : w1.cell? ⟨w.heap.size + 2, 1, none⟩ = some (.slice none 0 0) := cell_cells (i := 1) hg
  have k2 : w1.cell? ⟨w.heap.size + 2, 2, none⟩ = some (.slice none 0 0) := cell_cells (i := 2) hg
  have z0 := cells_frz (i := 0) hg
  have z1 := cells_frz (i := 1) hg
  have z2 := cells_frz (i := 2) hg
  clear hg hb1
  cases hc : chkT t d
  · have HE : Hid (chkI t d = 1) := by unfold Hid chkI; rw [hc]; rfl
    have HD : Hid (disC t d = []) := by unfold Hid disC; rw [hc]; rfl
    rw [HE.out]
    clear hc
    go_wp2_with fail
    obtain ⟨r0, r1, r2, hK, hS⟩ := box3 HG.out (.slice none 0 0) (.slice none 0 0) (.slice none 0 0)
    have hBW := ((hB1.setCell (p := ⟨w.heap.size + 2, 0, none⟩) (by simp) (.slice none 0 0)).setCell (p := ⟨w.heap.size + 2, 1, none⟩) (by simp) (.slice none 0 0)).setCell (p := ⟨w.heap.size + 2, 2, none⟩) (by simp) (.slice none 0 0)
    refine bodyPost_ret (v := .tuple #[.agg #[.slice none 0 0, .slice none 0 0, .slice none 0 0], .int .i64 1]) (by simp [results, Tryz.results207, go_sem, r0, r1, r2]) rfl ⟨_, _, _, by rw [HE.out], ?_, ?_, hBW⟩
    · exact rda_nil _ _
    · rw [HD.out]; exact SlA.nil
  · have HE : Hid (chkI t d = 0) := by unfold Hid chkI; rw [hc]; rfl
    have HD : Hid (disC t d = ctxBy (ctxOf t.dots) (ctxOf [d]) 0) := by unfold Hid disC; rw [hc]; rfl
    have hdr := chkT_right hc
    have htr := chkT_tree hc
    have HAA := hid (apart_ctxOf (right_dots t 5 htr))
    have HAB := hid (apart_ctxOf (right_one hdr))
    have HDR := hid (right_one hdr)
    have HDO := hid hd
    rw [HE.out]
    clear hc
    go_wp2_with fail
    refine (tdots_any t _ _ w1 (HC.out _ hB1) (by omega)).mono ?_
    rintro e w2 ⟨v1, n1, rfl, hn1, ho1, hb2⟩
    rw [htr] at ho1 hn1
    obtain rfl : n1 = 0 := hn1
    rw [if_pos rfl] at ho1
    obtain ⟨A1, m1, rfl⟩ := ho1.shape
    have hs2 := hb2.size
    have hB2 : Below w.heap.size w w2 := hB1.trans (hb2.mono (by omega))
    have HO1 := hid ho1
    have e0 : w2.cell? ⟨w.heap.size + 1, 0, none⟩ = some (.int .i64 d.dc) := (hb2.cell (p := ⟨w.heap.size + 1, 0, none⟩) (by show w.heap.size + 1 < _; omega)).trans d0
    have e1 : w2.cell? ⟨w.heap.size + 1, 1, none⟩ = some (.int .i64 d.n) := (hb2.cell (p := ⟨w.heap.size + 1, 1, none⟩) (by show w.heap.size + 1 < _; omega)).trans d1
    clear ho1 hdr htr k0 k1 k2 z0 z1 z2 c0 c1 d0 d1
    go_wp2_with fail
    refine (cof_any [d] _ _ (SlP.oneB (E := DtE) (x := d) (cs := [.int .i64 d.dc, .int .i64 d.n]) ⟨rfl, HDO.out⟩ rfl _ rfl (by simp)) HDR.out (by simp)).mono ?_
    rintro e w3 ⟨v2, rfl, ho2, hb3⟩
    obtain ⟨A2, m2, rfl⟩ := ho2.shape
    have hs3 := hb3.size
    simp only [World.size_alloc] at hs3
    have hb3' : Below w2.heap.size w2 w3 := ((Below.refl _ w2).alloc (Nat.le_refl _) _).trans (hb3.mono (by simp))
    have H1 := hid ((HO1.out.grow hb3').sl (by unfold Big; omega))
    have H2 := hid (ho2.sl (by unfold Big; omega))
    clear ho2 hb3 e0 e1
    go_wp2_with fail
    refine (cunion_any (ctxOf t.dots) (ctxOf [d]) _ _ w3 H1.out H2.out HAA.out HAB.out (by omega) (by omega)).mono ?_
    rintro e w4 ⟨v3, rfl, ho3, hb4⟩
    obtain ⟨A5, c5, rfl⟩ := ho3.shape
    have hs4 := hb4.size
    have hB4 : Below w.heap.size w w4 := (hB2.trans (hb3'.mono (by omega))).trans (hb4.mono (by omega))
    have HG2 := hid ((hb4.block (w.heap.size + 2) (by omega)).trans ((hb3'.block (w.heap.size + 2) (by omega)).trans ((hb2.block (w.heap.size + 2) (by omega)).trans HG.out)))
    have k0 : w4.cell? ⟨w.heap.size + 2, 0, none⟩ = some (.slice none 0 0) := cell_cells (i := 0) HG2.out
    have k1 : w4.cell? ⟨w.heap.size + 2, 1, none⟩ = some (.slice none 0 0) := cell_cells (i := 1) HG2.out
    have k2 : w4.cell? ⟨w.heap.size + 2, 2, none⟩ = some (.slice none 0 0) := cell_cells (i := 2) HG2.out
    have z0 := cells_frz (i := 0) HG2.out
    have z1 := cells_frz (i := 1) HG2.out
    have z2 := cells_frz (i := 2) HG2.out
    have HO3 := hid ho3
    have hsc := ctxBy_len (ctxOf t.dots) (ctxOf [d]) 0
    clear ho3
    go_wp2_with fail
    obtain ⟨r0, r1, r2, hK, hS⟩ := box3 HG2.out (.slice none 0 0) (.slice none 0 0) (.slice A5 (ctxBy (ctxOf t.dots) (ctxOf [d]) 0).length c5)
    have hBW := ((hB4.setCell (p := ⟨w.heap.size + 2, 0, none⟩) (by simp) (.slice none 0 0)).setCell (p := ⟨w.heap.size + 2, 1, none⟩) (by simp) (.slice none 0 0)).setCell (p := ⟨w.heap.size + 2, 2, none⟩) (by simp) (.slice A5 (ctxBy (ctxOf t.dots) (ctxOf [d]) 0).length c5)
    refine bodyPost_ret (v := .tuple #[.agg #[.slice none 0 0, .slice none 0 0, .slice A5 (ctxBy (ctxOf t.dots) (ctxOf [d]) 0).length c5], .int .i64 0]) (by simp [results, Tryz.results207, go_sem, r0, r1, r2]) rfl ⟨_, _, _, by rw [HE.out], rda_nil _ _, ?_, hBW⟩
    rw [HD.out]
    refine (HO3.out.sla (by unfold Big; omega)).up (fun b hb => hK b (by have := hb.1; omega)) (fun b hb => ⟨by have := hb.1; omega, by rw [hS]; exact hb.2.1⟩) (fun _ _ _ h => h)
end Go.Proofs.YtmphgnjodangcaaGreat

namespace Go.Proofs.YtmphgnjodangcaaGreat
open Go.RowKit
set_option maxRecDepth 100000

theorem getK_right {t : Tr} (h : t.right 5 = true) : ∀ p : List ByteArray, (getK t p).right 5 = true := fun p => by
  unfold getK
  induction p generalizing t with
  | nil => exact h
  | cons k p ih => exact ih (kid_rightT h k)
theorem getK_dots {t : Tr} (h : t.right 5 = true) {x : Dt} : ∀ p : List ByteArray, x ∈ (getK t p).dots → x ∈ t.dots := fun p => by
  unfold getK
  induction p generalizing t with
  | nil => exact id
  | cons k p ih => exact fun hx => kid_dots (right_ord _ _ h) (ih (kid_rightT h k) hx)
theorem getK_app (t : Tr) (p q : List ByteArray) : getK t (p ++ q) = getK (getK t p) q := by unfold getK; rw [List.foldl_append]
theorem getK_szle (t : Tr) : ∀ p : List ByteArray, (getK t p).sz ≤ t.sz := fun p => by
  unfold getK
  induction p generalizing t with
  | nil => exact Nat.le_refl _
  | cons k p ih => exact Nat.le_trans (ih (kidT t k)) (kidT_sz t k)
theorem tgetT_eq {t : Tr} (h : t.right 5 = true) (p : List ByteArray) : tgetT t p = getK t p := by unfold tgetT; rw [h]; rfl
theorem chk_mk' {t : Tr} {d : Dt} (h : t.right 5 = true) (hd : d.right = true) (hn : d ∉ t.dots) : chkT t d = true := by
  unfold chkT
  have h1 : hasC (ctxOf t.dots) d = false := by
    cases h2 : hasC (ctxOf t.dots) d
    · rfl
    · exact absurd ((hasC_dots h).1 h2) hn
  rw [h, hd, h1]; rfl
theorem chk_sub {t : Tr} {d : Dt} (h : chkT t d = true) (p : List ByteArray) : chkT (getK t p) d = true := by
  obtain ⟨g1, g2, g3⟩ := chkT_dots h
  exact chk_mk' (getK_right g1 p) g2 fun hx => g3 (getK_dots g1 p hx)

theorem pathT_mem {e : En} : ∀ {q : List ByteArray} {x : Lf}, x ∈ (pathT q e).lvs [] ↔ x = (q, e)
  | [], x => by simp [pathT, Tr.lvs, Tr.lvsL]
  | k :: q, x => by
    rw [pathT, mem_lvs]
    constructor
    · rintro (⟨_, h⟩ | ⟨k', t, qs, hm, h1, h2⟩)
      · cases h
      · simp at hm
        obtain ⟨rfl, rfl⟩ := hm
        have h3 := pathT_mem.1 h2
        obtain ⟨p, y⟩ := x
        simp only [Prod.mk.injEq] at h3
        simp only at h1
        rw [h1, h3.1, h3.2]
    · rintro rfl
      exact .inr ⟨k, pathT q e, q, by simp, rfl, pathT_mem.2 rfl⟩
theorem pathT_ne {e : En} : ∀ q : List ByteArray, (pathT q e).empty = false
  | [] => rfl
  | _ :: _ => rfl
theorem pathT_ord {e : En} : ∀ {q : List ByteArray}, (∀ k ∈ q, keyB k = true) → (pathT q e).Ord
  | [], _ => Ord.mk' (List.pairwise_singleton _ _) .nil fun _ _ h => by cases h
  | k :: q, h => Ord.mk' .nil (List.pairwise_singleton _ _) fun k' t hm => by
    simp at hm
    obtain ⟨rfl, rfl⟩ := hm
    exact ⟨keyB_ne (h _ (by simp)), pathT_ne q, pathT_ord fun x hx => h x (by simp [hx])⟩
theorem pathT_dep {e : En} : ∀ q : List ByteArray, (pathT q e).dep = q.length + 1
  | [] => by simp [pathT, Tr.dep, Tr.depL]
  | k :: q => by rw [pathT, Tr.dep, Tr.depL, Tr.depL, pathT_dep q]; simp
theorem pathT_sz {e : En} : ∀ q : List ByteArray, (pathT q e).sz = q.length + 1
  | [] => by simp [pathT, Tr.sz, Tr.szL]
  | k :: q => by rw [pathT, Tr.sz, Tr.szL, Tr.szL, pathT_sz q]; simp; omega
theorem pathT_ok {e : En} {q : List ByteArray} {c : List Sp} (hq : ∀ k ∈ q, keyB k = true) (hl : q.length ≤ 4) (he : e.right = true) (hc : apartB c = true) (hh : hasC c e.dot = true) : CaOk (pathT q e) c :=
  ⟨pathT_ord hq, fun x hx => by rw [pathT_mem.1 hx]; exact ⟨by simp only; omega, hq, he⟩, hc, fun x hx => by rw [pathT_mem.1 hx]; exact hh⟩
theorem pathT_build {e : En} {q : List ByteArray} (hq : ∀ k ∈ q, keyB k = true) : buildL [(q, e)] = pathT q e :=
  build_of (pathT_ord hq) ⟨fun x hx k hk => by simp at hx; subst hx; exact keyB_ne (hq k hk), fun x hx y hy _ _ => by simp at hx hy; rw [hx, hy]⟩ fun x => by rw [pathT_mem, List.mem_singleton]
theorem pathT_st {e : En} {q : List ByteArray} (hq : ∀ k ∈ q, keyB k = true) (p : List ByteArray) (d : Dt) : stE (pathT q e) p d = if p = q ∧ d = e.dot then some e else none := by
  split
  · rename_i h
    obtain ⟨rfl, rfl⟩ := h
    exact (stE_some (pathT_ord hq)).2 ⟨pathT_mem.2 rfl, rfl⟩
  · rename_i h
    refine (stE_none (pathT_ord hq)).2 fun y hy hd => h ?_
    have := pathT_mem.1 hy
    cases this
    exact ⟨rfl, hd.symm⟩

/-- What op.leaf tells: a tree, a context, an error. -/
def leafX (u : Tr) (o : Opr) (d : Dt) : Tr × List Sp × Int :=
  if o.act = 1 then (enT u d, disC u d, chkI u d) else if o.act = 2 then (.mk [] [], disC u d, chkI u d) else if o.act = 3 then (addT u o.s d, addC u o.s d, addE u o.s d)
  else if o.act = 4 then (.mk [] [], delC u o.s d, sckI u o.s d) else if o.act = 5 then (incT u o.n d, incC u o.n d, incE u o.n d) else if o.act = 6 then (wrtT u o.s d, wrtC u o.s d, wrtE u o.s d)
  else (.mk [] [], disC u d, chkI u d)
def updX (t : Tr) (p : List ByteArray) (i : Nat) (x : Tr × List Sp × Int) : Tr × List Sp × Int :=
  (updT (tgetT t (p.take i)) ((p[i]?).getD ByteArray.empty) x.1 x.2.1, updC (tgetT t (p.take i)) ((p[i]?).getD ByteArray.empty) x.1 x.2.1, updE (tgetT t (p.take i)) ((p[i]?).getD ByteArray.empty) x.1 x.2.1)
/-- What the loop of op.Apply makes. -/
def upLoop (t : Tr) (p : List ByteArray) : Nat → Tr × List Sp × Int → Tr × List Sp × Int
  | 0, x => x
  | i + 1, x => if x.2.2 = 0 then upLoop t p i (updX t p i x) else x
theorem upLoop_err {t : Tr} {p : List ByteArray} {x : Tr × List Sp × Int} (h : x.2.2 ≠ 0) : ∀ i, upLoop t p i x = x
  | 0 => rfl
  | i + 1 => by rw [upLoop, if_neg h]
theorem upLoop_put {t : Tr} {p tl : List ByteArray} {e : En} {c : List Sp} (hr : t.right 5 = true) (hp : ∀ k ∈ p, keyB k = true) (ht : ∀ k ∈ tl, keyB k = true) (hl : p.length + tl.length ≤ 4) (he : e.right = true) (hc : apartB c = true) (hh : hasC c e.dot = true) :
    ∀ i, i ≤ p.length → (if (List.range i).any (fullAt t p) then (upLoop t p i (pathT (p.drop i ++ tl) e, c, 0)).2.2 = 4 else upLoop t p i (pathT (p.drop i ++ tl) e, c, 0) = (pathT (p ++ tl) e, c, 0))
  | 0, _ => by simp [upLoop]
  | i + 1, hi => by
    have hlt : i < p.length := by omega
    have hx := List.getElem?_eq_getElem hlt
    have hmem := List.mem_of_getElem? hx
    have hq : ∀ k ∈ p.drop (i + 1) ++ tl, keyB k = true := fun k hk => by
      rcases List.mem_append.1 hk with hk | hk
      · exact hp k (List.mem_of_mem_drop hk)
      · exact ht k hk
    have hql : (p.drop (i + 1) ++ tl).length ≤ 3 := by rw [List.length_append, List.length_drop]; omega
    have hok := pathT_ok (c := c) hq (by omega) he hc hh
    have hDr : (pathT (p.drop (i + 1) ++ tl) e).right 5 = true := (right_iff hok.ord).2 hok.leaf
    have hkey := hp _ hmem
    have hem : empB (pathT (p.drop (i + 1) ++ tl) e).es.length (pathT (p.drop (i + 1) ++ tl) e).ks.length = false := by rw [empB_empty, pathT_ne]
    have hwE : wrapE (pathT (p.drop (i + 1) ++ tl) e) p[i] = 0 := by
      unfold wrapE
      rw [hDr, hkey, hem, pathT_dep]
      have : ¬ 5 < (p.drop (i + 1) ++ tl).length + 1 + 1 := by omega
      simp only [Bool.not_true, Bool.or_self, Bool.false_eq_true, if_false, Bool.not_false, Bool.true_and, decide_eq_true_eq, this]
    have hwT : wrapT (pathT (p.drop (i + 1) ++ tl) e) p[i] = pathT (p.drop i ++ tl) e := by
      unfold wrapT
      rw [if_pos hwE, hem, if_neg (by simp), List.drop_eq_getElem_cons hlt, List.cons_append, pathT]
    have hUE : updE (tgetT t (p.take i)) p[i] (pathT (p.drop (i + 1) ++ tl) e) c = if fullAt t p i then 4 else 0 := by
      unfold updE fullAt
      rw [tgetT_eq hr, getK_right hr, caR_iff.2 hok, hkey, hem, hwE, hx]
      simp only [Bool.not_true, Bool.or_self, Bool.false_eq_true, if_false, Bool.not_false, Bool.true_and, Option.getD_some]
      rfl
    rw [List.range_succ, List.any_append]
    simp only [List.any_cons, List.any_nil, Bool.or_false]
    rw [upLoop, if_pos rfl]
    cases hf : fullAt t p i
    · have hUE0 : updE (tgetT t (p.take i)) p[i] (pathT (p.drop (i + 1) ++ tl) e) c = 0 := by rw [hUE, hf]; rfl
      have hX : updX t p i (pathT (p.drop (i + 1) ++ tl) e, c, 0) = (pathT (p.drop i ++ tl) e, c, 0) := by
        unfold updX updT updC
        rw [hx]
        simp only [Option.getD_some]
        rw [hUE0, if_pos rfl, if_pos rfl, hwT]
      rw [hX, Bool.or_false]
      exact upLoop_put hr hp ht hl he hc hh i (by omega)
    · rw [Bool.or_true, if_pos rfl]
      have hX : (updX t p i (pathT (p.drop (i + 1) ++ tl) e, c, 0)).2.2 = 4 := by
        unfold updX
        rw [hx]
        simp only [Option.getD_some]
        rw [hUE, hf, if_pos rfl]
      rw [upLoop_err (by rw [hX]; decide), hX]
theorem upLoop_gone {t : Tr} {p : List ByteArray} {c : List Sp} (hr : t.right 5 = true) (hp : ∀ k ∈ p, keyB k = true) (hc : apartB c = true) : ∀ i, i ≤ p.length → upLoop t p i (.mk [] [], c, 0) = (.mk [] [], c, 0)
  | 0, _ => rfl
  | i + 1, hi => by
    have hlt : i < p.length := by omega
    have hx := List.getElem?_eq_getElem hlt
    have hkey := hp _ (List.mem_of_getElem? hx)
    have hok : CaOk (.mk [] []) c := nil_ok hc
    have hDr : (Tr.mk [] []).right 5 = true := (right_iff hok.ord).2 hok.leaf
    have hem : empB (Tr.mk [] []).es.length (Tr.mk [] []).ks.length = true := rfl
    have hwE : wrapE (.mk [] []) p[i] = 0 := by unfold wrapE; rw [hDr, hkey, hem]; rfl
    have hwT : wrapT (.mk [] []) p[i] = .mk [] [] := by unfold wrapT; rw [if_pos hwE, hem, if_pos rfl]
    have hUE : updE (tgetT t (p.take i)) p[i] (.mk [] []) c = 0 := by
      unfold updE
      rw [tgetT_eq hr, getK_right hr, caR_iff.2 hok, hkey, hem, hwE]; rfl
    have hX : updX t p i (.mk [] [], c, 0) = (.mk [] [], c, 0) := by
      unfold updX updT updC
      rw [hx]
      simp only [Option.getD_some]
      rw [hUE, if_pos rfl, if_pos rfl, hwT]
    rw [upLoop, if_pos rfl, hX]
    exact upLoop_gone hr hp hc i (by omega)
end Go.Proofs.YtmphgnjodangcaaGreat

namespace Go.Proofs.YtmphgnjodangcaaGreat
open Go.RowKit
set_option maxRecDepth 100000

theorem ctxOf_has {l : List Dt} (hr : ∀ x ∈ l, x.right = true) (x : Dt) : hasC (ctxOf l) x = decide (x ∈ l) := by
  rw [Bool.eq_iff_iff, decide_eq_true_eq]
  constructor
  · intro h; rw [hasC_ctxOf hr (hasC_right h)] at h; simpa using h
  · intro h; rw [hasC_ctxOf hr (hr x h)]; simpa using h
theorem cons_right {u : Tr} {d : Dt} (hu : u.right 5 = true) (hd : d.right = true) : ∀ x ∈ d :: u.dots, x.right = true := fun x hx => by
  rcases List.mem_cons.1 hx with rfl | hx
  · exact hd
  · exact dots_right hu x hx
theorem seenC_eq {u : Tr} {d : Dt} (hu : u.right 5 = true) (hd : d.right = true) : seenC u d = ctxOf (d :: u.dots) :=
  ctx_ext (seen_apart hu hd) (apart_ctxOf (cons_right hu hd)) fun x => by
    rw [seen_hasB hu hd, ctxOf_has (cons_right hu hd)]
    by_cases h1 : x ∈ u.dots <;> by_cases h2 : x = d <;> simp [h1, h2]
theorem ownD_dots {t : Tr} {x : Dt} (h : x ∈ ownD t) : x ∈ t.dots := by
  unfold ownD at h
  obtain ⟨e, he, rfl⟩ := List.mem_map.1 h
  exact (mem_dots t _).2 ⟨[], e, mem_es.2 he, rfl⟩
theorem key_of_kind {k : ByteArray} (h : badKey k = false) : keyB k = true := by
  unfold badKey at h
  rw [Bool.or_eq_false_iff] at h
  obtain ⟨h1, h2⟩ := h
  have h1 : k.size ≤ 30 := by simpa using h1
  have h3 : kindB k ≠ 0 := by simpa using h2
  have h4 : 1 ≤ k.size := by
    rcases Nat.eq_zero_or_pos k.size with h0 | h0
    · exfalso
      have : k.data.toList = [] := by
        have h5 : k.data = #[] := Array.eq_empty_of_size_eq_zero h0
        rw [h5]
      exact h3 (by unfold kindB; rw [this])
    · exact h0
  unfold keyB
  simp; omega
theorem path_ok {p : List ByteArray} (h : pathI p = 0) : 1 ≤ p.length ∧ p.length ≤ 3 ∧ (∀ k ∈ p, badKey k = false) ∧ p.dropLast.any noMap = false := by
  unfold pathI at h
  split at h
  · cases h
  · rename_i h1
    split at h
    · cases h
    · rename_i h2
      have h3 : p.any badKey = false := by
        cases h4 : p.any badKey
        · rfl
        · exact absurd (.inr (.inr h4)) h1
      exact ⟨by omega, by omega, fun k hk => by rw [List.any_eq_false] at h3; simpa using h3 k hk, by simpa using h2⟩
theorem last_at {p : List ByteArray} (h : 1 ≤ p.length) : p[p.length - 1]? = some (lastK p) := by
  unfold lastK
  rw [List.getElem?_eq_getElem (by omega)]; rfl
structure OpOk (o : Opr) : Prop where
  path : pathI o.path = 0
  act : actB o.act (kindB (lastK o.path)) = true
  txt : opTxt o = true
  num : opNum o = true
theorem op_ok {o : Opr} (h : opI o = 0) : OpOk o := by
  unfold opI at h
  split at h
  · rename_i h1; exact absurd h h1
  · rename_i h1
    split at h
    · cases h
    · rename_i h2
      split at h
      · rename_i h3
        rw [Bool.and_eq_true] at h3
        exact ⟨by simpa using h1, by simpa using h2, h3.1, h3.2⟩
      · cases h
theorem act_cases {o : Opr} (h : OpOk o) : o.act = 1 ∨ o.act = 2 ∨ o.act = 3 ∨ o.act = 4 ∨ o.act = 5 ∨ o.act = 6 ∨ o.act = 7 := by
  have := h.act
  unfold actB at this
  split at this
  · omega
  · split at this
    · omega
    · split at this
      · omega
      · split at this
        · omega
        · have := of_decide_eq_true this; omega
theorem any_congr' {α : Type} {f g : α → Bool} : ∀ {l : List α}, (∀ x ∈ l, f x = g x) → l.any f = l.any g
  | [], _ => rfl
  | x :: l, h => by rw [List.any_cons, List.any_cons, h x (by simp), any_congr' fun y hy => h y (by simp [hy])]
theorem fullAt_app (t : Tr) (p q : List ByteArray) {j : Nat} (h : j < p.length) : fullAt t (p ++ q) j = fullAt t p j := by
  unfold fullAt
  rw [List.take_append_of_le_length (by omega), List.getElem?_append_left h]
theorem fullP_one (t : Tr) (p : List ByteArray) (s : ByteArray) : fullP t (p ++ [s]) = ((List.range p.length).any (fullAt t p) || (decide (24 ≤ (getK t p).ks.length) && !hasK (getK t p) s)) := by
  unfold fullP
  rw [List.length_append, List.length_singleton, List.range_succ, List.any_append]
  simp only [List.any_cons, List.any_nil, Bool.or_false]
  congr 1
  · exact any_congr' fun j hj => fullAt_app t p [s] (List.mem_range.1 hj)
  · unfold fullAt
    rw [List.take_append_of_le_length (Nat.le_refl _), List.take_of_length_le (Nat.le_refl _), List.getElem?_append_right (Nat.le_refl _)]
    simp
theorem ent_right {o : Opr} {d : Dt} (h : OpOk o) (hd : d.right = true) : (entE o d).right = true := by
  have hdot : (entE o d).dot = d := rfl
  have h1 := h.num
  have h2 := h.txt
  have hc := act_cases h
  unfold En.right
  rw [hdot, hd]
  unfold entE
  unfold opNum at h1
  unfold opTxt at h2
  have hs : (if o.act = 6 then o.s else ByteArray.empty).size ≤ 30 := by
    split
    · rename_i h6
      rw [if_neg (by omega), if_pos h6] at h2
      simpa using h2
    · decide
  have hn : -1099511627776 ≤ o.n ∧ o.n ≤ 1099511627776 := by
    split at h1
    · simpa using h1
    · have := of_decide_eq_true h1; omega
  simp; omega
theorem sees_right {t : Tr} {o : Opr} (hr : t.right 5 = true) : ∀ x ∈ seesD t o, x ∈ t.dots := fun x hx => by
  unfold seesD at hx
  split at hx
  · exact getK_dots hr _ hx
  · split at hx
    · cases hx
    · split at hx
      · exact getK_dots hr _ (ownD_dots hx)
      · exact getK_dots hr _ hx
theorem appC_ok {t : Tr} {o : Opr} {d : Dt} (hr : t.right 5 = true) (hd : d.right = true) : ∀ x ∈ d :: seesD t o, x.right = true := fun x hx => by
  rcases List.mem_cons.1 hx with rfl | hx
  · exact hd
  · exact dots_right hr x (sees_right hr x hx)
theorem end_keys {o : Opr} (h : OpOk o) : (∀ k ∈ o.path, keyB k = true) ∧ (∀ k ∈ endP o, keyB k = true) ∧ (endP o).length ≤ 4 ∧ o.path.length + (if o.act = 3 then [o.s] else []).length ≤ 4 := by
  obtain ⟨h1, h2, h3, _⟩ := path_ok h.path
  have hk : ∀ k ∈ o.path, keyB k = true := fun k hk => key_of_kind (h3 k hk)
  have h4 := h.txt
  unfold opTxt at h4
  refine ⟨hk, fun k hm => ?_, ?_, ?_⟩
  · unfold endP at hm
    rcases List.mem_append.1 hm with hm | hm
    · exact hk k hm
    · split at hm
      · rename_i h5
        rw [if_pos (.inl h5)] at h4
        simp at hm; subst hm; exact h4
      · cases hm
  · unfold endP; rw [List.length_append]; split <;> simp <;> omega
  · split <;> simp <;> omega
theorem leafX_1 {u : Tr} {o : Opr} {d : Dt} (ha : o.act = 1) : leafX u o d = (enT u d, disC u d, chkI u d) := by simp [leafX, ha]
theorem leafX_2 {u : Tr} {o : Opr} {d : Dt} (ha : o.act = 2) : leafX u o d = (.mk [] [], disC u d, chkI u d) := by simp [leafX, ha]
theorem leafX_3 {u : Tr} {o : Opr} {d : Dt} (ha : o.act = 3) : leafX u o d = (addT u o.s d, addC u o.s d, addE u o.s d) := by simp [leafX, ha]
theorem leafX_4 {u : Tr} {o : Opr} {d : Dt} (ha : o.act = 4) : leafX u o d = (.mk [] [], delC u o.s d, sckI u o.s d) := by simp [leafX, ha]
theorem leafX_5 {u : Tr} {o : Opr} {d : Dt} (ha : o.act = 5) : leafX u o d = (incT u o.n d, incC u o.n d, incE u o.n d) := by simp [leafX, ha]
theorem leafX_6 {u : Tr} {o : Opr} {d : Dt} (ha : o.act = 6) : leafX u o d = (wrtT u o.s d, wrtC u o.s d, wrtE u o.s d) := by simp [leafX, ha]
theorem leafX_7 {u : Tr} {o : Opr} {d : Dt} (ha : o.act = 7) : leafX u o d = (.mk [] [], disC u d, chkI u d) := by simp [leafX, ha]
theorem sees_sub {t : Tr} {o : Opr} (ha : o.act = 1 ∨ o.act = 2 ∨ o.act = 7) : seesD t o = (getK t o.path).dots := by
  unfold seesD; rw [if_neg (by omega), if_neg (by omega), if_neg (by omega)]
theorem sees_el {t : Tr} {o : Opr} (ha : o.act = 3 ∨ o.act = 4) : seesD t o = (getK t (o.path ++ [o.s])).dots := by unfold seesD; rw [if_pos ha]
theorem sees_inc {t : Tr} {o : Opr} (ha : o.act = 5) : seesD t o = [] := by unfold seesD; rw [if_neg (by omega), if_pos ha]
theorem sees_wrt {t : Tr} {o : Opr} (ha : o.act = 6) : seesD t o = ownD (getK t o.path) := by unfold seesD; rw [if_neg (by omega), if_neg (by omega), if_pos ha]
set_option maxHeartbeats 2000000 in
theorem leaf_law {t : Tr} {o : Opr} {d : Dt} (h : OpOk o) (hc : chkT t d = true) :
    if fullB t o then (upLoop t o.path o.path.length (leafX (getK t o.path) o d)).2.2 = 4 else upLoop t o.path o.path.length (leafX (getK t o.path) o d) = (if entryB o.act then pathT (endP o) (entE o d) else .mk [] [], ctxOf (d :: seesD t o), 0) := by
  obtain ⟨g1, g2, g3⟩ := chkT_dots hc
  have hcu := chk_sub hc o.path
  have hur := getK_right g1 o.path
  obtain ⟨k1, k2, k3, k4⟩ := end_keys h
  have he := ent_right (d := d) h g2
  have hdot : (entE o d).dot = d := rfl
  have hap := apart_ctxOf (appC_ok (o := o) g1 g2)
  have hh : hasC (ctxOf (d :: seesD t o)) d = true := by rw [ctxOf_has (appC_ok g1 g2)]; simp
  have hlen : (List.range o.path.length).any (fullAt t (o.path ++ [])) = (List.range o.path.length).any (fullAt t o.path) := by rw [List.append_nil]
  have hdrop : o.path.drop o.path.length = [] := List.drop_length
  have hn := h.num
  have htx := h.txt
  unfold opNum at hn
  unfold opTxt at htx
  rcases act_cases h with ha | ha | ha | ha | ha | ha | ha
  · -- enable
    have hE : entE o d = ⟨d.dc, d.n, ByteArray.empty, 0⟩ := by unfold entE; rw [if_neg (by omega)]; rw [if_neg (by omega)] at hn; rw [of_decide_eq_true hn]
    have hX : leafX (getK t o.path) o d = (pathT (o.path.drop o.path.length ++ []) (entE o d), ctxOf (d :: seesD t o), 0) := by
      rw [leafX_1 ha, sees_sub (.inl ha), hE, hdrop]
      unfold enT disC chkI
      rw [hcu, if_pos rfl, if_pos rfl, if_pos rfl, seenC_eq hur g2]; rfl
    have hf : fullB t o = (List.range o.path.length).any (fullAt t o.path) := by unfold fullB entryB endP fullP; rw [if_neg (by omega), List.append_nil]; simp [ha]
    have hend : endP o = o.path ++ [] := by unfold endP; rw [if_neg (by omega)]
    rw [hX, hf, show entryB o.act = true by unfold entryB; simp [ha], if_pos rfl, hend]
    exact upLoop_put g1 k1 (by simp) (by simp; have := (path_ok h.path).2.1; omega) he hap (by rw [hdot]; exact hh) _ (Nat.le_refl _)
  · -- disable
    have hX : leafX (getK t o.path) o d = (.mk [] [], ctxOf (d :: seesD t o), 0) := by
      rw [leafX_2 ha, sees_sub (.inr (.inl ha))]
      unfold disC chkI
      rw [hcu, if_pos rfl, if_pos rfl, seenC_eq hur g2]
    have hf : fullB t o = false := by unfold fullB entryB; simp [ha]
    rw [hX, hf, show entryB o.act = false by unfold entryB; simp [ha], upLoop_gone g1 k1 hap _ (Nat.le_refl _)]; simp
  · -- add
    rw [if_pos (.inl ha)] at htx
    have hE : entE o d = ⟨d.dc, d.n, ByteArray.empty, 0⟩ := by unfold entE; rw [if_neg (by omega)]; rw [if_neg (by omega)] at hn; rw [of_decide_eq_true hn]
    have hsk : sckB (getK t o.path) o.s d = true := by unfold sckB; rw [hcu, htx]; rfl
    have hend : endP o = o.path ++ [o.s] := by unfold endP; rw [if_pos ha]
    have hf : fullB t o = ((List.range o.path.length).any (fullAt t o.path) || (decide (24 ≤ (getK t o.path).ks.length) && !hasK (getK t o.path) o.s)) := by
      unfold fullB entryB; rw [hend, fullP_one]; simp [ha]
    have hgo : leafX (getK t o.path) o d = (addT (getK t o.path) o.s d, addC (getK t o.path) o.s d, addE (getK t o.path) o.s d) := leafX_3 ha
    have haE : addE (getK t o.path) o.s d = if (decide (24 ≤ (getK t o.path).ks.length) && !hasK (getK t o.path) o.s) = true then 4 else 0 := by unfold addE; rw [hsk]; rfl
    rw [hgo, hf]
    cases hfl : (decide (24 ≤ (getK t o.path).ks.length) && !hasK (getK t o.path) o.s)
    · rw [hfl, if_neg (by simp)] at haE
      have hX : (addT (getK t o.path) o.s d, addC (getK t o.path) o.s d, addE (getK t o.path) o.s d) = (pathT (o.path.drop o.path.length ++ [o.s]) (entE o d), ctxOf (d :: seesD t o), 0) := by
        have hks : kidT (getK t o.path) o.s = getK t (o.path ++ [o.s]) := by rw [getK_app]; rfl
        rw [sees_el (.inl ha), hE, hdrop]
        unfold addT addC
        rw [haE, if_pos rfl, if_pos rfl, hks, seenC_eq (getK_right g1 _) g2]; rfl
      rw [hX, Bool.or_false, show entryB o.act = true by unfold entryB; simp [ha], if_pos rfl, hend]
      exact upLoop_put g1 k1 (fun k hk => by simp at hk; subst hk; exact htx) (by simp; have := (path_ok h.path).2.1; omega) he hap (by rw [hdot]; exact hh) _ (Nat.le_refl _)
    · rw [hfl, if_pos rfl] at haE
      rw [Bool.or_true, if_pos rfl, upLoop_err (by rw [haE]; exact (by decide : (4 : Int) ≠ 0)), haE]
  · -- del
    rw [if_pos (.inr ha)] at htx
    have hsk : sckB (getK t o.path) o.s d = true := by unfold sckB; rw [hcu, htx]; rfl
    have hks : kidT (getK t o.path) o.s = getK t (o.path ++ [o.s]) := by rw [getK_app]; rfl
    have hX : leafX (getK t o.path) o d = (.mk [] [], ctxOf (d :: seesD t o), 0) := by
      rw [leafX_4 ha, sees_el (.inr ha)]
      unfold delC sckI
      rw [hsk, if_pos rfl, if_pos rfl, hks, seenC_eq (getK_right g1 _) g2]
    have hf : fullB t o = false := by unfold fullB entryB; simp [ha]
    rw [hX, hf, show entryB o.act = false by unfold entryB; simp [ha], upLoop_gone g1 k1 hap _ (Nat.le_refl _)]; simp
  · -- inc
    rw [if_pos ha] at hn
    have hn := of_decide_eq_true hn
    have hE : entE o d = ⟨d.dc, d.n, ByteArray.empty, o.n⟩ := by unfold entE; rw [if_neg (by omega)]
    have hend : endP o = o.path ++ [] := by unfold endP; rw [if_neg (by omega)]
    have hf : fullB t o = ((List.range o.path.length).any (fullAt t o.path) || decide (24 ≤ (getK t o.path).es.length)) := by
      unfold fullB entryB fullP; rw [hend, List.append_nil]; simp [ha]
    have hgo : leafX (getK t o.path) o d = (incT (getK t o.path) o.n d, incC (getK t o.path) o.n d, incE (getK t o.path) o.n d) := leafX_5 ha
    have haE : incE (getK t o.path) o.n d = if 24 ≤ (getK t o.path).es.length then 4 else 0 := by
      unfold incE
      rw [hcu, if_neg (by simp; omega)]
    rw [hgo, hf]
    cases hfl : decide (24 ≤ (getK t o.path).es.length)
    · rw [if_neg (of_decide_eq_false hfl)] at haE
      have hX : (incT (getK t o.path) o.n d, incC (getK t o.path) o.n d, incE (getK t o.path) o.n d) = (pathT (o.path.drop o.path.length ++ []) (entE o d), ctxOf (d :: seesD t o), 0) := by
        rw [sees_inc ha, hE, hdrop]
        unfold incT incC
        rw [haE, if_pos rfl, if_pos rfl]; rfl
      rw [hX, Bool.or_false, show entryB o.act = true by unfold entryB; simp [ha], if_pos rfl, hend]
      exact upLoop_put g1 k1 (by simp) (by simp; have := (path_ok h.path).2.1; omega) he hap (by rw [hdot]; exact hh) _ (Nat.le_refl _)
    · rw [if_pos (of_decide_eq_true hfl)] at haE
      rw [Bool.or_true, if_pos rfl, upLoop_err (by rw [haE]; exact (by decide : (4 : Int) ≠ 0)), haE]
  · -- write
    rw [if_neg (by omega), if_pos ha] at htx
    rw [if_neg (by omega)] at hn
    have hwb : wrtB (getK t o.path) o.s d = true := by unfold wrtB; rw [hcu, htx]; rfl
    have hE : entE o d = ⟨d.dc, d.n, o.s, 0⟩ := by unfold entE; rw [if_pos ha, of_decide_eq_true hn]
    have hX : leafX (getK t o.path) o d = (pathT (o.path.drop o.path.length ++ []) (entE o d), ctxOf (d :: seesD t o), 0) := by
      rw [leafX_6 ha, sees_wrt ha, hE, hdrop]
      unfold wrtT wrtC wrtE
      rw [hwb, if_pos rfl, if_pos rfl, if_pos rfl]; rfl
    have hf : fullB t o = (List.range o.path.length).any (fullAt t o.path) := by unfold fullB entryB endP fullP; rw [if_neg (by omega), List.append_nil]; simp [ha]
    have hend : endP o = o.path ++ [] := by unfold endP; rw [if_neg (by omega)]
    rw [hX, hf, show entryB o.act = true by unfold entryB; simp [ha], if_pos rfl, hend]
    exact upLoop_put g1 k1 (by simp) (by simp; have := (path_ok h.path).2.1; omega) he hap (by rw [hdot]; exact hh) _ (Nat.le_refl _)
  · -- reset
    have hX : leafX (getK t o.path) o d = (.mk [] [], ctxOf (d :: seesD t o), 0) := by
      rw [leafX_7 ha, sees_sub (.inr (.inr ha))]
      unfold disC chkI
      rw [hcu, if_pos rfl, if_pos rfl, seenC_eq hur g2]
    have hf : fullB t o = false := by unfold fullB entryB; simp [ha]
    rw [hX, hf, show entryB o.act = false by unfold entryB; simp [ha], upLoop_gone g1 k1 hap _ (Nat.le_refl _)]; simp
end Go.Proofs.YtmphgnjodangcaaGreat

namespace Go.Proofs.YtmphgnjodangcaaGreat
open Go.RowKit
set_option maxRecDepth 100000

/-- A result box of its own, filled with what a call handed back. -/
theorem box_fin {w w1 : World} {N g : Nat} {T : Tr} {C : List Sp} {x y z a b c : Value} {e : TypeId} (hG : w1.heap[g]? = some (.cells #[x, y, z] e (0, 0))) (hB : Below w.heap.size w w1) (hg : w.heap.size ≤ g) (hN : g < N) (hrd : T.rda w1 (fun b => N ≤ b ∧ b < w1.heap.size) a b) (hsl : SlA w1 (fun b => N ≤ b ∧ b < w1.heap.size) 3 SpE c C) :
    (((w1.setCell ⟨g, 0, none⟩ a).setCell ⟨g, 1, none⟩ b).setCell ⟨g, 2, none⟩ c).cell? ⟨g, 0, none⟩ = some a ∧ (((w1.setCell ⟨g, 0, none⟩ a).setCell ⟨g, 1, none⟩ b).setCell ⟨g, 2, none⟩ c).cell? ⟨g, 1, none⟩ = some b ∧ (((w1.setCell ⟨g, 0, none⟩ a).setCell ⟨g, 1, none⟩ b).setCell ⟨g, 2, none⟩ c).cell? ⟨g, 2, none⟩ = some c ∧
    T.rda (((w1.setCell ⟨g, 0, none⟩ a).setCell ⟨g, 1, none⟩ b).setCell ⟨g, 2, none⟩ c) (fun q => w.heap.size ≤ q ∧ q < (((w1.setCell ⟨g, 0, none⟩ a).setCell ⟨g, 1, none⟩ b).setCell ⟨g, 2, none⟩ c).heap.size) a b ∧
    SlA (((w1.setCell ⟨g, 0, none⟩ a).setCell ⟨g, 1, none⟩ b).setCell ⟨g, 2, none⟩ c) (fun q => w.heap.size ≤ q ∧ q < (((w1.setCell ⟨g, 0, none⟩ a).setCell ⟨g, 1, none⟩ b).setCell ⟨g, 2, none⟩ c).heap.size) 3 SpE c C ∧
    Below w.heap.size w (((w1.setCell ⟨g, 0, none⟩ a).setCell ⟨g, 1, none⟩ b).setCell ⟨g, 2, none⟩ c) := by
  obtain ⟨r0, r1, r2, hK, hS⟩ := box3 hG a b c
  have hBW := ((hB.setCell (p := ⟨g, 0, none⟩) hg a).setCell (p := ⟨g, 1, none⟩) hg b).setCell (p := ⟨g, 2, none⟩) hg c
  exact ⟨r0, r1, r2, rda_up (fun q hq => hK q (by omega)) (fun q hq => ⟨by omega, by rw [hS]; exact hq.2⟩) _ _ _ hrd, hsl.up (fun q hq => hK q (by omega)) (fun q hq => ⟨by omega, by rw [hS]; exact hq.2⟩) (fun _ _ _ h => h), hBW⟩
set_option maxHeartbeats 4000000 in
theorem leaf_any (u : Tr) (o : Opr) (d : Dt) (ve vk vp : Value) (w : World) (h : u.rd w w.heap.size ve vk) (hp : SlP w w.heap.size 1 StE vp o.path) (ho : o.Ok) (hd : d.Ok) (hN : u.sz ≤ 4000) :
    Calls Tryz.prog 148 #[.agg #[ve, vk], .agg #[vp, .int .i64 o.act, .string o.s, .int .i64 o.n], .agg #[.int .i64 d.dc, .int .i64 d.n]] w (RetCE w (leafX u o d).1 (leafX u o d).2.1 (leafX u o d).2.2) := by
  have HC : Hid (∀ w', Below w.heap.size w w' → u.rd w' w'.heap.size ve vk) := fun w' hb => rd_below hb hb.size _ _ _ h
  obtain ⟨A3, n3, A4, n4, rfl, rfl⟩ := rd_shape h
  obtain ⟨A5, n5, rfl, _⟩ := hp
  obtain ⟨oa, on, os⟩ := ho
  obtain ⟨path, act, s, n⟩ := o
  simp only at oa on os ⊢
  have hb0 := ((((Below.refl w.heap.size w).alloc (Nat.le_refl _) (.cells #[.slice A3 u.es.length n3, .slice A4 u.ks.length n4] 27)).alloc (by simp) (.cells #[.slice A5 path.length n5, .int .i64 act, .string s, .int .i64 n] 80)).alloc (by simp; omega) (.cells #[.int .i64 d.dc, .int .i64 d.n] 54)).alloc (by simp; omega) (.cells #[.slice none 0 0, .slice none 0 0, .slice none 0 0] 31)
  have HX : Hid (∀ W, Below (w.heap.size + 4) ((((w.alloc (.cells #[.slice A3 u.es.length n3, .slice A4 u.ks.length n4] 27)).alloc (.cells #[.slice A5 path.length n5, .int .i64 act, .string s, .int .i64 n] 80)).alloc (.cells #[.int .i64 d.dc, .int .i64 d.n] 54)).alloc (.cells #[.slice none 0 0, .slice none 0 0, .slice none 0 0] 31)) W →
      (Below w.heap.size w W ∧ W.cell? ⟨w.heap.size, 0, none⟩ = some (.slice A3 u.es.length n3) ∧ W.cell? ⟨w.heap.size, 1, none⟩ = some (.slice A4 u.ks.length n4) ∧ W.cell? ⟨w.heap.size + 1, 0, none⟩ = some (.slice A5 path.length n5) ∧ W.cell? ⟨w.heap.size + 1, 1, none⟩ = some (.int .i64 act) ∧ W.cell? ⟨w.heap.size + 1, 2, none⟩ = some (.string s) ∧ W.cell? ⟨w.heap.size + 1, 3, none⟩ = some (.int .i64 n) ∧
        W.cell? ⟨w.heap.size + 2, 0, none⟩ = some (.int .i64 d.dc) ∧ W.cell? ⟨w.heap.size + 2, 1, none⟩ = some (.int .i64 d.n) ∧ W.heap[w.heap.size + 3]? = some (.cells #[.slice none 0 0, .slice none 0 0, .slice none 0 0] 31 (0, 0)))) := fun W hW => by
    have g0 : W.heap[w.heap.size]? = some (.cells #[.slice A3 u.es.length n3, .slice A4 u.ks.length n4] 27 (0, 0)) := (hW.block _ (by omega)).trans ((heap_old (by simp <;> omega)).trans ((heap_old (by simp <;> omega)).trans ((heap_old (by simp)).trans (heap_new rfl))))
    have g1 : W.heap[w.heap.size + 1]? = some (.cells #[.slice A5 path.length n5, .int .i64 act, .string s, .int .i64 n] 80 (0, 0)) := (hW.block _ (by omega)).trans ((heap_old (by simp <;> omega)).trans ((heap_old (by simp)).trans (heap_new (by simp))))
    have g2 : W.heap[w.heap.size + 2]? = some (.cells #[.int .i64 d.dc, .int .i64 d.n] 54 (0, 0)) := (hW.block _ (by omega)).trans ((heap_old (by simp)).trans (heap_new (by simp)))
    have g3 : W.heap[w.heap.size + 3]? = some (.cells #[.slice none 0 0, .slice none 0 0, .slice none 0 0] 31 (0, 0)) := (hW.block _ (by omega)).trans (heap_new (by simp))
    exact ⟨hb0.trans (hW.mono (by omega)), cell_cells (i := 0) g0, cell_cells (i := 1) g0, cell_cells (i := 0) g1, cell_cells (i := 1) g1, cell_cells (i := 2) g1, cell_cells (i := 3) g1, cell_cells (i := 0) g2, cell_cells (i := 1) g2, g3⟩
  clear h
  by_cases a1 : act = 1
  · subst a1
    rw [leafX_1 rfl]
    go_enter Tryz.func148, Tryz.ntmps148
    obtain ⟨hB0, c0, c1, p0, p1, p2, p3, d0, d1, g3⟩ := HX.out _ (Below.refl _ _)
    clear g3
    go_wp2_with fail
    refine (fenable_any u d _ _ _ (HC.out _ hb0) (by omega) hd).mono ?_
    rintro e w1 ⟨ve1, vk1, vc1, rfl, hrd1, hsl1, hb1⟩
    obtain ⟨Av, nv, Aw, nw, rfl, rfl⟩ := rda_shape hrd1
    obtain ⟨Ac, nc, rfl⟩ := hsl1.shape
    simp only [World.size_alloc] at hrd1 hsl1 hb1
    have hBx : Below (w.heap.size + 4) _ w1 := hb1.mono (by omega)
    clear c0 c1 p0 p1 p2 p3 d0 d1
    obtain ⟨hB1, c0, c1, p0, p1, p2, p3, d0, d1, hG⟩ := HX.out _ hBx
    have HG := hid hG
    have k0 := cell_cells (i := 0) hG
    have k1 := cell_cells (i := 1) hG
    have k2 := cell_cells (i := 2) hG
    simp only [List.getElem?_toArray, List.getElem?_cons_zero, List.getElem?_cons_succ] at k0 k1 k2
    have z0 := cells_frz (i := 0) hG
    have z1 := cells_frz (i := 1) hG
    have z2 := cells_frz (i := 2) hG
    have HR := hid hrd1
    have HS := hid hsl1
    have HB := hid hB1
    clear hrd1 hsl1 hb1 hBx hG hB1 c0 c1 p0 p1 p2 p3 d0 d1
    go_wp2_with fail
    obtain ⟨r0, r1, r2, q1, q2, q3⟩ := box_fin HG.out HB.out (by omega) (by omega) HR.out HS.out
    exact bodyPost_ret (v := .tuple #[.agg #[_, _, _], .int .i64 _]) (by simp [results, Tryz.results148, go_sem, r0, r1, r2] <;> rfl) rfl ⟨_, _, _, rfl, q1, q2, q3⟩
  by_cases a2 : act = 2
  · subst a2
    rw [leafX_2 rfl]
    go_enter Tryz.func148, Tryz.ntmps148
    obtain ⟨hB0, c0, c1, p0, p1, p2, p3, d0, d1, g3⟩ := HX.out _ (Below.refl _ _)
    clear g3
    go_wp2_with fail
    refine (fdisable_any u d _ _ _ (HC.out _ hb0) (by omega) hd).mono ?_
    rintro e w1 ⟨ve1, vk1, vc1, rfl, hrd1, hsl1, hb1⟩
    obtain ⟨Av, nv, Aw, nw, rfl, rfl⟩ := rda_shape hrd1
    obtain ⟨Ac, nc, rfl⟩ := hsl1.shape
    simp only [World.size_alloc] at hrd1 hsl1 hb1
    have hBx : Below (w.heap.size + 4) _ w1 := hb1.mono (by omega)
    clear c0 c1 p0 p1 p2 p3 d0 d1
    obtain ⟨hB1, c0, c1, p0, p1, p2, p3, d0, d1, hG⟩ := HX.out _ hBx
    have HG := hid hG
    have k0 := cell_cells (i := 0) hG
    have k1 := cell_cells (i := 1) hG
    have k2 := cell_cells (i := 2) hG
    simp only [List.getElem?_toArray, List.getElem?_cons_zero, List.getElem?_cons_succ] at k0 k1 k2
    have z0 := cells_frz (i := 0) hG
    have z1 := cells_frz (i := 1) hG
    have z2 := cells_frz (i := 2) hG
    have HR := hid hrd1
    have HS := hid hsl1
    have HB := hid hB1
    clear hrd1 hsl1 hb1 hBx hG hB1 c0 c1 p0 p1 p2 p3 d0 d1
    go_wp2_with fail
    obtain ⟨r0, r1, r2, q1, q2, q3⟩ := box_fin HG.out HB.out (by omega) (by omega) HR.out HS.out
    exact bodyPost_ret (v := .tuple #[.agg #[_, _, _], .int .i64 _]) (by simp [results, Tryz.results148, go_sem, r0, r1, r2] <;> rfl) rfl ⟨_, _, _, rfl, q1, q2, q3⟩
  by_cases a3 : act = 3
  · subst a3
    rw [leafX_3 rfl]
    go_enter Tryz.func148, Tryz.ntmps148
    obtain ⟨hB0, c0, c1, p0, p1, p2, p3, d0, d1, g3⟩ := HX.out _ (Below.refl _ _)
    clear g3
    go_wp2_with fail
    refine (sadd_any u s d _ _ _ (HC.out _ hb0) os (by omega) hd).mono ?_
    rintro e w1 ⟨ve1, vk1, vc1, rfl, hrd1, hsl1, hb1⟩
    obtain ⟨Av, nv, Aw, nw, rfl, rfl⟩ := rda_shape hrd1
    obtain ⟨Ac, nc, rfl⟩ := hsl1.shape
    simp only [World.size_alloc] at hrd1 hsl1 hb1
    have hBx : Below (w.heap.size + 4) _ w1 := hb1.mono (by omega)
    clear c0 c1 p0 p1 p2 p3 d0 d1
    obtain ⟨hB1, c0, c1, p0, p1, p2, p3, d0, d1, hG⟩ := HX.out _ hBx
    have HG := hid hG
    have k0 := cell_cells (i := 0) hG
    have k1 := cell_cells (i := 1) hG
    have k2 := cell_cells (i := 2) hG
    simp only [List.getElem?_toArray, List.getElem?_cons_zero, List.getElem?_cons_succ] at k0 k1 k2
    have z0 := cells_frz (i := 0) hG
    have z1 := cells_frz (i := 1) hG
    have z2 := cells_frz (i := 2) hG
    have HR := hid hrd1
    have HS := hid hsl1
    have HB := hid hB1
    clear hrd1 hsl1 hb1 hBx hG hB1 c0 c1 p0 p1 p2 p3 d0 d1
    go_wp2_with fail
    obtain ⟨r0, r1, r2, q1, q2, q3⟩ := box_fin HG.out HB.out (by omega) (by omega) HR.out HS.out
    exact bodyPost_ret (v := .tuple #[.agg #[_, _, _], .int .i64 _]) (by simp [results, Tryz.results148, go_sem, r0, r1, r2] <;> rfl) rfl ⟨_, _, _, rfl, q1, q2, q3⟩
  by_cases a4 : act = 4
  · subst a4
    rw [leafX_4 rfl]
    go_enter Tryz.func148, Tryz.ntmps148
    obtain ⟨hB0, c0, c1, p0, p1, p2, p3, d0, d1, g3⟩ := HX.out _ (Below.refl _ _)
    clear g3
    go_wp2_with fail
    refine (sdel_any u s d _ _ _ (HC.out _ hb0) os (by omega) hd).mono ?_
    rintro e w1 ⟨ve1, vk1, vc1, rfl, hrd1, hsl1, hb1⟩
    obtain ⟨Av, nv, Aw, nw, rfl, rfl⟩ := rda_shape hrd1
    obtain ⟨Ac, nc, rfl⟩ := hsl1.shape
    simp only [World.size_alloc] at hrd1 hsl1 hb1
    have hBx : Below (w.heap.size + 4) _ w1 := hb1.mono (by omega)
    clear c0 c1 p0 p1 p2 p3 d0 d1
    obtain ⟨hB1, c0, c1, p0, p1, p2, p3, d0, d1, hG⟩ := HX.out _ hBx
    have HG := hid hG
    have k0 := cell_cells (i := 0) hG
    have k1 := cell_cells (i := 1) hG
    have k2 := cell_cells (i := 2) hG
    simp only [List.getElem?_toArray, List.getElem?_cons_zero, List.getElem?_cons_succ] at k0 k1 k2
    have z0 := cells_frz (i := 0) hG
    have z1 := cells_frz (i := 1) hG
    have z2 := cells_frz (i := 2) hG
    have HR := hid hrd1
    have HS := hid hsl1
    have HB := hid hB1
    clear hrd1 hsl1 hb1 hBx hG hB1 c0 c1 p0 p1 p2 p3 d0 d1
    go_wp2_with fail
    obtain ⟨r0, r1, r2, q1, q2, q3⟩ := box_fin HG.out HB.out (by omega) (by omega) HR.out HS.out
    exact bodyPost_ret (v := .tuple #[.agg #[_, _, _], .int .i64 _]) (by simp [results, Tryz.results148, go_sem, r0, r1, r2] <;> rfl) rfl ⟨_, _, _, rfl, q1, q2, q3⟩
  by_cases a5 : act = 5
  · subst a5
    rw [leafX_5 rfl]
    go_enter Tryz.func148, Tryz.ntmps148
    obtain ⟨hB0, c0, c1, p0, p1, p2, p3, d0, d1, g3⟩ := HX.out _ (Below.refl _ _)
    clear g3
    go_wp2_with fail
    refine (cinc_any u n d _ _ _ (HC.out _ hb0) (by omega) on hd).mono ?_
    rintro e w1 ⟨ve1, vk1, vc1, rfl, hrd1, hsl1, hb1⟩
    obtain ⟨Av, nv, Aw, nw, rfl, rfl⟩ := rda_shape hrd1
    obtain ⟨Ac, nc, rfl⟩ := hsl1.shape
    simp only [World.size_alloc] at hrd1 hsl1 hb1
    have hBx : Below (w.heap.size + 4) _ w1 := hb1.mono (by omega)
    clear c0 c1 p0 p1 p2 p3 d0 d1
    obtain ⟨hB1, c0, c1, p0, p1, p2, p3, d0, d1, hG⟩ := HX.out _ hBx
    have HG := hid hG
    have k0 := cell_cells (i := 0) hG
    have k1 := cell_cells (i := 1) hG
    have k2 := cell_cells (i := 2) hG
    simp only [List.getElem?_toArray, List.getElem?_cons_zero, List.getElem?_cons_succ] at k0 k1 k2
    have z0 := cells_frz (i := 0) hG
    have z1 := cells_frz (i := 1) hG
    have z2 := cells_frz (i := 2) hG
    have HR := hid hrd1
    have HS := hid hsl1
    have HB := hid hB1
    clear hrd1 hsl1 hb1 hBx hG hB1 c0 c1 p0 p1 p2 p3 d0 d1
    go_wp2_with fail
    obtain ⟨r0, r1, r2, q1, q2, q3⟩ := box_fin HG.out HB.out (by omega) (by omega) HR.out HS.out
    exact bodyPost_ret (v := .tuple #[.agg #[_, _, _], .int .i64 _]) (by simp [results, Tryz.results148, go_sem, r0, r1, r2] <;> rfl) rfl ⟨_, _, _, rfl, q1, q2, q3⟩
  by_cases a6 : act = 6
  · subst a6
    rw [leafX_6 rfl]
    go_enter Tryz.func148, Tryz.ntmps148
    obtain ⟨hB0, c0, c1, p0, p1, p2, p3, d0, d1, g3⟩ := HX.out _ (Below.refl _ _)
    clear g3
    go_wp2_with fail
    refine (rwrite_any u s d _ _ _ (HC.out _ hb0) os (by omega) hd).mono ?_
    rintro e w1 ⟨ve1, vk1, vc1, rfl, hrd1, hsl1, hb1⟩
    obtain ⟨Av, nv, Aw, nw, rfl, rfl⟩ := rda_shape hrd1
    obtain ⟨Ac, nc, rfl⟩ := hsl1.shape
    simp only [World.size_alloc] at hrd1 hsl1 hb1
    have hBx : Below (w.heap.size + 4) _ w1 := hb1.mono (by omega)
    clear c0 c1 p0 p1 p2 p3 d0 d1
    obtain ⟨hB1, c0, c1, p0, p1, p2, p3, d0, d1, hG⟩ := HX.out _ hBx
    have HG := hid hG
    have k0 := cell_cells (i := 0) hG
    have k1 := cell_cells (i := 1) hG
    have k2 := cell_cells (i := 2) hG
    simp only [List.getElem?_toArray, List.getElem?_cons_zero, List.getElem?_cons_succ] at k0 k1 k2
    have z0 := cells_frz (i := 0) hG
    have z1 := cells_frz (i := 1) hG
    have z2 := cells_frz (i := 2) hG
    have HR := hid hrd1
    have HS := hid hsl1
    have HB := hid hB1
    clear hrd1 hsl1 hb1 hBx hG hB1 c0 c1 p0 p1 p2 p3 d0 d1
    go_wp2_with fail
    obtain ⟨r0, r1, r2, q1, q2, q3⟩ := box_fin HG.out HB.out (by omega) (by omega) HR.out HS.out
    exact bodyPost_ret (v := .tuple #[.agg #[_, _, _], .int .i64 _]) (by simp [results, Tryz.results148, go_sem, r0, r1, r2] <;> rfl) rfl ⟨_, _, _, rfl, q1, q2, q3⟩
  · have hX : leafX u ⟨path, act, s, n⟩ d = (.mk [] [], disC u d, chkI u d) := by unfold leafX; rw [if_neg a1, if_neg a2, if_neg a3, if_neg a4, if_neg a5, if_neg a6]
    rw [hX]
    have e1 : (act == 1) = false := by simpa using a1
    have e2 : (act == 2) = false := by simpa using a2
    have e3 : (act == 3) = false := by simpa using a3
    have e4 : (act == 4) = false := by simpa using a4
    have e5 : (act == 5) = false := by simpa using a5
    have e6 : (act == 6) = false := by simpa using a6
    go_enter Tryz.func148, Tryz.ntmps148
    obtain ⟨hB0, c0, c1, p0, p1, p2, p3, d0, d1, g3⟩ := HX.out _ (Below.refl _ _)
    clear g3
    go_wp2_with fail
    refine (oreset_any u d _ _ _ (HC.out _ hb0) (by omega) hd).mono ?_
    rintro e w1 ⟨ve1, vk1, vc1, rfl, hrd1, hsl1, hb1⟩
    obtain ⟨Av, nv, Aw, nw, rfl, rfl⟩ := rda_shape hrd1
    obtain ⟨Ac, nc, rfl⟩ := hsl1.shape
    simp only [World.size_alloc] at hrd1 hsl1 hb1
    have hBx : Below (w.heap.size + 4) _ w1 := hb1.mono (by omega)
    clear c0 c1 p0 p1 p2 p3 d0 d1
    obtain ⟨hB1, c0, c1, p0, p1, p2, p3, d0, d1, hG⟩ := HX.out _ hBx
    have HG := hid hG
    have k0 := cell_cells (i := 0) hG
    have k1 := cell_cells (i := 1) hG
    have k2 := cell_cells (i := 2) hG
    simp only [List.getElem?_toArray, List.getElem?_cons_zero, List.getElem?_cons_succ] at k0 k1 k2
    have z0 := cells_frz (i := 0) hG
    have z1 := cells_frz (i := 1) hG
    have z2 := cells_frz (i := 2) hG
    have HR := hid hrd1
    have HS := hid hsl1
    have HB := hid hB1
    clear hrd1 hsl1 hb1 hBx hG hB1 c0 c1 p0 p1 p2 p3 d0 d1
    go_wp2_with fail
    obtain ⟨r0, r1, r2, q1, q2, q3⟩ := box_fin HG.out HB.out (by omega) (by omega) HR.out HS.out
    exact bodyPost_ret (v := .tuple #[.agg #[_, _, _], .int .i64 _]) (by simp [results, Tryz.results148, go_sem, r0, r1, r2] <;> rfl) rfl ⟨_, _, _, rfl, q1, q2, q3⟩
end Go.Proofs.YtmphgnjodangcaaGreat

namespace Go.Proofs.YtmphgnjodangcaaGreat
open Go.RowKit
set_option maxRecDepth 100000

theorem SlP.takeK {α : Type} {w : World} {B sz : Nat} {E : α → List Value → Prop} {A : Option Addr} {c : Nat} {l : List α} (h : SlP w B sz E (.slice A l.length c) l) {k : Nat} (hk : k ≤ l.length) : SlP w B sz E (.slice A k c) (l.take k) := by
  obtain ⟨A', c', hv, h1, h2, h3⟩ := h
  cases hv
  have hl : (l.take k).length = k := by simp; omega
  refine ⟨A, c, by rw [hl], by omega, by omega, fun hn => ?_⟩
  obtain ⟨b, off, rfl, hB, hc⟩ := h3 (by rintro rfl; simp at hn)
  refine ⟨b, off, rfl, hB, fun j x hx => hc j x ?_⟩
  rw [List.getElem?_take] at hx
  split at hx
  · exact hx
  · cases hx
def ofI (a : Int) : Int := if a = 1 ∨ a = 2 then 1 else if a = 3 ∨ a = 4 then 2 else if a = 5 then 3 else if a = 6 then 4 else if a = 7 then 0 else -1
theorem of_any (a : Int) (w : World) : Calls Tryz.prog 204 #[.int .i64 a] w fun e w' => e = .returned (.int .i64 (ofI a)) ∧ Below w.heap.size w w' := by
  by_cases hc : a = 1 ∨ a = 2 ∨ a = 3 ∨ a = 4 ∨ a = 5 ∨ a = 6 ∨ a = 7
  · rcases hc with rfl | rfl | rfl | rfl | rfl | rfl | rfl <;>
    (go_enter Tryz.func204, Tryz.ntmps204
     go_wp2_with fail
     go_ret
     exact ⟨rfl, Below.refl _ _⟩)
  · obtain ⟨g1, g2, g3, g4, g5, g6, g7⟩ : a ≠ 1 ∧ a ≠ 2 ∧ a ≠ 3 ∧ a ≠ 4 ∧ a ≠ 5 ∧ a ≠ 6 ∧ a ≠ 7 := by omega
    have hO : ofI a = -1 := by unfold ofI; rw [if_neg (by omega), if_neg (by omega), if_neg (by omega), if_neg (by omega), if_neg (by omega)]
    rw [hO]
    have d1 : decide (a = 1) = false := by simpa using g1
    have d2 : decide (a = 2) = false := by simpa using g2
    have d3 : decide (a = 3) = false := by simpa using g3
    have d4 : decide (a = 4) = false := by simpa using g4
    have d5 : decide (a = 5) = false := by simpa using g5
    have d6 : decide (a = 6) = false := by simpa using g6
    have d7 : decide (a = 7) = false := by simpa using g7
    have e1 : (a == 1) = false := by simpa using g1
    have e2 : (a == 2) = false := by simpa using g2
    have e3 : (a == 3) = false := by simpa using g3
    have e4 : (a == 4) = false := by simpa using g4
    have e5 : (a == 5) = false := by simpa using g5
    have e6 : (a == 6) = false := by simpa using g6
    have e7 : (a == 7) = false := by simpa using g7
    clear hc
    go_enter Tryz.func204, Tryz.ntmps204
    go_wp2_with fail
    go_ret
    exact ⟨rfl, Below.refl _ _⟩
theorem entry_any (a : Int) (w : World) : Calls Tryz.prog 150 #[.int .i64 a] w fun e w' => e = .returned (.bool (entryB a)) ∧ Below w.heap.size w w' := by
  by_cases hc : a = 1 ∨ a = 2 ∨ a = 3 ∨ a = 4 ∨ a = 5 ∨ a = 6 ∨ a = 7
  · rcases hc with rfl | rfl | rfl | rfl | rfl | rfl | rfl <;>
    (go_enter Tryz.func150, Tryz.ntmps150
     go_wp2_with fail
     go_ret
     exact ⟨rfl, Below.refl _ _⟩)
  · obtain ⟨g1, g2, g3, g4, g5, g6, g7⟩ : a ≠ 1 ∧ a ≠ 2 ∧ a ≠ 3 ∧ a ≠ 4 ∧ a ≠ 5 ∧ a ≠ 6 ∧ a ≠ 7 := by omega
    have hO : entryB a = false := by unfold entryB; rw [decide_eq_false_iff_not]; omega
    rw [hO]
    have d1 : decide (a = 1) = false := by simpa using g1
    have d2 : decide (a = 2) = false := by simpa using g2
    have d3 : decide (a = 3) = false := by simpa using g3
    have d4 : decide (a = 4) = false := by simpa using g4
    have d5 : decide (a = 5) = false := by simpa using g5
    have d6 : decide (a = 6) = false := by simpa using g6
    have d7 : decide (a = 7) = false := by simpa using g7
    have e1 : (a == 1) = false := by simpa using g1
    have e2 : (a == 2) = false := by simpa using g2
    have e3 : (a == 3) = false := by simpa using g3
    have e4 : (a == 4) = false := by simpa using g4
    have e5 : (a == 5) = false := by simpa using g5
    have e6 : (a == 6) = false := by simpa using g6
    have e7 : (a == 7) = false := by simpa using g7
    clear hc
    go_enter Tryz.func150, Tryz.ntmps150
    go_wp2_with fail
    go_ret
    exact ⟨rfl, Below.refl _ _⟩
theorem act15_any (a k : Int) (w : World) : Calls Tryz.prog 158 #[.int .i64 a, .int .i64 k] w fun e w' => e = .returned (.bool (actB a k)) ∧ Below w.heap.size w w' := by
  by_cases hc : a = 1 ∨ a = 2 ∨ a = 3 ∨ a = 4 ∨ a = 5 ∨ a = 6 ∨ a = 7
  · rcases hc with rfl | rfl | rfl | rfl | rfl | rfl | rfl <;>
    (go_enter Tryz.func158, Tryz.ntmps158
     go_wp2_with fail
     go_ret
     exact ⟨ret_bool (by unfold actB; simp; try (rw [Bool.eq_iff_iff]; simp)), Below.refl _ _⟩)
  · obtain ⟨g1, g2, g3, g4, g5, g6, g7⟩ : a ≠ 1 ∧ a ≠ 2 ∧ a ≠ 3 ∧ a ≠ 4 ∧ a ≠ 5 ∧ a ≠ 6 ∧ a ≠ 7 := by omega
    have hO : actB a k = false := by unfold actB; rw [if_neg (by omega), if_neg (by omega), if_neg (by omega), if_neg (by omega), decide_eq_false_iff_not]; omega
    rw [hO]
    have d1 : decide (a = 1) = false := by simpa using g1
    have d2 : decide (a = 2) = false := by simpa using g2
    have d3 : decide (a = 3) = false := by simpa using g3
    have d4 : decide (a = 4) = false := by simpa using g4
    have d5 : decide (a = 5) = false := by simpa using g5
    have d6 : decide (a = 6) = false := by simpa using g6
    have d7 : decide (a = 7) = false := by simpa using g7
    have e1 : (a == 1) = false := by simpa using g1
    have e2 : (a == 2) = false := by simpa using g2
    have e3 : (a == 3) = false := by simpa using g3
    have e4 : (a == 4) = false := by simpa using g4
    have e5 : (a == 5) = false := by simpa using g5
    have e6 : (a == 6) = false := by simpa using g6
    have e7 : (a == 7) = false := by simpa using g7
    clear hc
    go_enter Tryz.func158, Tryz.ntmps158
    go_wp2_with fail
    go_ret
    exact ⟨rfl, Below.refl _ _⟩
theorem kindB_get {k : ByteArray} (h : 0 < k.size) : kindB k = if ((k[0].toNat : Int) == 102) = true then 1 else if ((k[0].toNat : Int) == 115) = true then 2 else if ((k[0].toNat : Int) == 99) = true then 3 else if ((k[0].toNat : Int) == 114) = true then 4 else if ((k[0].toNat : Int) == 109) = true then 5 else 0 := by
  obtain ⟨⟨l⟩⟩ := k
  cases l with
  | nil => exact absurd h (by decide)
  | cons b r =>
    have hb : ∀ n : UInt8, (((b.toNat : Int) == ((n.toNat : Nat) : Int)) = true) = (b = n) := fun n => by rw [eq_iff_iff, beq_iff_eq]; exact ⟨fun h => UInt8.toNat_inj.1 (by omega), fun h => by rw [h]⟩
    have e0 : (ByteArray.mk ⟨b :: r⟩)[0] = b := rfl
    have h1 := hb 102
    have h2 := hb 115
    have h3 := hb 99
    have h4 := hb 114
    have h5 := hb 109
    rw [e0]
    unfold kindB
    simp only [show ((102 : UInt8).toNat : Int) = 102 from rfl, show ((115 : UInt8).toNat : Int) = 115 from rfl, show ((99 : UInt8).toNat : Int) = 99 from rfl, show ((114 : UInt8).toNat : Int) = 114 from rfl, show ((109 : UInt8).toNat : Int) = 109 from rfl] at h1 h2 h3 h4 h5
    simp only [h1, h2, h3, h4, h5]
theorem kindB_no {k : ByteArray} (h : ¬ 0 < k.size) : kindB k = 0 := by
  obtain ⟨⟨l⟩⟩ := k
  cases l with
  | nil => rfl
  | cons b r => exact absurd (show 0 < (b :: r).length by simp) h
theorem toList_some {k : ByteArray} (h : 0 < k.size) : k.toList.isEmpty = false := by
  rw [ByteArray.toList_eq]
  obtain ⟨⟨l⟩⟩ := k
  cases l with
  | nil => exact absurd h (by decide)
  | cons b r => rfl
theorem toList_none {k : ByteArray} (h : ¬ 0 < k.size) : k.toList.isEmpty = true := by
  rw [ByteArray.toList_eq]
  obtain ⟨⟨l⟩⟩ := k
  cases l with
  | nil => rfl
  | cons b r => exact absurd (show 0 < (b :: r).length by simp) h
theorem opKind_any (k : ByteArray) (w : World) :
    Calls Tryz.prog 74 #[.string k] w fun e w' => e = .returned (.int .i64 (kindB k)) ∧ Below w.heap.size w w' := by
  by_cases h0 : 0 < k.size
  · have HK := hid (kindB_get h0)
    have he : k.toList.isEmpty = false := toList_some h0
    go_enter Tryz.func74, Tryz.ntmps74
    go_wp2_with fail
    all_goals (go_ret; exact ⟨ret_int (by rw [HK.out]; simp_all), Below.refl _ _⟩)
  · rw [kindB_no h0]
    have he : k.toList.isEmpty = true := toList_none h0
    go_enter Tryz.func74, Tryz.ntmps74
    go_wp2_with fail
    all_goals (go_ret; exact ⟨rfl, Below.refl _ _⟩)
end Go.Proofs.YtmphgnjodangcaaGreat

namespace Go.Proofs.YtmphgnjodangcaaGreat
open Go.RowKit
set_option maxRecDepth 100000

theorem cp1_any (x : ByteArray) (w : World) (hx : x.size ≤ Big) : Calls Tryz.prog 210 #[.string x] w fun e w' => e = .returned (.bool (badKey x)) ∧ Below w.heap.size w w' := by
  unfold Big at hx
  go_enter Tryz.func210, Tryz.ntmps210
  by_cases hb : 30 < x.size
  · go_wp2_with fail
    go_ret
    exact ⟨ret_bool (by unfold badKey; simp [hb]), Below.refl _ _⟩
  · go_wp2_with fail
    refine (opKind_any x _).mono ?_
    rintro e w1 ⟨rfl, hb1⟩
    go_wp2_with fail
    go_ret
    exact ⟨ret_bool (by unfold badKey; rw [Bool.eq_iff_iff]; simp [hb]; omega), hb1⟩
theorem cp2_any (x : ByteArray) (w : World) : Calls Tryz.prog 211 #[.string x] w fun e w' => e = .returned (.bool (noMap x)) ∧ Below w.heap.size w w' := by
  go_enter Tryz.func211, Tryz.ntmps211
  go_wp2_with fail
  refine (opKind_any x _).mono ?_
  rintro e w1 ⟨rfl, hb1⟩
  go_wp2_with fail
  go_ret
  exact ⟨ret_bool (by unfold noMap; rw [Bool.eq_iff_iff]; simp), hb1⟩
theorem cp1_test (w : World) : TestStr 210 #[] badKey w := ⟨enters_of Tryz.func210 (by kernel_rfl) rfl, fun x W hx _ => cp1_any x W hx⟩
theorem cp2_test (w : World) : TestStr 211 #[] noMap w := ⟨enters_of Tryz.func211 (by kernel_rfl) rfl, fun x W _ _ => cp2_any x W⟩
set_option maxHeartbeats 1000000 in
theorem checkPath_any (p : List ByteArray) (vp : Value) (w : World) (h : SlP w w.heap.size 1 StE vp p) :
    Calls Tryz.prog 154 #[vp] w fun e w' => e = .returned (.int .i64 (pathI p)) ∧ Below w.heap.size w w' := by
  have HC : Hid (∀ w', Below w.heap.size w w' → SlP w' w'.heap.size 1 StE vp p) := fun w' hb => h.imp hb hb.size fun _ _ _ h => h
  obtain ⟨A, c, rfl, c1, c2, _⟩ := h
  unfold Big at c2
  go_enter Tryz.func154, Tryz.ntmps154
  by_cases h1 : p.length < 1
  · have hP : pathI p = 1 := by unfold pathI; rw [if_pos (.inl h1)]
    rw [hP]
    clear hP
    go_wp2_with fail
    go_ret
    exact ⟨rfl, Below.refl _ _⟩
  by_cases h3 : 3 < p.length
  · have hP : pathI p = 1 := by unfold pathI; rw [if_pos (.inr (.inl h3))]
    rw [hP]
    clear hP
    go_wp2_with fail
    go_ret
    exact ⟨rfl, Below.refl _ _⟩
  go_wp2_with fail
  refine (conStr_any badKey _ #[] p _ _ (HC.out _ (Below.refl _ _)) (cp1_test _)).mono ?_
  cases hq : p.any badKey
  · rintro e w1 ⟨rfl, hb1⟩
    have hP : pathI p = if p.dropLast.any noMap then 6 else 0 := by unfold pathI; rw [if_neg (by rintro (h | h | h) <;> first | omega | (rw [hq] at h; cases h))]
    have HPI := hid hP
    have HP : Hid (SlP w1 w1.heap.size 1 StE (.slice A (p.length - 1) c) p.dropLast) := by
      rw [List.dropLast_eq_take]
      exact (HC.out _ hb1).takeK (by omega)
    clear hP hq
    go_wp2_with fail
    refine (conStr_any noMap _ #[] p.dropLast _ _ HP.out (cp2_test _)).mono ?_
    cases hn : p.dropLast.any noMap
    · rintro e w2 ⟨rfl, hb2⟩
      have HN := hid hn
      clear hn
      go_wp2_with fail
      go_ret
      exact ⟨ret_int (by rw [HPI.out, HN.out]; rfl), hb1.trans (hb2.mono hb1.size)⟩
    · rintro e w2 ⟨rfl, hb2⟩
      have HN := hid hn
      clear hn
      go_wp2_with fail
      go_ret
      exact ⟨ret_int (by rw [HPI.out, HN.out]; rfl), hb1.trans (hb2.mono hb1.size)⟩
  · rintro e w1 ⟨rfl, hb1⟩
    have hP : pathI p = 1 := by unfold pathI; rw [if_pos (.inr (.inr hq))]
    have HPI := hid hP
    clear hP hq
    go_wp2_with fail
    go_ret
    exact ⟨ret_int HPI.out.symm, hb1⟩
theorem rightPath_any (p : List ByteArray) (vp : Value) (w : World) (h : SlP w w.heap.size 1 StE vp p) :
    Calls Tryz.prog 82 #[vp] w fun e w' => e = .returned (.bool (decide (pathI p = 0))) ∧ Below w.heap.size w w' := by
  have HC := hid h
  obtain ⟨A, c, rfl, c1, c2, _⟩ := h
  unfold Big at c2
  go_enter Tryz.func82, Tryz.ntmps82
  go_wp2_with fail
  refine (checkPath_any p _ _ HC.out).mono ?_
  rintro e w1 ⟨rfl, hb1⟩
  go_wp2_with fail
  go_ret
  exact ⟨ret_bool (by rw [Bool.eq_iff_iff]; simp), hb1⟩
theorem chk_err {path : List ByteArray} {act n : Int} {s : ByteArray} (hp : pathI path = 0) (ha : actB act (kindB (lastK path)) = true) : opI ⟨path, act, s, n⟩ = if opTxt ⟨path, act, s, n⟩ && opNum ⟨path, act, s, n⟩ then 0 else 1 := by
  unfold opI
  simp only
  rw [if_neg (by omega), ha]; rfl
theorem tol_nil (s : ByteArray) : (s.toList = []) = (s.size = 0) := by
  rw [eq_iff_iff]
  by_cases h : s.size = 0
  · have := toList_none (k := s) (by omega); rw [List.isEmpty_iff] at this; simp [this, h]
  · have := toList_some (k := s) (by omega); rw [← Bool.not_eq_true, List.isEmpty_iff] at this; exact ⟨fun e => absurd e this, fun e => absurd e h⟩
theorem tol_f (s : ByteArray) : (s.toList.isEmpty = false) = (s.size ≠ 0) := by rw [← Bool.not_eq_true, List.isEmpty_iff, tol_nil]
theorem tol_t (s : ByteArray) : (s.toList.isEmpty = true) = (s.size = 0) := by rw [List.isEmpty_iff, tol_nil]
set_option maxHeartbeats 8000000 in
theorem check_any (o : Opr) (vp : Value) (w : World) (h : SlP w w.heap.size 1 StE vp o.path) (ho : o.Ok) :
    Calls Tryz.prog 147 #[.agg #[vp, .int .i64 o.act, .string o.s, .int .i64 o.n]] w fun e w' => e = .returned (.int .i64 (opI o)) ∧ Below w.heap.size w w' := by
  have HC : Hid (∀ w', Below w.heap.size w w' → SlP w' w'.heap.size 1 StE vp o.path) := fun w' hb => h.imp hb hb.size fun _ _ _ h => h
  obtain ⟨A, c, rfl, c1, c2, c3⟩ := h
  have hs := ho.s
  unfold Big at c2 hs
  obtain ⟨path, act, s, n⟩ := o
  simp only at HC c1 c2 c3 hs ⊢
  have HX : Hid (∀ W, Below (w.heap.size + 1) (w.alloc (.cells #[.slice A path.length c, .int .i64 act, .string s, .int .i64 n] 80)) W → (Below w.heap.size w W ∧ SlP W W.heap.size 1 StE (.slice A path.length c) path ∧ W.cell? ⟨w.heap.size, 0, none⟩ = some (.slice A path.length c) ∧ W.cell? ⟨w.heap.size, 1, none⟩ = some (.int .i64 act) ∧ W.cell? ⟨w.heap.size, 2, none⟩ = some (.string s) ∧ W.cell? ⟨w.heap.size, 3, none⟩ = some (.int .i64 n))) := fun W hW => by
    have g0 : W.heap[w.heap.size]? = some (.cells #[.slice A path.length c, .int .i64 act, .string s, .int .i64 n] 80 (0, 0)) := (hW.block _ (by omega)).trans (heap_new rfl)
    have hB : Below w.heap.size w W := ((Below.refl _ w).alloc (Nat.le_refl _) _).trans (hW.mono (by omega))
    exact ⟨hB, HC.out _ hB, cell_cells (i := 0) g0, cell_cells (i := 1) g0, cell_cells (i := 2) g0, cell_cells (i := 3) g0⟩
  go_enter Tryz.func147, Tryz.ntmps147
  go_wp2_with fail
  obtain ⟨hB, hp, q0, q1, q2, q3⟩ := HX.out _ (Below.refl _ _)
  refine (checkPath_any path _ _ hp).mono ?_
  rintro e w1 ⟨rfl, hb1⟩
  have hbx : Below (w.heap.size + 1) (w.alloc (.cells #[.slice A path.length c, .int .i64 act, .string s, .int .i64 n] 80)) w1 := hb1.mono (by simp)
  have HB1 := hid hbx
  clear hB hp q0 q1 q2 q3 hb1 hbx
  obtain ⟨hB, hp, q0, q1, q2, q3⟩ := HX.out _ HB1.out
  by_cases hpz : pathI path = 0
  · have hpl := (path_ok hpz).1
    have hpu := (path_ok hpz).2.1
    have HPZ := hid hpz
    rw [hpz]
    clear hpz
    go_wp2_with fail
    refine (of_any act _).mono ?_
    rintro e w2 ⟨rfl, hb2⟩
    have HB2 := hid (HB1.out.trans (hb2.mono (by have := hB.size; have := HB1.out.size; simp at this; omega)))
    clear hB hp q0 q1 q2 q3 hb2
    obtain ⟨hB, hp, q0, q1, q2, q3⟩ := HX.out _ HB2.out
    rcases (show act = 1 ∨ act = 2 ∨ act = 3 ∨ act = 4 ∨ act = 5 ∨ act = 6 ∨ act = 7 ∨ (act ≠ 1 ∧ act ≠ 2 ∧ act ≠ 3 ∧ act ≠ 4 ∧ act ≠ 5 ∧ act ≠ 6 ∧ act ≠ 7) by omega) with rfl | rfl | rfl | rfl | rfl | rfl | rfl | ⟨g1, g2, g3, g4, g5, g6, g7⟩
    · simp only [show ofI 1 = 1 from rfl]
      obtain ⟨bq, offq, hAq, hbq, hcq⟩ := c3 (by rintro rfl; simp at hpl)
      cases hAq
      obtain ⟨cs, ⟨rfl, hok⟩, _, hu⟩ := hcq (path.length - 1) _ (last_at hpl)
      have e0 := (hB.cell (p := ⟨bq, offq + (path.length - 1), none⟩) hbq).trans (by simpa using hu 0 _ rfl)
      clear hu hcq c3
      go_wp2_with fail
      refine (opKind_any (lastK path) _).mono ?_
      by_cases hk : kindB (lastK path) = 1
      · rw [hk]
        rintro e w3 ⟨rfl, hb3⟩
        have HA : Hid (actB 1 (kindB (lastK path)) = true) := by unfold Hid actB; rw [hk]; simp
        have HB3 := hid (HB2.out.trans (hb3.mono (by have := hB.size; have := HB2.out.size; simp at this; omega)))
        clear hB hp q0 q1 q2 q3 hb3 e0 hk
        obtain ⟨hB, hp, q0, q1, q2, q3⟩ := HX.out _ HB3.out
        have HE : Hid (∀ (s : ByteArray) (n : Int), opI ⟨path, 1, s, n⟩ = if s.size = 0 ∧ n = 0 then 0 else 1) := by
          intro s n
          rw [chk_err HPZ.out HA.out]
          unfold opTxt opNum keyB
          simp
        go_wp2_with fail
        all_goals (go_ret; refine ⟨ret_int ?_, hB⟩; rw [HE.out])
        all_goals (try simp only [tol_nil] at *)
        all_goals (try simp only [tol_f] at *)
        all_goals (try simp only [tol_t] at *)
        all_goals (first | (exfalso; omega) | (rw [if_pos (by omega)]; done) | (rw [if_neg (by omega)]; done))
      · have hn : ((1 : Int) == kindB (lastK path)) = false := by simpa using fun h => hk h.symm
        have HO : Hid (opI ⟨path, 1, s, n⟩ = 6) := by unfold Hid opI; simp only; rw [if_neg (by rw [HPZ.out]; simp), if_pos (by unfold actB; simp [hk])]
        rintro e w3 ⟨rfl, hb3⟩
        have hB3 := hB.trans (hb3.mono hB.size)
        clear hk
        go_wp2_with fail
        go_ret
        exact ⟨ret_int HO.out.symm, hB3⟩
    · simp only [show ofI 2 = 1 from rfl]
      obtain ⟨bq, offq, hAq, hbq, hcq⟩ := c3 (by rintro rfl; simp at hpl)
      cases hAq
      obtain ⟨cs, ⟨rfl, hok⟩, _, hu⟩ := hcq (path.length - 1) _ (last_at hpl)
      have e0 := (hB.cell (p := ⟨bq, offq + (path.length - 1), none⟩) hbq).trans (by simpa using hu 0 _ rfl)
      clear hu hcq c3
      go_wp2_with fail
      refine (opKind_any (lastK path) _).mono ?_
      by_cases hk : kindB (lastK path) = 1
      · rw [hk]
        rintro e w3 ⟨rfl, hb3⟩
        have HA : Hid (actB 2 (kindB (lastK path)) = true) := by unfold Hid actB; rw [hk]; simp
        have HB3 := hid (HB2.out.trans (hb3.mono (by have := hB.size; have := HB2.out.size; simp at this; omega)))
        clear hB hp q0 q1 q2 q3 hb3 e0 hk
        obtain ⟨hB, hp, q0, q1, q2, q3⟩ := HX.out _ HB3.out
        have HE : Hid (∀ (s : ByteArray) (n : Int), opI ⟨path, 2, s, n⟩ = if s.size = 0 ∧ n = 0 then 0 else 1) := by
          intro s n
          rw [chk_err HPZ.out HA.out]
          unfold opTxt opNum keyB
          simp
        go_wp2_with fail
        all_goals (go_ret; refine ⟨ret_int ?_, hB⟩; rw [HE.out])
        all_goals (try simp only [tol_nil] at *)
        all_goals (try simp only [tol_f] at *)
        all_goals (try simp only [tol_t] at *)
        all_goals (first | (exfalso; omega) | (rw [if_pos (by omega)]; done) | (rw [if_neg (by omega)]; done))
      · have hn : ((1 : Int) == kindB (lastK path)) = false := by simpa using fun h => hk h.symm
        have HO : Hid (opI ⟨path, 2, s, n⟩ = 6) := by unfold Hid opI; simp only; rw [if_neg (by rw [HPZ.out]; simp), if_pos (by unfold actB; simp [hk])]
        rintro e w3 ⟨rfl, hb3⟩
        have hB3 := hB.trans (hb3.mono hB.size)
        clear hk
        go_wp2_with fail
        go_ret
        exact ⟨ret_int HO.out.symm, hB3⟩
    · simp only [show ofI 3 = 2 from rfl]
      obtain ⟨bq, offq, hAq, hbq, hcq⟩ := c3 (by rintro rfl; simp at hpl)
      cases hAq
      obtain ⟨cs, ⟨rfl, hok⟩, _, hu⟩ := hcq (path.length - 1) _ (last_at hpl)
      have e0 := (hB.cell (p := ⟨bq, offq + (path.length - 1), none⟩) hbq).trans (by simpa using hu 0 _ rfl)
      clear hu hcq c3
      go_wp2_with fail
      refine (opKind_any (lastK path) _).mono ?_
      by_cases hk : kindB (lastK path) = 2
      · rw [hk]
        rintro e w3 ⟨rfl, hb3⟩
        have HA : Hid (actB 3 (kindB (lastK path)) = true) := by unfold Hid actB; rw [hk]; simp
        have HB3 := hid (HB2.out.trans (hb3.mono (by have := hB.size; have := HB2.out.size; simp at this; omega)))
        clear hB hp q0 q1 q2 q3 hb3 e0 hk
        obtain ⟨hB, hp, q0, q1, q2, q3⟩ := HX.out _ HB3.out
        have HE : Hid (∀ (s : ByteArray) (n : Int), opI ⟨path, 3, s, n⟩ = if (1 ≤ s.size ∧ s.size ≤ 30) ∧ n = 0 then 0 else 1) := by
          intro s n
          rw [chk_err HPZ.out HA.out]
          unfold opTxt opNum keyB
          simp
        go_wp2_with fail
        all_goals (go_ret; refine ⟨ret_int ?_, hB⟩; rw [HE.out])
        all_goals (try simp only [tol_f] at *)
        all_goals (try simp only [tol_t] at *)
        all_goals (first | (exfalso; omega) | (rw [if_pos (by omega)]; done) | (rw [if_neg (by omega)]; done))
      · have hn : ((2 : Int) == kindB (lastK path)) = false := by simpa using fun h => hk h.symm
        have HO : Hid (opI ⟨path, 3, s, n⟩ = 6) := by unfold Hid opI; simp only; rw [if_neg (by rw [HPZ.out]; simp), if_pos (by unfold actB; simp [hk])]
        rintro e w3 ⟨rfl, hb3⟩
        have hB3 := hB.trans (hb3.mono hB.size)
        clear hk
        go_wp2_with fail
        go_ret
        exact ⟨ret_int HO.out.symm, hB3⟩
    · simp only [show ofI 4 = 2 from rfl]
      obtain ⟨bq, offq, hAq, hbq, hcq⟩ := c3 (by rintro rfl; simp at hpl)
      cases hAq
      obtain ⟨cs, ⟨rfl, hok⟩, _, hu⟩ := hcq (path.length - 1) _ (last_at hpl)
      have e0 := (hB.cell (p := ⟨bq, offq + (path.length - 1), none⟩) hbq).trans (by simpa using hu 0 _ rfl)
      clear hu hcq c3
      go_wp2_with fail
      refine (opKind_any (lastK path) _).mono ?_
      by_cases hk : kindB (lastK path) = 2
      · rw [hk]
        rintro e w3 ⟨rfl, hb3⟩
        have HA : Hid (actB 4 (kindB (lastK path)) = true) := by unfold Hid actB; rw [hk]; simp
        have HB3 := hid (HB2.out.trans (hb3.mono (by have := hB.size; have := HB2.out.size; simp at this; omega)))
        clear hB hp q0 q1 q2 q3 hb3 e0 hk
        obtain ⟨hB, hp, q0, q1, q2, q3⟩ := HX.out _ HB3.out
        have HE : Hid (∀ (s : ByteArray) (n : Int), opI ⟨path, 4, s, n⟩ = if (1 ≤ s.size ∧ s.size ≤ 30) ∧ n = 0 then 0 else 1) := by
          intro s n
          rw [chk_err HPZ.out HA.out]
          unfold opTxt opNum keyB
          simp
        go_wp2_with fail
        all_goals (go_ret; refine ⟨ret_int ?_, hB⟩; rw [HE.out])
        all_goals (try simp only [tol_f] at *)
        all_goals (try simp only [tol_t] at *)
        all_goals (first | (exfalso; omega) | (rw [if_pos (by omega)]; done) | (rw [if_neg (by omega)]; done))
      · have hn : ((2 : Int) == kindB (lastK path)) = false := by simpa using fun h => hk h.symm
        have HO : Hid (opI ⟨path, 4, s, n⟩ = 6) := by unfold Hid opI; simp only; rw [if_neg (by rw [HPZ.out]; simp), if_pos (by unfold actB; simp [hk])]
        rintro e w3 ⟨rfl, hb3⟩
        have hB3 := hB.trans (hb3.mono hB.size)
        clear hk
        go_wp2_with fail
        go_ret
        exact ⟨ret_int HO.out.symm, hB3⟩
    · simp only [show ofI 5 = 3 from rfl]
      obtain ⟨bq, offq, hAq, hbq, hcq⟩ := c3 (by rintro rfl; simp at hpl)
      cases hAq
      obtain ⟨cs, ⟨rfl, hok⟩, _, hu⟩ := hcq (path.length - 1) _ (last_at hpl)
      have e0 := (hB.cell (p := ⟨bq, offq + (path.length - 1), none⟩) hbq).trans (by simpa using hu 0 _ rfl)
      clear hu hcq c3
      go_wp2_with fail
      refine (opKind_any (lastK path) _).mono ?_
      by_cases hk : kindB (lastK path) = 3
      · rw [hk]
        rintro e w3 ⟨rfl, hb3⟩
        have HA : Hid (actB 5 (kindB (lastK path)) = true) := by unfold Hid actB; rw [hk]; simp
        have HB3 := hid (HB2.out.trans (hb3.mono (by have := hB.size; have := HB2.out.size; simp at this; omega)))
        clear hB hp q0 q1 q2 q3 hb3 e0 hk
        obtain ⟨hB, hp, q0, q1, q2, q3⟩ := HX.out _ HB3.out
        have HE : Hid (∀ (s : ByteArray) (n : Int), opI ⟨path, 5, s, n⟩ = if s.size = 0 ∧ -1099511627776 ≤ n ∧ n ≤ 1099511627776 then 0 else 1) := by
          intro s n
          rw [chk_err HPZ.out HA.out]
          unfold opTxt opNum keyB
          simp
        go_wp2_with fail
        all_goals (go_ret; refine ⟨ret_int ?_, hB⟩; rw [HE.out])
        all_goals (try simp only [tol_nil] at *)
        all_goals (try simp only [tol_f] at *)
        all_goals (try simp only [tol_t] at *)
        all_goals (first | (exfalso; omega) | (rw [if_pos (by omega)]; done) | (rw [if_neg (by omega)]; done))
      · have hn : ((3 : Int) == kindB (lastK path)) = false := by simpa using fun h => hk h.symm
        have HO : Hid (opI ⟨path, 5, s, n⟩ = 6) := by unfold Hid opI; simp only; rw [if_neg (by rw [HPZ.out]; simp), if_pos (by unfold actB; simp [hk])]
        rintro e w3 ⟨rfl, hb3⟩
        have hB3 := hB.trans (hb3.mono hB.size)
        clear hk
        go_wp2_with fail
        go_ret
        exact ⟨ret_int HO.out.symm, hB3⟩
    · simp only [show ofI 6 = 4 from rfl]
      obtain ⟨bq, offq, hAq, hbq, hcq⟩ := c3 (by rintro rfl; simp at hpl)
      cases hAq
      obtain ⟨cs, ⟨rfl, hok⟩, _, hu⟩ := hcq (path.length - 1) _ (last_at hpl)
      have e0 := (hB.cell (p := ⟨bq, offq + (path.length - 1), none⟩) hbq).trans (by simpa using hu 0 _ rfl)
      clear hu hcq c3
      go_wp2_with fail
      refine (opKind_any (lastK path) _).mono ?_
      by_cases hk : kindB (lastK path) = 4
      · rw [hk]
        rintro e w3 ⟨rfl, hb3⟩
        have HA : Hid (actB 6 (kindB (lastK path)) = true) := by unfold Hid actB; rw [hk]; simp
        have HB3 := hid (HB2.out.trans (hb3.mono (by have := hB.size; have := HB2.out.size; simp at this; omega)))
        clear hB hp q0 q1 q2 q3 hb3 e0 hk
        obtain ⟨hB, hp, q0, q1, q2, q3⟩ := HX.out _ HB3.out
        have HE : Hid (∀ (s : ByteArray) (n : Int), opI ⟨path, 6, s, n⟩ = if s.size ≤ 30 ∧ n = 0 then 0 else 1) := by
          intro s n
          rw [chk_err HPZ.out HA.out]
          unfold opTxt opNum keyB
          simp
        go_wp2_with fail
        all_goals (go_ret; refine ⟨ret_int ?_, hB⟩; rw [HE.out])
        all_goals (first | (exfalso; omega) | (rw [if_pos (by omega)]; done) | (rw [if_neg (by omega)]; done))
      · have hn : ((4 : Int) == kindB (lastK path)) = false := by simpa using fun h => hk h.symm
        have HO : Hid (opI ⟨path, 6, s, n⟩ = 6) := by unfold Hid opI; simp only; rw [if_neg (by rw [HPZ.out]; simp), if_pos (by unfold actB; simp [hk])]
        rintro e w3 ⟨rfl, hb3⟩
        have hB3 := hB.trans (hb3.mono hB.size)
        clear hk
        go_wp2_with fail
        go_ret
        exact ⟨ret_int HO.out.symm, hB3⟩
    · simp only [show ofI 7 = 0 from rfl]
      have HA : Hid (actB 7 (kindB (lastK path)) = true) := rfl
      have HE : Hid (∀ (s : ByteArray) (n : Int), opI ⟨path, 7, s, n⟩ = if s.size = 0 ∧ n = 0 then 0 else 1) := by
        intro s n
        rw [chk_err HPZ.out HA.out]
        unfold opTxt opNum keyB
        simp
      go_wp2_with fail
      all_goals (go_ret; refine ⟨ret_int ?_, hB⟩; rw [HE.out])
      all_goals (try simp only [tol_nil] at *)
      all_goals (try simp only [tol_f] at *)
      all_goals (try simp only [tol_t] at *)
      all_goals (first | (exfalso; omega) | (rw [if_pos (by omega)]; done) | (rw [if_neg (by omega)]; done))
    · have hO : ofI act = -1 := by unfold ofI; rw [if_neg (by omega), if_neg (by omega), if_neg (by omega), if_neg (by omega), if_neg (by omega)]
      rw [hO]
      have HO : Hid (opI ⟨path, act, s, n⟩ = 6) := by
        unfold Hid opI; simp only
        rw [if_neg (by rw [HPZ.out]; simp), if_pos]
        unfold actB
        rw [if_neg (by omega), if_neg (by omega), if_neg (by omega), if_neg (by omega)]
        simp [g7]
      go_wp2_with fail
      go_ret
      exact ⟨ret_int HO.out.symm, hB⟩
  · have hO : Hid (opI ⟨path, act, s, n⟩ = pathI path) := by unfold Hid opI; simp only; rw [if_pos hpz]
    have hne : (pathI path == 0) = false := by simpa using hpz
    have hne' : (pathI path != 0) = true := by simpa using hpz
    clear hpz
    go_wp2_with fail
    go_ret
    exact ⟨ret_int hO.out.symm, hB⟩
theorem right15_any (o : Opr) (vp : Value) (w : World) (h : SlP w w.heap.size 1 StE vp o.path) (ho : o.Ok) :
    Calls Tryz.prog 84 #[.agg #[vp, .int .i64 o.act, .string o.s, .int .i64 o.n]] w fun e w' => e = .returned (.bool (decide (opI o = 0))) ∧ Below w.heap.size w w' := by
  have HC : Hid (∀ w', Below w.heap.size w w' → SlP w' w'.heap.size 1 StE vp o.path) := fun w' hb => h.imp hb hb.size fun _ _ _ h => h
  obtain ⟨A, c, rfl, _⟩ := h
  have hb0 : Below w.heap.size w (w.alloc (.cells #[.slice A o.path.length c, .int .i64 o.act, .string o.s, .int .i64 o.n] 80)) := (Below.refl _ w).alloc (Nat.le_refl _) _
  go_enter Tryz.func84, Tryz.ntmps84
  go_wp2_with fail
  refine (check_any o _ _ (HC.out _ hb0) ho).mono ?_
  rintro e w1 ⟨rfl, hb1⟩
  have hB := hb0.trans (hb1.mono (by simp))
  clear hb0 hb1
  go_wp2_with fail
  go_ret
  exact ⟨ret_bool (by rw [Bool.eq_iff_iff]; simp), hB⟩
end Go.Proofs.YtmphgnjodangcaaGreat

namespace Go.Proofs.YtmphgnjodangcaaGreat
open Go.RowKit
set_option maxRecDepth 100000

/-- A box of three cells that holds what is known, in a world come of V above m. -/
def Box3 (m : Nat) (V : World) (e : TypeId) (T : Tr) (c : List Sp) (s : Value) (wx : World) : Prop :=
  ∃ g u v x, s = .pointer (some ⟨g, 0, none⟩) ∧ wx.heap[g]? = some (.cells #[u, v, x] e (0, 0)) ∧ T.rd wx wx.heap.size u v ∧ SlP wx wx.heap.size 3 SpE x c ∧ Below m V wx
theorem z_new {w1 w7 : World} {a : Array Value} {e : TypeId} (hb : Below (w1.alloc (.cells a e (0, 0))).heap.size (w1.alloc (.cells a e (0, 0))) w7) : w7.heap[w1.heap.size]? = some (.cells a e (0, 0)) := (hb.block _ (by simp)).trans (heap_new rfl)
theorem z_new2 {w1 w7 : World} {o : Obj} {a : Array Value} {e : TypeId} (hb : Below ((w1.alloc o).alloc (.cells a e (0, 0))).heap.size ((w1.alloc o).alloc (.cells a e (0, 0))) w7) : w7.heap[w1.heap.size + 1]? = some (.cells a e (0, 0)) := (hb.block _ (by simp)).trans (heap_new (by simp))
theorem z_newD {w1 w7 : World} {a : Array Value} {e : TypeId} (hb : Below (w1.alloc (.cells a e (0, 0))).drew.heap.size (w1.alloc (.cells a e (0, 0))).drew w7) : w7.heap[w1.heap.size]? = some (.cells a e (0, 0)) := (hb.block _ (by simp)).trans (heap_new (w := w1) rfl)
theorem z_new2D {w1 w7 : World} {o : Obj} {a : Array Value} {e : TypeId} (hb : Below ((w1.alloc o).alloc (.cells a e (0, 0))).drew.heap.size ((w1.alloc o).alloc (.cells a e (0, 0))).drew w7) : w7.heap[w1.heap.size + 1]? = some (.cells a e (0, 0)) := (hb.block _ (by simp)).trans (heap_new (w := w1.alloc o) (by simp))
end Go.Proofs.YtmphgnjodangcaaGreat

namespace Go.Proofs.YtmphgnjodangcaaGreat
open Go.RowKit
set_option maxRecDepth 100000

/-- What one lies as: its tree and its context. -/
def CaE (w : World) (B : Nat) (x : Tr × List Sp) (cs : List Value) : Prop := ∃ ve vk vc, cs = [ve, vk, vc] ∧ x.1.rd w B ve vk ∧ SlP w B 3 SpE vc x.2
end Go.Proofs.YtmphgnjodangcaaGreat

namespace Go.Proofs.YtmphgnjodangcaaGreat
open Go.RowKit
set_option maxRecDepth 100000

theorem Calls.boolEq {P : Program} {f : FuncId} {args : Array Value} {w : World} {b c : Bool} (h : Calls P f args w fun e w' => e = .returned (.bool b) ∧ Below w.heap.size w w') (hb : b = c) : Calls P f args w fun e w' => e = .returned (.bool c) ∧ Below w.heap.size w w' := hb ▸ h
end Go.Proofs.YtmphgnjodangcaaGreat

namespace Go.Proofs.YtmphgnjodangcaaGreat
open Go.RowKit
set_option maxRecDepth 100000

/-- What is read of a tree that stands at a path of a kind. -/
def viewK (k : Int) (x : Tr) : Vw := ⟨k, if k = 1 then onB x else false, if k = 3 then valT x else 0, if k = 2 then elemsOf x else if k = 4 then valsOf x else if k = 5 then keysOf x else []⟩
def readI (t : Tr) (p : List ByteArray) : Int := if !t.right 5 then 1 else pathI p
def vw0 : Vw := ⟨0, false, 0, []⟩
def readV (t : Tr) (p : List ByteArray) : Vw := if readI t p = 0 then viewK (kindB (lastK p)) (getK t p) else vw0
theorem mem_getP : ∀ (p : List ByteArray) {t : Tr}, t.Ord → ∀ {qs : List ByteArray} {e : En}, ((qs, e) : Lf) ∈ (getK t p).lvs [] ↔ ((p ++ qs, e) : Lf) ∈ t.lvs []
  | [], _, _, _, _ => Iff.rfl
  | k :: p, t, h, qs, e => by
    show ((qs, e) : Lf) ∈ (getK (kidT t k) p).lvs [] ↔ _
    rw [mem_getP p (kidT_ord h k), mem_kidT h]; rfl
theorem getP_dots {t : Tr} (h : t.Ord) {p : List ByteArray} {x : Dt} : x ∈ (getK t p).dots ↔ ∃ q e, ((p ++ q, e) : Lf) ∈ t.lvs [] ∧ e.dot = x := by
  rw [mem_dots]
  exact ⟨fun ⟨q, e, h1, h2⟩ => ⟨q, e, (mem_getP p h).1 h1, h2⟩, fun ⟨q, e, h1, h2⟩ => ⟨q, e, (mem_getP p h).2 h1, h2⟩⟩
theorem own_at {t : Tr} (h : t.Ord) {p : List ByteArray} {x : Dt} : x ∈ ownD (getK t p) ↔ ∃ e, ((p, e) : Lf) ∈ t.lvs [] ∧ e.dot = x := by
  unfold ownD
  rw [List.mem_map]
  constructor
  · rintro ⟨e, h1, h2⟩
    have := (mem_getP p h).1 (mem_es.2 h1)
    rw [List.append_nil] at this
    exact ⟨e, this, h2⟩
  · rintro ⟨e, h1, h2⟩
    exact ⟨e, mem_es.1 ((mem_getP p h).2 (by rw [List.append_nil]; exact h1)), h2⟩
/-- What a change has seen stands below its path. -/
theorem sees_at {t : Tr} (h : t.Ord) {o : Opr} {x : Dt} (hx : x ∈ seesD t o) : ∃ q e, ((o.path ++ q, e) : Lf) ∈ t.lvs [] ∧ e.dot = x := by
  unfold seesD at hx
  split at hx
  · obtain ⟨q, e, h1, h2⟩ := (getP_dots h).1 hx
    exact ⟨o.s :: q, e, by rw [List.append_assoc] at h1; exact h1, h2⟩
  · split at hx
    · cases hx
    · split at hx
      · obtain ⟨e, h1, h2⟩ := (own_at h).1 hx
        exact ⟨[], e, by rw [List.append_nil]; exact h1, h2⟩
      · exact (getP_dots h).1 hx
theorem sees_len (t : Tr) (o : Opr) : (seesD t o).length ≤ t.sz := by
  have h1 := fun p => Nat.le_trans (dots_len (getK t p)) (getK_szle t p)
  unfold seesD
  split
  · exact h1 _
  · split
    · exact Nat.zero_le _
    · split
      · have h2 := es_sz (getK t o.path)
        have h3 := getK_szle t o.path
        unfold ownD
        rw [List.length_map]; omega
      · exact h1 _
theorem app_ok {t : Tr} {o : Opr} {d : Dt} (h : appI t o d = 0) : t.right 5 = true ∧ OpOk o ∧ chkT t d = true ∧ fullB t o = false := by
  unfold appI at h
  split at h
  · cases h
  · rename_i h1
    split at h
    · rename_i h2; exact absurd h h2
    · rename_i h2
      split at h
      · cases h
      · rename_i h3
        split at h
        · cases h
        · rename_i h4
          exact ⟨by simpa using h1, op_ok (by simpa using h2), by simpa using h3, by simpa using h4⟩
/-- What is made of a tree is right. -/
theorem app_right {t : Tr} {o : Opr} {d : Dt} (h : appI t o d = 0) : CaOk (appT t o d) (appC t o d) ∧ (appT t o d).sz ≤ 5 := by
  obtain ⟨h1, h2, h3, _⟩ := app_ok h
  obtain ⟨g1, g2, g3⟩ := chkT_dots h3
  obtain ⟨_, k2, k3, _⟩ := end_keys h2
  have hap := apart_ctxOf (appC_ok (o := o) g1 g2)
  have hC : appC t o d = ctxOf (d :: seesD t o) := by unfold appC; rw [if_pos h]
  rw [hC]
  unfold appT
  cases he : entryB o.act
  · rw [if_neg (by simp)]
    exact ⟨nil_ok hap, by simp [Tr.sz, Tr.szL]⟩
  · rw [if_pos ⟨h, rfl⟩]
    refine ⟨pathT_ok k2 k3 (ent_right h2 g2) hap ?_, by rw [pathT_sz]; omega⟩
    show hasC (ctxOf (d :: seesD t o)) d = true
    rw [ctxOf_has (appC_ok g1 g2)]; simp
theorem app_has {t : Tr} {o : Opr} {d : Dt} (h : appI t o d = 0) (x : Dt) : hasC (appC t o d) x = decide (x = d ∨ x ∈ seesD t o) := by
  obtain ⟨_, h2, h3, _⟩ := app_ok h
  obtain ⟨g1, g2, g3⟩ := chkT_dots h3
  unfold appC
  rw [if_pos h, ctxOf_has (appC_ok g1 g2)]
  simp [List.mem_cons]
theorem app_st {t : Tr} {o : Opr} {d : Dt} (h : appI t o d = 0) (p : List ByteArray) (x : Dt) : stE (appT t o d) p x = if entryB o.act = true ∧ p = endP o ∧ x = d then some (entE o d) else none := by
  obtain ⟨_, h2, h3, _⟩ := app_ok h
  obtain ⟨_, k2, _, _⟩ := end_keys h2
  unfold appT
  cases he : entryB o.act
  · rw [if_neg (by simp), if_neg (by simp), stE_nil]
  · rw [if_pos ⟨h, rfl⟩, pathT_st k2]
    have hd : (entE o d).dot = d := rfl
    rw [hd]
    simp
theorem kind_le (k : ByteArray) : 0 ≤ kindB k ∧ kindB k ≤ 5 := by
  unfold kindB
  split
  · omega
  · repeat' split
    all_goals omega
theorem path_kind {p : List ByteArray} (h : pathI p = 0) : 1 ≤ kindB (lastK p) ∧ kindB (lastK p) ≤ 5 := by
  obtain ⟨h1, _, h3, _⟩ := path_ok h
  have h4 := h3 _ (List.mem_of_getElem? (last_at h1))
  unfold badKey at h4
  rw [Bool.or_eq_false_iff] at h4
  have h5 := of_decide_eq_false h4.2
  have h6 := kind_le (lastK p)
  omega
end Go.Proofs.YtmphgnjodangcaaGreat
