/- What the laws need, part 4: ormap.Update. No condition but that there is not too much. tributarylaw14.awake answers true. No condition. ormap.Reset. No condition but that there are not too many entries. Small facts on contexts of dots. No condition. The law OrmapResets answers true. No condition. set.check, set.has, set.seen. No condition but that there are not too many entries. set.Del. No condition but that there are not too many entries. set.Add. No condition but that there are not too many entries. tributarylaw11.awake answers true. No condition. tributarylaw11.small, may, seen. No condition but that there are not too many entries. The law SetElems answers true. No condition. The laws SetAdds and SetDels answer true. No condition. The data that a law is given, read as the plain types: dots, entries, trees. No condition. The frame of a law: its answer is true, and its arguments read as before. No condition. A law's argument that is a text. No condition. -/
import Derived.Deep.Slices
import Derived.ProofKit
import Derived.SizedLaws
import Derived.Test.YtdcmjmcipgadlaaGreatProg
import Derived.Test.YtdcmjmcipgadlaaGreatRows
import Derived.Test.YtdcmjmcipgadlaaGreatSe3
namespace Go.Proofs.YtdcmjmcipgadlaaGreat
open Go.RowKit
set_option maxRecDepth 100000

/-- What ormap.Update tells: the error's number, the tree, the context. -/
def updE (t : Tr) (key : ByteArray) (D : Tr) (c : List Sp) : Int :=
  if !(t.right 5) || !caR D c || !keyB key then 1 else if !empB D.es.length D.ks.length && decide (24 ≤ t.ks.length) && !(t.ks.any fun y => decide (y.1 = key)) then 4 else wrapE D key
def updT (t : Tr) (key : ByteArray) (D : Tr) (c : List Sp) : Tr := if updE t key D c = 0 then wrapT D key else .mk [] []
def updC (t : Tr) (key : ByteArray) (D : Tr) (c : List Sp) : List Sp := if updE t key D c = 0 then c else []

theorem cell_box3n {w3 : World} {b : Nat} {x0 x1 x2 : Value} {a : Addr} {v : Value} (hne : b ≠ a.block) (h : w3.cell? a = some v) :
    (((w3.setCell ⟨b, 0, none⟩ x0).setCell ⟨b, 1, none⟩ x1).setCell ⟨b, 2, none⟩ x2).cell? a = some v := by
  rw [World.cell?_setCell_far _ _ _ _ hne, World.cell?_setCell_far _ _ _ _ hne, World.cell?_setCell_far _ _ _ _ hne]; exact h
set_option maxHeartbeats 4000000 in
theorem oupdate_any (t D : Tr) (c : List Sp) (key : ByteArray) (ve vk xe xk xc : Value) (w : World) (h : t.rd w w.heap.size ve vk) (hD : D.rd w w.heap.size xe xk) (hc : SlP w w.heap.size 3 SpE xc c) (hkey : key.size ≤ Big) (hN : t.sz ≤ 4000) (hN' : D.sz ≤ 4000) (hN2 : c.length ≤ 20000) :
    Calls Tryz.prog 17 #[.agg #[ve, vk], .string key, .agg #[xe, xk, xc]] w (RetCE w (updT t key D c) (updC t key D c) (updE t key D c)) := by
  have HT : Hid (∀ w', Below w.heap.size w w' → t.rd w' w'.heap.size ve vk) := fun w' hb => rd_below hb hb.size _ _ _ h
  have HD : Hid (∀ w', Below w.heap.size w w' → D.rd w' w'.heap.size xe xk) := fun w' hb => rd_below hb hb.size _ _ _ hD
  have HC : Hid (∀ w', Below w.heap.size w w' → SlP w' w'.heap.size 3 SpE xc c) := fun w' hb => hc.imp hb hb.size fun _ _ _ h => h
  have HKS : Hid (∀ w', Below w.heap.size w w' → SlP w' w'.heap.size 3 (KdE w' w'.heap.size) vk t.ks) := fun w' hb => by
    have := HT.out w' hb; obtain ⟨es, ks⟩ := t; exact (rd_iff.1 this).2
  obtain ⟨A3, n3, A4, n4, rfl, rfl⟩ := rd_shape h
  obtain ⟨A5, n5, A6, n6, rfl, rfl⟩ := rd_shape hD
  obtain ⟨A7, n7, rfl, _⟩ := hc
  have hkb : key.size ≤ 140737488355328 := hkey
  clear h hD
  have hb0 : Below w.heap.size w ((((w.alloc (.cells #[.slice A3 t.es.length n3, .slice A4 t.ks.length n4] 25)).alloc (.cells #[.string key] 9)).alloc (.cells #[.slice A5 D.es.length n5, .slice A6 D.ks.length n6, .slice A7 c.length n7] 29)).alloc (.cells #[.slice none 0 0, .slice none 0 0, .slice none 0 0] 29)) :=
    ((((Below.refl _ w).alloc (Nat.le_refl _) _).alloc (by simp) _).alloc (by simp <;> omega) _).alloc (by simp <;> omega) _
  have HW : Hid (∀ w', Below (w.heap.size + 4) ((((w.alloc (.cells #[.slice A3 t.es.length n3, .slice A4 t.ks.length n4] 25)).alloc (.cells #[.string key] 9)).alloc (.cells #[.slice A5 D.es.length n5, .slice A6 D.ks.length n6, .slice A7 c.length n7] 29)).alloc (.cells #[.slice none 0 0, .slice none 0 0, .slice none 0 0] 29)) w' →
      Below w.heap.size w w' ∧ w.heap.size + 4 ≤ w'.heap.size ∧ w'.heap[w.heap.size]? = some (.cells #[.slice A3 t.es.length n3, .slice A4 t.ks.length n4] 25 (0, 0)) ∧ w'.heap[w.heap.size + 1]? = some (.cells #[.string key] 9 (0, 0)) ∧
      w'.heap[w.heap.size + 2]? = some (.cells #[.slice A5 D.es.length n5, .slice A6 D.ks.length n6, .slice A7 c.length n7] 29 (0, 0)) ∧ w'.heap[w.heap.size + 3]? = some (.cells #[.slice none 0 0, .slice none 0 0, .slice none 0 0] 29 (0, 0))) := fun w' hb =>
    ⟨hb0.trans (hb.mono (by omega)), by have := hb.size; simpa using this, (hb.block _ (by omega)).trans ((heap_old (by simp <;> omega)).trans ((heap_old (by simp <;> omega)).trans ((heap_old (by simp)).trans (heap_new rfl)))), (hb.block _ (by omega)).trans ((heap_old (by simp <;> omega)).trans ((heap_old (by simp)).trans (heap_new (by simp)))), (hb.block _ (by omega)).trans ((heap_old (by simp)).trans (heap_new (by simp))), (hb.block _ (by omega)).trans (heap_new (by simp))⟩
  go_enter Tryz.func17, Tryz.ntmps17
  go_wp2_with fail
  refine (tRight_any t _ _ _ (HT.out _ hb0)).mono ?_
  rintro e w1 ⟨rfl, hb1⟩
  have hb1' := hid (hb1.mono (show w.heap.size + 4 ≤ _ by simp))
  obtain ⟨hB1, hs1, g3, g4, g5, g6⟩ := HW.out _ hb1'.out
  have HG6 := hid g6
  have c0 : w1.cell? ⟨w.heap.size, 0, none⟩ = some (.slice A3 t.es.length n3) := cell_cells (i := 0) g3
  have c1 : w1.cell? ⟨w.heap.size, 1, none⟩ = some (.slice A4 t.ks.length n4) := cell_cells (i := 1) g3
  have d0 : w1.cell? ⟨w.heap.size + 1, 0, none⟩ = some (.string key) := cell_cells (i := 0) g4
  have e0 : w1.cell? ⟨w.heap.size + 2, 0, none⟩ = some (.slice A5 D.es.length n5) := cell_cells (i := 0) g5
  have e1 : w1.cell? ⟨w.heap.size + 2, 1, none⟩ = some (.slice A6 D.ks.length n6) := cell_cells (i := 1) g5
  have e2 : w1.cell? ⟨w.heap.size + 2, 2, none⟩ = some (.slice A7 c.length n7) := cell_cells (i := 2) g5
  have k0 : w1.cell? ⟨w.heap.size + 3, 0, none⟩ = some (.slice none 0 0) := cell_cells (i := 0) g6
  have k1 : w1.cell? ⟨w.heap.size + 3, 1, none⟩ = some (.slice none 0 0) := cell_cells (i := 1) g6
  have k2 : w1.cell? ⟨w.heap.size + 3, 2, none⟩ = some (.slice none 0 0) := cell_cells (i := 2) g6
  have z0 := cells_frz (i := 0) g6
  have z1 := cells_frz (i := 1) g6
  have z2 := cells_frz (i := 2) g6
  clear g3 g4 g5 g6
  clear hb1
  cases hr : t.right 5
  · have HE : Hid (updE t key D c = 1) := by unfold Hid updE; rw [hr]; rfl
    have HTT : Hid (updT t key D c = .mk [] []) := by unfold Hid updT; rw [HE.out]; rfl
    have HCC : Hid (updC t key D c = []) := by unfold Hid updC; rw [HE.out]; rfl
    clear hr
    go_wp2_with fail
    obtain ⟨r0, r1, r2, hK, hS⟩ := box3 HG6.out (.slice none 0 0) (.slice none 0 0) (.slice none 0 0)
    have hBW := ((hB1.setCell (p := ⟨w.heap.size + 3, 0, none⟩) (by simp) (.slice none 0 0)).setCell (p := ⟨w.heap.size + 3, 1, none⟩) (by simp) (.slice none 0 0)).setCell (p := ⟨w.heap.size + 3, 2, none⟩) (by simp) (.slice none 0 0)
    refine bodyPost_ret (v := .tuple #[.agg #[.slice none 0 0, .slice none 0 0, .slice none 0 0], .int .i64 1]) (by simp [results, Tryz.results17, go_sem, r0, r1, r2]) rfl ⟨_, _, _, by rw [HE.out], by rw [HTT.out]; exact rda_nil _ _, by rw [HCC.out]; exact SlA.nil, hBW⟩
  go_wp2_with fail
  refine (caright_any D c _ _ _ w1 (HD.out _ hB1) (HC.out _ hB1) hN' hN2).mono ?_
  rintro e w2 ⟨rfl, hb2⟩
  clear c0 c1 d0 e0 e1 e2 k0 k1 k2 z0 z1 z2 HG6
  have hb2' := hid (hb1'.out.trans (hb2.mono hs1))
  obtain ⟨hB2, hs2, g3, g4, g5, g6⟩ := HW.out _ hb2'.out
  have HG6 := hid g6
  have c0 : w2.cell? ⟨w.heap.size, 0, none⟩ = some (.slice A3 t.es.length n3) := cell_cells (i := 0) g3
  have c1 : w2.cell? ⟨w.heap.size, 1, none⟩ = some (.slice A4 t.ks.length n4) := cell_cells (i := 1) g3
  have d0 : w2.cell? ⟨w.heap.size + 1, 0, none⟩ = some (.string key) := cell_cells (i := 0) g4
  have e0 : w2.cell? ⟨w.heap.size + 2, 0, none⟩ = some (.slice A5 D.es.length n5) := cell_cells (i := 0) g5
  have e1 : w2.cell? ⟨w.heap.size + 2, 1, none⟩ = some (.slice A6 D.ks.length n6) := cell_cells (i := 1) g5
  have e2 : w2.cell? ⟨w.heap.size + 2, 2, none⟩ = some (.slice A7 c.length n7) := cell_cells (i := 2) g5
  have k0 : w2.cell? ⟨w.heap.size + 3, 0, none⟩ = some (.slice none 0 0) := cell_cells (i := 0) g6
  have k1 : w2.cell? ⟨w.heap.size + 3, 1, none⟩ = some (.slice none 0 0) := cell_cells (i := 1) g6
  have k2 : w2.cell? ⟨w.heap.size + 3, 2, none⟩ = some (.slice none 0 0) := cell_cells (i := 2) g6
  have z0 := cells_frz (i := 0) g6
  have z1 := cells_frz (i := 1) g6
  have z2 := cells_frz (i := 2) g6
  clear g3 g4 g5 g6
  clear hb2
  cases hq : caR D c
  · have HE : Hid (updE t key D c = 1) := by unfold Hid updE; rw [hr, hq]; rfl
    have HTT : Hid (updT t key D c = .mk [] []) := by unfold Hid updT; rw [HE.out]; rfl
    have HCC : Hid (updC t key D c = []) := by unfold Hid updC; rw [HE.out]; rfl
    clear hr hq
    go_wp2_with fail
    obtain ⟨r0, r1, r2, hK, hS⟩ := box3 HG6.out (.slice none 0 0) (.slice none 0 0) (.slice none 0 0)
    have hBW := ((hB2.setCell (p := ⟨w.heap.size + 3, 0, none⟩) (by simp) (.slice none 0 0)).setCell (p := ⟨w.heap.size + 3, 1, none⟩) (by simp) (.slice none 0 0)).setCell (p := ⟨w.heap.size + 3, 2, none⟩) (by simp) (.slice none 0 0)
    refine bodyPost_ret (v := .tuple #[.agg #[.slice none 0 0, .slice none 0 0, .slice none 0 0], .int .i64 1]) (by simp [results, Tryz.results17, go_sem, r0, r1, r2]) rfl ⟨_, _, _, by rw [HE.out], by rw [HTT.out]; exact rda_nil _ _, by rw [HCC.out]; exact SlA.nil, hBW⟩
  cases kb : keyB key
  · have hkb2 : ¬ (1 ≤ key.size ∧ key.size ≤ 30) := by simpa [keyB] using kb
    have HE : Hid (updE t key D c = 1) := by unfold Hid updE; rw [hr, hq, kb]; rfl
    have HTT : Hid (updT t key D c = .mk [] []) := by unfold Hid updT; rw [HE.out]; rfl
    have HCC : Hid (updC t key D c = []) := by unfold Hid updC; rw [HE.out]; rfl
    clear hr hq kb
    by_cases hz : key.size < 1
    · have t1 : decide ((key.size : Int) < 1) = true := by simp; omega
      go_wp2_with fail
      obtain ⟨r0, r1, r2, hK, hS⟩ := box3 HG6.out (.slice none 0 0) (.slice none 0 0) (.slice none 0 0)
      have hBW := ((hB2.setCell (p := ⟨w.heap.size + 3, 0, none⟩) (by simp) (.slice none 0 0)).setCell (p := ⟨w.heap.size + 3, 1, none⟩) (by simp) (.slice none 0 0)).setCell (p := ⟨w.heap.size + 3, 2, none⟩) (by simp) (.slice none 0 0)
      refine bodyPost_ret (v := .tuple #[.agg #[.slice none 0 0, .slice none 0 0, .slice none 0 0], .int .i64 1]) (by simp [results, Tryz.results17, go_sem, r0, r1, r2]) rfl ⟨_, _, _, by rw [HE.out], by rw [HTT.out]; exact rda_nil _ _, by rw [HCC.out]; exact SlA.nil, hBW⟩
    · have t1 : decide ((key.size : Int) < 1) = false := by simp; omega
      have t2 : decide ((30 : Int) < key.size) = true := by simp; omega
      go_wp2_with fail
      obtain ⟨r0, r1, r2, hK, hS⟩ := box3 HG6.out (.slice none 0 0) (.slice none 0 0) (.slice none 0 0)
      have hBW := ((hB2.setCell (p := ⟨w.heap.size + 3, 0, none⟩) (by simp) (.slice none 0 0)).setCell (p := ⟨w.heap.size + 3, 1, none⟩) (by simp) (.slice none 0 0)).setCell (p := ⟨w.heap.size + 3, 2, none⟩) (by simp) (.slice none 0 0)
      refine bodyPost_ret (v := .tuple #[.agg #[.slice none 0 0, .slice none 0 0, .slice none 0 0], .int .i64 1]) (by simp [results, Tryz.results17, go_sem, r0, r1, r2]) rfl ⟨_, _, _, by rw [HE.out], by rw [HTT.out]; exact rda_nil _ _, by rw [HCC.out]; exact SlA.nil, hBW⟩
  have hkb2 : 1 ≤ key.size ∧ key.size ≤ 30 := by simpa [keyB] using kb
  have t1 : decide ((key.size : Int) < 1) = false := by simp; omega
  have t2 : decide ((30 : Int) < key.size) = false := by simp; omega
  go_wp2_with fail
  refine (conKid_any (fun y => decide (y = key)) _ _ t.ks _ w2 (HKS.out _ hB2) (updTest d0 (by omega))).mono ?_
  rintro e w3 ⟨rfl, hb3⟩
  clear c0 c1 d0 e0 e1 e2 k0 k1 k2 z0 z1 z2 HG6
  have hb3' := hid (hb2'.out.trans (hb3.mono hs2))
  obtain ⟨hB3, hs3, g3, g4, g5, g6⟩ := HW.out _ hb3'.out
  have HG6 := hid g6
  have c0 : w3.cell? ⟨w.heap.size, 0, none⟩ = some (.slice A3 t.es.length n3) := cell_cells (i := 0) g3
  have c1 : w3.cell? ⟨w.heap.size, 1, none⟩ = some (.slice A4 t.ks.length n4) := cell_cells (i := 1) g3
  have d0 : w3.cell? ⟨w.heap.size + 1, 0, none⟩ = some (.string key) := cell_cells (i := 0) g4
  have e0 : w3.cell? ⟨w.heap.size + 2, 0, none⟩ = some (.slice A5 D.es.length n5) := cell_cells (i := 0) g5
  have e1 : w3.cell? ⟨w.heap.size + 2, 1, none⟩ = some (.slice A6 D.ks.length n6) := cell_cells (i := 1) g5
  have e2 : w3.cell? ⟨w.heap.size + 2, 2, none⟩ = some (.slice A7 c.length n7) := cell_cells (i := 2) g5
  have k0 : w3.cell? ⟨w.heap.size + 3, 0, none⟩ = some (.slice none 0 0) := cell_cells (i := 0) g6
  have k1 : w3.cell? ⟨w.heap.size + 3, 1, none⟩ = some (.slice none 0 0) := cell_cells (i := 1) g6
  have k2 : w3.cell? ⟨w.heap.size + 3, 2, none⟩ = some (.slice none 0 0) := cell_cells (i := 2) g6
  have z0 := cells_frz (i := 0) g6
  have z1 := cells_frz (i := 1) g6
  have z2 := cells_frz (i := 2) g6
  clear g3 g4 g5 g6
  clear hb3
  go_wp2_with fail
  refine (tempty_any D.es.length D.ks.length A5 A6 n5 n6 w3).mono ?_
  rintro e w4 ⟨rfl, hb4⟩
  clear c0 c1 d0 e0 e1 e2 k0 k1 k2 z0 z1 z2 HG6
  have hb4' := hid (hb3'.out.trans (hb4.mono hs3))
  obtain ⟨hB4, hs4, g3, g4, g5, g6⟩ := HW.out _ hb4'.out
  have HG6 := hid g6
  have c0 : w4.cell? ⟨w.heap.size, 0, none⟩ = some (.slice A3 t.es.length n3) := cell_cells (i := 0) g3
  have c1 : w4.cell? ⟨w.heap.size, 1, none⟩ = some (.slice A4 t.ks.length n4) := cell_cells (i := 1) g3
  have d0 : w4.cell? ⟨w.heap.size + 1, 0, none⟩ = some (.string key) := cell_cells (i := 0) g4
  have e0 : w4.cell? ⟨w.heap.size + 2, 0, none⟩ = some (.slice A5 D.es.length n5) := cell_cells (i := 0) g5
  have e1 : w4.cell? ⟨w.heap.size + 2, 1, none⟩ = some (.slice A6 D.ks.length n6) := cell_cells (i := 1) g5
  have e2 : w4.cell? ⟨w.heap.size + 2, 2, none⟩ = some (.slice A7 c.length n7) := cell_cells (i := 2) g5
  have k0 : w4.cell? ⟨w.heap.size + 3, 0, none⟩ = some (.slice none 0 0) := cell_cells (i := 0) g6
  have k1 : w4.cell? ⟨w.heap.size + 3, 1, none⟩ = some (.slice none 0 0) := cell_cells (i := 1) g6
  have k2 : w4.cell? ⟨w.heap.size + 3, 2, none⟩ = some (.slice none 0 0) := cell_cells (i := 2) g6
  have z0 := cells_frz (i := 0) g6
  have z1 := cells_frz (i := 1) g6
  have z2 := cells_frz (i := 2) g6
  clear g3 g4 g5 g6
  clear hb4
  have hfi : decide ((24 : Int) ≤ (t.ks.length : Int)) = decide (24 ≤ t.ks.length) := by rw [Bool.eq_iff_iff]; simp; omega
  cases em : empB D.es.length D.ks.length
  · cases fl : decide (24 ≤ t.ks.length)
    · have HE0 : Hid (updE t key D c = wrapE D key) := by unfold Hid updE; rw [hr, hq, kb, em, fl]; simp
      rw [fl] at hfi
      clear em fl
      clear hr hq kb
      go_wp2_with fail
      refine (twrap_any D key _ _ _ _ (HD.out _ (hB4.alloc (by omega) _)) (SlP.oneB (x := key) (cs := [.string key]) ⟨rfl, hkey⟩ rfl _ rfl (by simp)) (by omega)).mono ?_
      rintro e w5 ⟨v5, u5, rfl, hrd5, hb5⟩
      obtain ⟨A8, n8, A9, n9, rfl, rfl⟩ := rda_shape hrd5
      clear c0 c1 d0 e0 e1 e2 k0 k1 k2 z0 z1 z2 HG6
      have hb5' := hid (hb4'.out.trans ((((Below.refl w4.heap.size w4).alloc (Nat.le_refl _) _).trans (hb5.mono (show w4.heap.size ≤ _ by simp))).mono hs4))
      obtain ⟨hB5, hs5, g3, g4, g5, g6⟩ := HW.out _ hb5'.out
      have HG6 := hid g6
      have c0 : w5.cell? ⟨w.heap.size, 0, none⟩ = some (.slice A3 t.es.length n3) := cell_cells (i := 0) g3
      have c1 : w5.cell? ⟨w.heap.size, 1, none⟩ = some (.slice A4 t.ks.length n4) := cell_cells (i := 1) g3
      have d0 : w5.cell? ⟨w.heap.size + 1, 0, none⟩ = some (.string key) := cell_cells (i := 0) g4
      have e0 : w5.cell? ⟨w.heap.size + 2, 0, none⟩ = some (.slice A5 D.es.length n5) := cell_cells (i := 0) g5
      have e1 : w5.cell? ⟨w.heap.size + 2, 1, none⟩ = some (.slice A6 D.ks.length n6) := cell_cells (i := 1) g5
      have e2 : w5.cell? ⟨w.heap.size + 2, 2, none⟩ = some (.slice A7 c.length n7) := cell_cells (i := 2) g5
      have k0 : w5.cell? ⟨w.heap.size + 3, 0, none⟩ = some (.slice none 0 0) := cell_cells (i := 0) g6
      have k1 : w5.cell? ⟨w.heap.size + 3, 1, none⟩ = some (.slice none 0 0) := cell_cells (i := 1) g6
      have k2 : w5.cell? ⟨w.heap.size + 3, 2, none⟩ = some (.slice none 0 0) := cell_cells (i := 2) g6
      have z0 := cells_frz (i := 0) g6
      have z1 := cells_frz (i := 1) g6
      have z2 := cells_frz (i := 2) g6
      clear g3 g4 g5 g6
      have hs5' := hb5.size
      simp only [World.size_alloc] at hs5'
      clear hb5
      have hlt3 : w.heap.size + 3 < w5.heap.size := by omega
      have hne3 : w.heap.size + 3 ≠ w5.heap.size := by omega
      have hlt2 : w.heap.size + 2 < w5.heap.size := by omega
      have hne2 : w.heap.size + 2 ≠ w5.heap.size := by omega
      have hw3 : wrapE D key = 0 ∨ wrapE D key = 1 ∨ wrapE D key = 10 := by unfold wrapE; split <;> (try split) <;> simp
      have HTX : Hid (updT t key D c = if wrapE D key = 0 then wrapT D key else .mk [] []) := by unfold Hid updT; rw [HE0.out]
      have HCX : Hid (updC t key D c = if wrapE D key = 0 then c else []) := by unfold Hid updC; rw [HE0.out]
      rw [HE0.out]
      generalize wrapE D key = K at *
      generalize wrapT D key = T at *
      rcases hw3 with rfl | rfl | rfl
      · have HX : Hid (∀ w', Below (w5.heap.size + 1) (w5.alloc (.cells #[.slice A8 T.es.length n8, .slice A9 T.ks.length n9] 25)) w' → Below w5.heap.size w5 w' ∧ (w'.cell? ⟨w.heap.size + 2, 2, none⟩ = some (.slice A7 c.length n7) ∧ w'.cell? ⟨w5.heap.size, 0, none⟩ = some (.slice A8 T.es.length n8) ∧ w'.cell? ⟨w5.heap.size, 1, none⟩ = some (.slice A9 T.ks.length n9))) := fun w' hb => by
          have hB : Below w5.heap.size w5 w' := ((Below.refl _ w5).alloc (Nat.le_refl _) _).trans (hb.mono (by omega))
          refine ⟨hB, (hB.cell (p := ⟨w.heap.size + 2, 2, none⟩) (by show w.heap.size + 2 < _; omega)).trans e2, ?_, ?_⟩
          · rw [hb.cell (p := ⟨w5.heap.size, 0, none⟩) (by simp), World.cell?_alloc_new]; rfl
          · rw [hb.cell (p := ⟨w5.heap.size, 1, none⟩) (by simp), World.cell?_alloc_new]; rfl
        clear c0 c1 d0 e0 e1 k0 k1 k2 z0 z1 z2
        go_upto_region 9 with (fail)
        go_region_held3 (fun w' => w'.cell? ⟨w.heap.size + 2, 2, none⟩ = some (.slice A7 c.length n7) ∧ w'.cell? ⟨w5.heap.size, 0, none⟩ = some (.slice A8 T.es.length n8) ∧ w'.cell? ⟨w5.heap.size, 1, none⟩ = some (.slice A9 T.ks.length n9))
          (first | go_keep | exact (HX.out _ hbx.out).2 | exact ⟨cell_box3n (by simp) (HX.out _ hbx.out).2.1, cell_box3n (by show w.heap.size + 3 ≠ _; omega) (HX.out _ hbx.out).2.2.1, cell_box3n (by show w.heap.size + 3 ≠ _; omega) (HX.out _ hbx.out).2.2.2⟩)
          (first | (go_at_call 71; go_loud ((refine (cloneC_any c _ _ (HC.out _ ((hB5.alloc (by omega) _).drew)) (by unfold Few; omega)).mono ?_); rintro e w6 ⟨v6, rfl, ho6, hb6⟩; obtain ⟨A10, c10, hv6⟩ := ho6.shape; subst hv6; have HO6 := hid ho6; have hbx : Hid (Below (w5.heap.size + 1) (w5.alloc (.cells #[.slice A8 T.es.length n8, .slice A9 T.ks.length n9] 25)) w6) := (((Below.refl (w5.heap.size + 1) (w5.alloc (.cells #[.slice A8 T.es.length n8, .slice A9 T.ks.length n9] 25))).drew).trans (hb6.mono (by simp))); have hby := hid (HX.out _ hbx.out).1; have hs6 : w5.heap.size + 1 ≤ w6.heap.size := (by have := hbx.out.size; simpa using this); have HGx := hid ((hby.out.block (w.heap.size + 3) (by omega)).trans HG6.out); have k0 : w6.cell? ⟨w.heap.size + 3, 0, none⟩ = some (.slice none 0 0) := cell_cells (i := 0) HGx.out; have k1 : w6.cell? ⟨w.heap.size + 3, 1, none⟩ = some (.slice none 0 0) := cell_cells (i := 1) HGx.out; have k2 : w6.cell? ⟨w.heap.size + 3, 2, none⟩ = some (.slice none 0 0) := cell_cells (i := 2) HGx.out; have z0 := cells_frz (i := 0) HGx.out; have z1 := cells_frz (i := 1) HGx.out; have z2 := cells_frz (i := 2) HGx.out; have hlt6 : w.heap.size + 3 < w6.heap.size := (by omega); have hne6 : w.heap.size + 3 ≠ w6.heap.size := (by omega); clear ho6 hb6)))
        all_goals go_wp2_with fail
        obtain ⟨r0, r1, r2, hK, hS⟩ := box3 HGx.out (.slice A8 T.es.length n8) (.slice A9 T.ks.length n9) (.slice A10 c.length c10)
        have hBW : Below w.heap.size w (((w6.setCell ⟨w.heap.size + 3, 0, none⟩ (.slice A8 T.es.length n8)).setCell ⟨w.heap.size + 3, 1, none⟩ (.slice A9 T.ks.length n9)).setCell ⟨w.heap.size + 3, 2, none⟩ (.slice A10 c.length c10)) := (((hB5.trans (hby.out.mono (by omega))).setCell (by simp) _).setCell (by simp) _).setCell (by simp) _
        clear k0 k1 k2 z0 z1 z2
        generalize (((w6.setCell ⟨w.heap.size + 3, 0, none⟩ (.slice A8 T.es.length n8)).setCell ⟨w.heap.size + 3, 1, none⟩ (.slice A9 T.ks.length n9)).setCell ⟨w.heap.size + 3, 2, none⟩ (.slice A10 c.length c10)) = W at *
        refine bodyPost_ret (v := .tuple #[.agg #[.slice A8 T.es.length n8, .slice A9 T.ks.length n9, .slice A10 c.length c10], .int .i64 0]) (by simp [results, Tryz.results17, go_sem, r0, r1, r2]) rfl ⟨_, _, _, by rw [HE0.out], ?_, ?_, hBW⟩
        · rw [HTX.out, if_pos trivial]
          exact rda_up (fun b hb => (hK b (by have := hb.1; simp only [World.size_alloc] at this; omega)).trans (hby.out.block b hb.2)) (fun b hb => ⟨by have := hb.1; simp only [World.size_alloc] at this; omega, by have := hb.2; omega⟩) _ _ _ hrd5
        · rw [HCX.out, if_pos trivial]
          refine (HO6.out.sla (by unfold Big; omega)).up (fun b hb => hK b (by have := hb.1; simp only [World.size_alloc, World.size_drew] at this; omega)) (fun b hb => ⟨by have := hb.1; simp only [World.size_alloc, World.size_drew] at this; omega, by have := hb.2.1; omega⟩) (fun _ _ _ h => h)
      · go_wp2_with fail
        obtain ⟨r0, r1, r2, hK, hS⟩ := box3 HG6.out (.slice none 0 0) (.slice none 0 0) (.slice none 0 0)
        have hBW : Below w.heap.size w (((w5.setCell ⟨w.heap.size + 3, 0, none⟩ (.slice none 0 0)).setCell ⟨w.heap.size + 3, 1, none⟩ (.slice none 0 0)).setCell ⟨w.heap.size + 3, 2, none⟩ (.slice none 0 0)) := ((hB5.setCell (by simp) _).setCell (by simp) _).setCell (by simp) _
        clear c0 c1 d0 e0 e1 e2 k0 k1 k2 z0 z1 z2
        generalize (((w5.setCell ⟨w.heap.size + 3, 0, none⟩ (.slice none 0 0)).setCell ⟨w.heap.size + 3, 1, none⟩ (.slice none 0 0)).setCell ⟨w.heap.size + 3, 2, none⟩ (.slice none 0 0)) = W at *
        have q0 : (W.alloc (.cells #[.slice A8 T.es.length n8, .slice A9 T.ks.length n9] 25)).cell? ⟨w.heap.size + 1 + 1 + 1, 0, none⟩ = some (.slice none 0 0) := by rw [World.cell?_alloc_lt _ _ _ (by show w.heap.size + 3 < _; omega)]; exact r0
        have q1 : (W.alloc (.cells #[.slice A8 T.es.length n8, .slice A9 T.ks.length n9] 25)).cell? ⟨w.heap.size + 1 + 1 + 1, 1, none⟩ = some (.slice none 0 0) := by rw [World.cell?_alloc_lt _ _ _ (by show w.heap.size + 3 < _; omega)]; exact r1
        have q2 : (W.alloc (.cells #[.slice A8 T.es.length n8, .slice A9 T.ks.length n9] 25)).cell? ⟨w.heap.size + 1 + 1 + 1, 2, none⟩ = some (.slice none 0 0) := by rw [World.cell?_alloc_lt _ _ _ (by show w.heap.size + 3 < _; omega)]; exact r2
        refine bodyPost_ret (v := .tuple #[.agg #[.slice none 0 0, .slice none 0 0, .slice none 0 0], .int .i64 1]) (by simp [results, Tryz.results17, go_sem, q0, q1, q2]) rfl ⟨_, _, _, by rw [HE0.out], by rw [HTX.out, if_neg (by decide)]; exact rda_nil _ _, by rw [HCX.out, if_neg (by decide)]; exact SlA.nil, hBW.alloc (by omega) _⟩
      · go_wp2_with fail
        obtain ⟨r0, r1, r2, hK, hS⟩ := box3 HG6.out (.slice none 0 0) (.slice none 0 0) (.slice none 0 0)
        have hBW : Below w.heap.size w (((w5.setCell ⟨w.heap.size + 3, 0, none⟩ (.slice none 0 0)).setCell ⟨w.heap.size + 3, 1, none⟩ (.slice none 0 0)).setCell ⟨w.heap.size + 3, 2, none⟩ (.slice none 0 0)) := ((hB5.setCell (by simp) _).setCell (by simp) _).setCell (by simp) _
        clear c0 c1 d0 e0 e1 e2 k0 k1 k2 z0 z1 z2
        generalize (((w5.setCell ⟨w.heap.size + 3, 0, none⟩ (.slice none 0 0)).setCell ⟨w.heap.size + 3, 1, none⟩ (.slice none 0 0)).setCell ⟨w.heap.size + 3, 2, none⟩ (.slice none 0 0)) = W at *
        have q0 : (W.alloc (.cells #[.slice A8 T.es.length n8, .slice A9 T.ks.length n9] 25)).cell? ⟨w.heap.size + 1 + 1 + 1, 0, none⟩ = some (.slice none 0 0) := by rw [World.cell?_alloc_lt _ _ _ (by show w.heap.size + 3 < _; omega)]; exact r0
        have q1 : (W.alloc (.cells #[.slice A8 T.es.length n8, .slice A9 T.ks.length n9] 25)).cell? ⟨w.heap.size + 1 + 1 + 1, 1, none⟩ = some (.slice none 0 0) := by rw [World.cell?_alloc_lt _ _ _ (by show w.heap.size + 3 < _; omega)]; exact r1
        have q2 : (W.alloc (.cells #[.slice A8 T.es.length n8, .slice A9 T.ks.length n9] 25)).cell? ⟨w.heap.size + 1 + 1 + 1, 2, none⟩ = some (.slice none 0 0) := by rw [World.cell?_alloc_lt _ _ _ (by show w.heap.size + 3 < _; omega)]; exact r2
        refine bodyPost_ret (v := .tuple #[.agg #[.slice none 0 0, .slice none 0 0, .slice none 0 0], .int .i64 10]) (by simp [results, Tryz.results17, go_sem, q0, q1, q2]) rfl ⟨_, _, _, by rw [HE0.out], by rw [HTX.out, if_neg (by decide)]; exact rda_nil _ _, by rw [HCX.out, if_neg (by decide)]; exact SlA.nil, hBW.alloc (by omega) _⟩
    · rw [fl] at hfi
      cases an : (t.ks.any fun y => decide (y.1 = key))
      · have HE : Hid (updE t key D c = 4) := by unfold Hid updE; rw [hr, hq, kb, em, fl, an]; rfl
        have HTT : Hid (updT t key D c = .mk [] []) := by unfold Hid updT; rw [HE.out]; rfl
        have HCC : Hid (updC t key D c = []) := by unfold Hid updC; rw [HE.out]; rfl
        clear hr hq kb em fl an
        go_wp2_with fail
        obtain ⟨r0, r1, r2, hK, hS⟩ := box3 HG6.out (.slice none 0 0) (.slice none 0 0) (.slice none 0 0)
        have hBW := ((hB4.setCell (p := ⟨w.heap.size + 3, 0, none⟩) (by simp) (.slice none 0 0)).setCell (p := ⟨w.heap.size + 3, 1, none⟩) (by simp) (.slice none 0 0)).setCell (p := ⟨w.heap.size + 3, 2, none⟩) (by simp) (.slice none 0 0)
        refine bodyPost_ret (v := .tuple #[.agg #[.slice none 0 0, .slice none 0 0, .slice none 0 0], .int .i64 4]) (by simp [results, Tryz.results17, go_sem, r0, r1, r2]) rfl ⟨_, _, _, by rw [HE.out], by rw [HTT.out]; exact rda_nil _ _, by rw [HCC.out]; exact SlA.nil, hBW⟩
      · have HE0 : Hid (updE t key D c = wrapE D key) := by unfold Hid updE; rw [hr, hq, kb, em, fl, an]; simp
        clear em fl an
        clear hr hq kb
        go_wp2_with fail
        refine (twrap_any D key _ _ _ _ (HD.out _ (hB4.alloc (by omega) _)) (SlP.oneB (x := key) (cs := [.string key]) ⟨rfl, hkey⟩ rfl _ rfl (by simp)) (by omega)).mono ?_
        rintro e w5 ⟨v5, u5, rfl, hrd5, hb5⟩
        obtain ⟨A8, n8, A9, n9, rfl, rfl⟩ := rda_shape hrd5
        clear c0 c1 d0 e0 e1 e2 k0 k1 k2 z0 z1 z2 HG6
        have hb5' := hid (hb4'.out.trans ((((Below.refl w4.heap.size w4).alloc (Nat.le_refl _) _).trans (hb5.mono (show w4.heap.size ≤ _ by simp))).mono hs4))
        obtain ⟨hB5, hs5, g3, g4, g5, g6⟩ := HW.out _ hb5'.out
        have HG6 := hid g6
        have c0 : w5.cell? ⟨w.heap.size, 0, none⟩ = some (.slice A3 t.es.length n3) := cell_cells (i := 0) g3
        have c1 : w5.cell? ⟨w.heap.size, 1, none⟩ = some (.slice A4 t.ks.length n4) := cell_cells (i := 1) g3
        have d0 : w5.cell? ⟨w.heap.size + 1, 0, none⟩ = some (.string key) := cell_cells (i := 0) g4
        have e0 : w5.cell? ⟨w.heap.size + 2, 0, none⟩ = some (.slice A5 D.es.length n5) := cell_cells (i := 0) g5
        have e1 : w5.cell? ⟨w.heap.size + 2, 1, none⟩ = some (.slice A6 D.ks.length n6) := cell_cells (i := 1) g5
        have e2 : w5.cell? ⟨w.heap.size + 2, 2, none⟩ = some (.slice A7 c.length n7) := cell_cells (i := 2) g5
        have k0 : w5.cell? ⟨w.heap.size + 3, 0, none⟩ = some (.slice none 0 0) := cell_cells (i := 0) g6
        have k1 : w5.cell? ⟨w.heap.size + 3, 1, none⟩ = some (.slice none 0 0) := cell_cells (i := 1) g6
        have k2 : w5.cell? ⟨w.heap.size + 3, 2, none⟩ = some (.slice none 0 0) := cell_cells (i := 2) g6
        have z0 := cells_frz (i := 0) g6
        have z1 := cells_frz (i := 1) g6
        have z2 := cells_frz (i := 2) g6
        clear g3 g4 g5 g6
        have hs5' := hb5.size
        simp only [World.size_alloc] at hs5'
        clear hb5
        have hlt3 : w.heap.size + 3 < w5.heap.size := by omega
        have hne3 : w.heap.size + 3 ≠ w5.heap.size := by omega
        have hlt2 : w.heap.size + 2 < w5.heap.size := by omega
        have hne2 : w.heap.size + 2 ≠ w5.heap.size := by omega
        have hw3 : wrapE D key = 0 ∨ wrapE D key = 1 ∨ wrapE D key = 10 := by unfold wrapE; split <;> (try split) <;> simp
        have HTX : Hid (updT t key D c = if wrapE D key = 0 then wrapT D key else .mk [] []) := by unfold Hid updT; rw [HE0.out]
        have HCX : Hid (updC t key D c = if wrapE D key = 0 then c else []) := by unfold Hid updC; rw [HE0.out]
        rw [HE0.out]
        generalize wrapE D key = K at *
        generalize wrapT D key = T at *
        rcases hw3 with rfl | rfl | rfl
        · have HX : Hid (∀ w', Below (w5.heap.size + 1) (w5.alloc (.cells #[.slice A8 T.es.length n8, .slice A9 T.ks.length n9] 25)) w' → Below w5.heap.size w5 w' ∧ (w'.cell? ⟨w.heap.size + 2, 2, none⟩ = some (.slice A7 c.length n7) ∧ w'.cell? ⟨w5.heap.size, 0, none⟩ = some (.slice A8 T.es.length n8) ∧ w'.cell? ⟨w5.heap.size, 1, none⟩ = some (.slice A9 T.ks.length n9))) := fun w' hb => by
            have hB : Below w5.heap.size w5 w' := ((Below.refl _ w5).alloc (Nat.le_refl _) _).trans (hb.mono (by omega))
            refine ⟨hB, (hB.cell (p := ⟨w.heap.size + 2, 2, none⟩) (by show w.heap.size + 2 < _; omega)).trans e2, ?_, ?_⟩
            · rw [hb.cell (p := ⟨w5.heap.size, 0, none⟩) (by simp), World.cell?_alloc_new]; rfl
            · rw [hb.cell (p := ⟨w5.heap.size, 1, none⟩) (by simp), World.cell?_alloc_new]; rfl
          clear c0 c1 d0 e0 e1 k0 k1 k2 z0 z1 z2
          go_upto_region 9 with (fail)
          go_region_held3 (fun w' => w'.cell? ⟨w.heap.size + 2, 2, none⟩ = some (.slice A7 c.length n7) ∧ w'.cell? ⟨w5.heap.size, 0, none⟩ = some (.slice A8 T.es.length n8) ∧ w'.cell? ⟨w5.heap.size, 1, none⟩ = some (.slice A9 T.ks.length n9))
            (first | go_keep | exact (HX.out _ hbx.out).2 | exact ⟨cell_box3n (by simp) (HX.out _ hbx.out).2.1, cell_box3n (by show w.heap.size + 3 ≠ _; omega) (HX.out _ hbx.out).2.2.1, cell_box3n (by show w.heap.size + 3 ≠ _; omega) (HX.out _ hbx.out).2.2.2⟩)
            (first | (go_at_call 71; go_loud ((refine (cloneC_any c _ _ (HC.out _ ((hB5.alloc (by omega) _).drew)) (by unfold Few; omega)).mono ?_); rintro e w6 ⟨v6, rfl, ho6, hb6⟩; obtain ⟨A10, c10, hv6⟩ := ho6.shape; subst hv6; have HO6 := hid ho6; have hbx : Hid (Below (w5.heap.size + 1) (w5.alloc (.cells #[.slice A8 T.es.length n8, .slice A9 T.ks.length n9] 25)) w6) := (((Below.refl (w5.heap.size + 1) (w5.alloc (.cells #[.slice A8 T.es.length n8, .slice A9 T.ks.length n9] 25))).drew).trans (hb6.mono (by simp))); have hby := hid (HX.out _ hbx.out).1; have hs6 : w5.heap.size + 1 ≤ w6.heap.size := (by have := hbx.out.size; simpa using this); have HGx := hid ((hby.out.block (w.heap.size + 3) (by omega)).trans HG6.out); have k0 : w6.cell? ⟨w.heap.size + 3, 0, none⟩ = some (.slice none 0 0) := cell_cells (i := 0) HGx.out; have k1 : w6.cell? ⟨w.heap.size + 3, 1, none⟩ = some (.slice none 0 0) := cell_cells (i := 1) HGx.out; have k2 : w6.cell? ⟨w.heap.size + 3, 2, none⟩ = some (.slice none 0 0) := cell_cells (i := 2) HGx.out; have z0 := cells_frz (i := 0) HGx.out; have z1 := cells_frz (i := 1) HGx.out; have z2 := cells_frz (i := 2) HGx.out; have hlt6 : w.heap.size + 3 < w6.heap.size := (by omega); have hne6 : w.heap.size + 3 ≠ w6.heap.size := (by omega); clear ho6 hb6)))
          all_goals go_wp2_with fail
          obtain ⟨r0, r1, r2, hK, hS⟩ := box3 HGx.out (.slice A8 T.es.length n8) (.slice A9 T.ks.length n9) (.slice A10 c.length c10)
          have hBW : Below w.heap.size w (((w6.setCell ⟨w.heap.size + 3, 0, none⟩ (.slice A8 T.es.length n8)).setCell ⟨w.heap.size + 3, 1, none⟩ (.slice A9 T.ks.length n9)).setCell ⟨w.heap.size + 3, 2, none⟩ (.slice A10 c.length c10)) := (((hB5.trans (hby.out.mono (by omega))).setCell (by simp) _).setCell (by simp) _).setCell (by simp) _
          clear k0 k1 k2 z0 z1 z2
          generalize (((w6.setCell ⟨w.heap.size + 3, 0, none⟩ (.slice A8 T.es.length n8)).setCell ⟨w.heap.size + 3, 1, none⟩ (.slice A9 T.ks.length n9)).setCell ⟨w.heap.size + 3, 2, none⟩ (.slice A10 c.length c10)) = W at *
          refine bodyPost_ret (v := .tuple #[.agg #[.slice A8 T.es.length n8, .slice A9 T.ks.length n9, .slice A10 c.length c10], .int .i64 0]) (by simp [results, Tryz.results17, go_sem, r0, r1, r2]) rfl ⟨_, _, _, by rw [HE0.out], ?_, ?_, hBW⟩
          · rw [HTX.out, if_pos trivial]
            exact rda_up (fun b hb => (hK b (by have := hb.1; simp only [World.size_alloc] at this; omega)).trans (hby.out.block b hb.2)) (fun b hb => ⟨by have := hb.1; simp only [World.size_alloc] at this; omega, by have := hb.2; omega⟩) _ _ _ hrd5
          · rw [HCX.out, if_pos trivial]
            refine (HO6.out.sla (by unfold Big; omega)).up (fun b hb => hK b (by have := hb.1; simp only [World.size_alloc, World.size_drew] at this; omega)) (fun b hb => ⟨by have := hb.1; simp only [World.size_alloc, World.size_drew] at this; omega, by have := hb.2.1; omega⟩) (fun _ _ _ h => h)
        · go_wp2_with fail
          obtain ⟨r0, r1, r2, hK, hS⟩ := box3 HG6.out (.slice none 0 0) (.slice none 0 0) (.slice none 0 0)
          have hBW : Below w.heap.size w (((w5.setCell ⟨w.heap.size + 3, 0, none⟩ (.slice none 0 0)).setCell ⟨w.heap.size + 3, 1, none⟩ (.slice none 0 0)).setCell ⟨w.heap.size + 3, 2, none⟩ (.slice none 0 0)) := ((hB5.setCell (by simp) _).setCell (by simp) _).setCell (by simp) _
          clear c0 c1 d0 e0 e1 e2 k0 k1 k2 z0 z1 z2
          generalize (((w5.setCell ⟨w.heap.size + 3, 0, none⟩ (.slice none 0 0)).setCell ⟨w.heap.size + 3, 1, none⟩ (.slice none 0 0)).setCell ⟨w.heap.size + 3, 2, none⟩ (.slice none 0 0)) = W at *
          have q0 : (W.alloc (.cells #[.slice A8 T.es.length n8, .slice A9 T.ks.length n9] 25)).cell? ⟨w.heap.size + 1 + 1 + 1, 0, none⟩ = some (.slice none 0 0) := by rw [World.cell?_alloc_lt _ _ _ (by show w.heap.size + 3 < _; omega)]; exact r0
          have q1 : (W.alloc (.cells #[.slice A8 T.es.length n8, .slice A9 T.ks.length n9] 25)).cell? ⟨w.heap.size + 1 + 1 + 1, 1, none⟩ = some (.slice none 0 0) := by rw [World.cell?_alloc_lt _ _ _ (by show w.heap.size + 3 < _; omega)]; exact r1
          have q2 : (W.alloc (.cells #[.slice A8 T.es.length n8, .slice A9 T.ks.length n9] 25)).cell? ⟨w.heap.size + 1 + 1 + 1, 2, none⟩ = some (.slice none 0 0) := by rw [World.cell?_alloc_lt _ _ _ (by show w.heap.size + 3 < _; omega)]; exact r2
          refine bodyPost_ret (v := .tuple #[.agg #[.slice none 0 0, .slice none 0 0, .slice none 0 0], .int .i64 1]) (by simp [results, Tryz.results17, go_sem, q0, q1, q2]) rfl ⟨_, _, _, by rw [HE0.out], by rw [HTX.out, if_neg (by decide)]; exact rda_nil _ _, by rw [HCX.out, if_neg (by decide)]; exact SlA.nil, hBW.alloc (by omega) _⟩
        · go_wp2_with fail
          obtain ⟨r0, r1, r2, hK, hS⟩ := box3 HG6.out (.slice none 0 0) (.slice none 0 0) (.slice none 0 0)
          have hBW : Below w.heap.size w (((w5.setCell ⟨w.heap.size + 3, 0, none⟩ (.slice none 0 0)).setCell ⟨w.heap.size + 3, 1, none⟩ (.slice none 0 0)).setCell ⟨w.heap.size + 3, 2, none⟩ (.slice none 0 0)) := ((hB5.setCell (by simp) _).setCell (by simp) _).setCell (by simp) _
          clear c0 c1 d0 e0 e1 e2 k0 k1 k2 z0 z1 z2
          generalize (((w5.setCell ⟨w.heap.size + 3, 0, none⟩ (.slice none 0 0)).setCell ⟨w.heap.size + 3, 1, none⟩ (.slice none 0 0)).setCell ⟨w.heap.size + 3, 2, none⟩ (.slice none 0 0)) = W at *
          have q0 : (W.alloc (.cells #[.slice A8 T.es.length n8, .slice A9 T.ks.length n9] 25)).cell? ⟨w.heap.size + 1 + 1 + 1, 0, none⟩ = some (.slice none 0 0) := by rw [World.cell?_alloc_lt _ _ _ (by show w.heap.size + 3 < _; omega)]; exact r0
          have q1 : (W.alloc (.cells #[.slice A8 T.es.length n8, .slice A9 T.ks.length n9] 25)).cell? ⟨w.heap.size + 1 + 1 + 1, 1, none⟩ = some (.slice none 0 0) := by rw [World.cell?_alloc_lt _ _ _ (by show w.heap.size + 3 < _; omega)]; exact r1
          have q2 : (W.alloc (.cells #[.slice A8 T.es.length n8, .slice A9 T.ks.length n9] 25)).cell? ⟨w.heap.size + 1 + 1 + 1, 2, none⟩ = some (.slice none 0 0) := by rw [World.cell?_alloc_lt _ _ _ (by show w.heap.size + 3 < _; omega)]; exact r2
          refine bodyPost_ret (v := .tuple #[.agg #[.slice none 0 0, .slice none 0 0, .slice none 0 0], .int .i64 10]) (by simp [results, Tryz.results17, go_sem, q0, q1, q2]) rfl ⟨_, _, _, by rw [HE0.out], by rw [HTX.out, if_neg (by decide)]; exact rda_nil _ _, by rw [HCX.out, if_neg (by decide)]; exact SlA.nil, hBW.alloc (by omega) _⟩
  · have HE0 : Hid (updE t key D c = wrapE D key) := by unfold Hid updE; rw [hr, hq, kb, em]; simp
    clear em
    clear hr hq kb
    go_wp2_with fail
    refine (twrap_any D key _ _ _ _ (HD.out _ (hB4.alloc (by omega) _)) (SlP.oneB (x := key) (cs := [.string key]) ⟨rfl, hkey⟩ rfl _ rfl (by simp)) (by omega)).mono ?_
    rintro e w5 ⟨v5, u5, rfl, hrd5, hb5⟩
    obtain ⟨A8, n8, A9, n9, rfl, rfl⟩ := rda_shape hrd5
    clear c0 c1 d0 e0 e1 e2 k0 k1 k2 z0 z1 z2 HG6
    have hb5' := hid (hb4'.out.trans ((((Below.refl w4.heap.size w4).alloc (Nat.le_refl _) _).trans (hb5.mono (show w4.heap.size ≤ _ by simp))).mono hs4))
    obtain ⟨hB5, hs5, g3, g4, g5, g6⟩ := HW.out _ hb5'.out
    have HG6 := hid g6
    have c0 : w5.cell? ⟨w.heap.size, 0, none⟩ = some (.slice A3 t.es.length n3) := cell_cells (i := 0) g3
    have c1 : w5.cell? ⟨w.heap.size, 1, none⟩ = some (.slice A4 t.ks.length n4) := cell_cells (i := 1) g3
    have d0 : w5.cell? ⟨w.heap.size + 1, 0, none⟩ = some (.string key) := cell_cells (i := 0) g4
    have e0 : w5.cell? ⟨w.heap.size + 2, 0, none⟩ = some (.slice A5 D.es.length n5) := cell_cells (i := 0) g5
    have e1 : w5.cell? ⟨w.heap.size + 2, 1, none⟩ = some (.slice A6 D.ks.length n6) := cell_cells (i := 1) g5
    have e2 : w5.cell? ⟨w.heap.size + 2, 2, none⟩ = some (.slice A7 c.length n7) := cell_cells (i := 2) g5
    have k0 : w5.cell? ⟨w.heap.size + 3, 0, none⟩ = some (.slice none 0 0) := cell_cells (i := 0) g6
    have k1 : w5.cell? ⟨w.heap.size + 3, 1, none⟩ = some (.slice none 0 0) := cell_cells (i := 1) g6
    have k2 : w5.cell? ⟨w.heap.size + 3, 2, none⟩ = some (.slice none 0 0) := cell_cells (i := 2) g6
    have z0 := cells_frz (i := 0) g6
    have z1 := cells_frz (i := 1) g6
    have z2 := cells_frz (i := 2) g6
    clear g3 g4 g5 g6
    have hs5' := hb5.size
    simp only [World.size_alloc] at hs5'
    clear hb5
    have hlt3 : w.heap.size + 3 < w5.heap.size := by omega
    have hne3 : w.heap.size + 3 ≠ w5.heap.size := by omega
    have hlt2 : w.heap.size + 2 < w5.heap.size := by omega
    have hne2 : w.heap.size + 2 ≠ w5.heap.size := by omega
    have hw3 : wrapE D key = 0 ∨ wrapE D key = 1 ∨ wrapE D key = 10 := by unfold wrapE; split <;> (try split) <;> simp
    have HTX : Hid (updT t key D c = if wrapE D key = 0 then wrapT D key else .mk [] []) := by unfold Hid updT; rw [HE0.out]
    have HCX : Hid (updC t key D c = if wrapE D key = 0 then c else []) := by unfold Hid updC; rw [HE0.out]
    rw [HE0.out]
    generalize wrapE D key = K at *
    generalize wrapT D key = T at *
    rcases hw3 with rfl | rfl | rfl
    · have HX : Hid (∀ w', Below (w5.heap.size + 1) (w5.alloc (.cells #[.slice A8 T.es.length n8, .slice A9 T.ks.length n9] 25)) w' → Below w5.heap.size w5 w' ∧ (w'.cell? ⟨w.heap.size + 2, 2, none⟩ = some (.slice A7 c.length n7) ∧ w'.cell? ⟨w5.heap.size, 0, none⟩ = some (.slice A8 T.es.length n8) ∧ w'.cell? ⟨w5.heap.size, 1, none⟩ = some (.slice A9 T.ks.length n9))) := fun w' hb => by
        have hB : Below w5.heap.size w5 w' := ((Below.refl _ w5).alloc (Nat.le_refl _) _).trans (hb.mono (by omega))
        refine ⟨hB, (hB.cell (p := ⟨w.heap.size + 2, 2, none⟩) (by show w.heap.size + 2 < _; omega)).trans e2, ?_, ?_⟩
        · rw [hb.cell (p := ⟨w5.heap.size, 0, none⟩) (by simp), World.cell?_alloc_new]; rfl
        · rw [hb.cell (p := ⟨w5.heap.size, 1, none⟩) (by simp), World.cell?_alloc_new]; rfl
      clear c0 c1 d0 e0 e1 k0 k1 k2 z0 z1 z2
      go_upto_region 9 with (fail)
      go_region_held3 (fun w' => w'.cell? ⟨w.heap.size + 2, 2, none⟩ = some (.slice A7 c.length n7) ∧ w'.cell? ⟨w5.heap.size, 0, none⟩ = some (.slice A8 T.es.length n8) ∧ w'.cell? ⟨w5.heap.size, 1, none⟩ = some (.slice A9 T.ks.length n9))
        (first | go_keep | exact (HX.out _ hbx.out).2 | exact ⟨cell_box3n (by simp) (HX.out _ hbx.out).2.1, cell_box3n (by show w.heap.size + 3 ≠ _; omega) (HX.out _ hbx.out).2.2.1, cell_box3n (by show w.heap.size + 3 ≠ _; omega) (HX.out _ hbx.out).2.2.2⟩)
        (first | (go_at_call 71; go_loud ((refine (cloneC_any c _ _ (HC.out _ ((hB5.alloc (by omega) _).drew)) (by unfold Few; omega)).mono ?_); rintro e w6 ⟨v6, rfl, ho6, hb6⟩; obtain ⟨A10, c10, hv6⟩ := ho6.shape; subst hv6; have HO6 := hid ho6; have hbx : Hid (Below (w5.heap.size + 1) (w5.alloc (.cells #[.slice A8 T.es.length n8, .slice A9 T.ks.length n9] 25)) w6) := (((Below.refl (w5.heap.size + 1) (w5.alloc (.cells #[.slice A8 T.es.length n8, .slice A9 T.ks.length n9] 25))).drew).trans (hb6.mono (by simp))); have hby := hid (HX.out _ hbx.out).1; have hs6 : w5.heap.size + 1 ≤ w6.heap.size := (by have := hbx.out.size; simpa using this); have HGx := hid ((hby.out.block (w.heap.size + 3) (by omega)).trans HG6.out); have k0 : w6.cell? ⟨w.heap.size + 3, 0, none⟩ = some (.slice none 0 0) := cell_cells (i := 0) HGx.out; have k1 : w6.cell? ⟨w.heap.size + 3, 1, none⟩ = some (.slice none 0 0) := cell_cells (i := 1) HGx.out; have k2 : w6.cell? ⟨w.heap.size + 3, 2, none⟩ = some (.slice none 0 0) := cell_cells (i := 2) HGx.out; have z0 := cells_frz (i := 0) HGx.out; have z1 := cells_frz (i := 1) HGx.out; have z2 := cells_frz (i := 2) HGx.out; have hlt6 : w.heap.size + 3 < w6.heap.size := (by omega); have hne6 : w.heap.size + 3 ≠ w6.heap.size := (by omega); clear ho6 hb6)))
      all_goals go_wp2_with fail
      obtain ⟨r0, r1, r2, hK, hS⟩ := box3 HGx.out (.slice A8 T.es.length n8) (.slice A9 T.ks.length n9) (.slice A10 c.length c10)
      have hBW : Below w.heap.size w (((w6.setCell ⟨w.heap.size + 3, 0, none⟩ (.slice A8 T.es.length n8)).setCell ⟨w.heap.size + 3, 1, none⟩ (.slice A9 T.ks.length n9)).setCell ⟨w.heap.size + 3, 2, none⟩ (.slice A10 c.length c10)) := (((hB5.trans (hby.out.mono (by omega))).setCell (by simp) _).setCell (by simp) _).setCell (by simp) _
      clear k0 k1 k2 z0 z1 z2
      generalize (((w6.setCell ⟨w.heap.size + 3, 0, none⟩ (.slice A8 T.es.length n8)).setCell ⟨w.heap.size + 3, 1, none⟩ (.slice A9 T.ks.length n9)).setCell ⟨w.heap.size + 3, 2, none⟩ (.slice A10 c.length c10)) = W at *
      refine bodyPost_ret (v := .tuple #[.agg #[.slice A8 T.es.length n8, .slice A9 T.ks.length n9, .slice A10 c.length c10], .int .i64 0]) (by simp [results, Tryz.results17, go_sem, r0, r1, r2]) rfl ⟨_, _, _, by rw [HE0.out], ?_, ?_, hBW⟩
      · rw [HTX.out, if_pos trivial]
        exact rda_up (fun b hb => (hK b (by have := hb.1; simp only [World.size_alloc] at this; omega)).trans (hby.out.block b hb.2)) (fun b hb => ⟨by have := hb.1; simp only [World.size_alloc] at this; omega, by have := hb.2; omega⟩) _ _ _ hrd5
      · rw [HCX.out, if_pos trivial]
        refine (HO6.out.sla (by unfold Big; omega)).up (fun b hb => hK b (by have := hb.1; simp only [World.size_alloc, World.size_drew] at this; omega)) (fun b hb => ⟨by have := hb.1; simp only [World.size_alloc, World.size_drew] at this; omega, by have := hb.2.1; omega⟩) (fun _ _ _ h => h)
    · go_wp2_with fail
      obtain ⟨r0, r1, r2, hK, hS⟩ := box3 HG6.out (.slice none 0 0) (.slice none 0 0) (.slice none 0 0)
      have hBW : Below w.heap.size w (((w5.setCell ⟨w.heap.size + 3, 0, none⟩ (.slice none 0 0)).setCell ⟨w.heap.size + 3, 1, none⟩ (.slice none 0 0)).setCell ⟨w.heap.size + 3, 2, none⟩ (.slice none 0 0)) := ((hB5.setCell (by simp) _).setCell (by simp) _).setCell (by simp) _
      clear c0 c1 d0 e0 e1 e2 k0 k1 k2 z0 z1 z2
      generalize (((w5.setCell ⟨w.heap.size + 3, 0, none⟩ (.slice none 0 0)).setCell ⟨w.heap.size + 3, 1, none⟩ (.slice none 0 0)).setCell ⟨w.heap.size + 3, 2, none⟩ (.slice none 0 0)) = W at *
      have q0 : (W.alloc (.cells #[.slice A8 T.es.length n8, .slice A9 T.ks.length n9] 25)).cell? ⟨w.heap.size + 1 + 1 + 1, 0, none⟩ = some (.slice none 0 0) := by rw [World.cell?_alloc_lt _ _ _ (by show w.heap.size + 3 < _; omega)]; exact r0
      have q1 : (W.alloc (.cells #[.slice A8 T.es.length n8, .slice A9 T.ks.length n9] 25)).cell? ⟨w.heap.size + 1 + 1 + 1, 1, none⟩ = some (.slice none 0 0) := by rw [World.cell?_alloc_lt _ _ _ (by show w.heap.size + 3 < _; omega)]; exact r1
      have q2 : (W.alloc (.cells #[.slice A8 T.es.length n8, .slice A9 T.ks.length n9] 25)).cell? ⟨w.heap.size + 1 + 1 + 1, 2, none⟩ = some (.slice none 0 0) := by rw [World.cell?_alloc_lt _ _ _ (by show w.heap.size + 3 < _; omega)]; exact r2
      refine bodyPost_ret (v := .tuple #[.agg #[.slice none 0 0, .slice none 0 0, .slice none 0 0], .int .i64 1]) (by simp [results, Tryz.results17, go_sem, q0, q1, q2]) rfl ⟨_, _, _, by rw [HE0.out], by rw [HTX.out, if_neg (by decide)]; exact rda_nil _ _, by rw [HCX.out, if_neg (by decide)]; exact SlA.nil, hBW.alloc (by omega) _⟩
    · go_wp2_with fail
      obtain ⟨r0, r1, r2, hK, hS⟩ := box3 HG6.out (.slice none 0 0) (.slice none 0 0) (.slice none 0 0)
      have hBW : Below w.heap.size w (((w5.setCell ⟨w.heap.size + 3, 0, none⟩ (.slice none 0 0)).setCell ⟨w.heap.size + 3, 1, none⟩ (.slice none 0 0)).setCell ⟨w.heap.size + 3, 2, none⟩ (.slice none 0 0)) := ((hB5.setCell (by simp) _).setCell (by simp) _).setCell (by simp) _
      clear c0 c1 d0 e0 e1 e2 k0 k1 k2 z0 z1 z2
      generalize (((w5.setCell ⟨w.heap.size + 3, 0, none⟩ (.slice none 0 0)).setCell ⟨w.heap.size + 3, 1, none⟩ (.slice none 0 0)).setCell ⟨w.heap.size + 3, 2, none⟩ (.slice none 0 0)) = W at *
      have q0 : (W.alloc (.cells #[.slice A8 T.es.length n8, .slice A9 T.ks.length n9] 25)).cell? ⟨w.heap.size + 1 + 1 + 1, 0, none⟩ = some (.slice none 0 0) := by rw [World.cell?_alloc_lt _ _ _ (by show w.heap.size + 3 < _; omega)]; exact r0
      have q1 : (W.alloc (.cells #[.slice A8 T.es.length n8, .slice A9 T.ks.length n9] 25)).cell? ⟨w.heap.size + 1 + 1 + 1, 1, none⟩ = some (.slice none 0 0) := by rw [World.cell?_alloc_lt _ _ _ (by show w.heap.size + 3 < _; omega)]; exact r1
      have q2 : (W.alloc (.cells #[.slice A8 T.es.length n8, .slice A9 T.ks.length n9] 25)).cell? ⟨w.heap.size + 1 + 1 + 1, 2, none⟩ = some (.slice none 0 0) := by rw [World.cell?_alloc_lt _ _ _ (by show w.heap.size + 3 < _; omega)]; exact r2
      refine bodyPost_ret (v := .tuple #[.agg #[.slice none 0 0, .slice none 0 0, .slice none 0 0], .int .i64 10]) (by simp [results, Tryz.results17, go_sem, q0, q1, q2]) rfl ⟨_, _, _, by rw [HE0.out], by rw [HTX.out, if_neg (by decide)]; exact rda_nil _ _, by rw [HCX.out, if_neg (by decide)]; exact SlA.nil, hBW.alloc (by omega) _⟩
end Go.Proofs.YtdcmjmcipgadlaaGreat

namespace Go.Proofs.YtdcmjmcipgadlaaGreat
open Go.RowKit
set_option maxRecDepth 100000

def kB : ByteArray := ⟨#[107]⟩
def dB : Tr := .mk [⟨1, 1, ByteArray.empty, 0⟩] []
theorem awk14_E : updE (.mk [] []) kB dB (ctxBy [] [⟨1, 1, 1⟩] 0) = 0 := by kernel_rfl
theorem awk14_T : updT (.mk [] []) kB dB (ctxBy [] [⟨1, 1, 1⟩] 0) = .mk [] [(kB, dB)] := by
  unfold updT; rw [awk14_E, if_pos rfl]; kernel_rfl
theorem awk14_K : keysOf (.mk [] [(kB, dB)]) = [kB] := by kernel_rfl
theorem awk14_G : getT (.mk [] [(kB, dB)]) [kB] = dB := by
  rw [get_law (right_ord _ 5 (by kernel_rfl))]
  unfold getK
  rw [List.foldl_cons, List.foldl_nil]
  unfold kidT
  simp [Tr.ks]
set_option maxHeartbeats 4000000 in
theorem awake14_any (w : World) : Calls Tryz.prog 14 #[] w fun e w' => e = .returned (.bool true) ∧ Below w.heap.size w w' := by
  go_enter Tryz.func14, Tryz.ntmps14
  go_wp2_with fail
  refine (r10put_any [] ⟨1, 1, ByteArray.empty, 0⟩ [] _ _ w ⟨⟨by decide, by decide⟩, ⟨by decide, by decide⟩, ⟨by decide, by decide⟩, by simp [Big]⟩ SlP.nil SlP.nil (by simp) (fun _ h => by cases h) (fun s hs => by simp at hs; subst hs; decide)).mono ?_
  rintro e w1 ⟨ve, vk, vc, rfl, hrd, hsc, hb1⟩
  rw [build_one_leaf, show (Tr.mk [⟨1, 1, ByteArray.empty, 0⟩] [] : Tr) = dB from rfl] at hrd
  have hE := awk14_E
  have hT := awk14_T
  have hcl : (ctxBy [] [(⟨1, 1, 1⟩ : Sp)] 0).length ≤ 20000 := by have := ctxBy_len [] [(⟨1, 1, 1⟩ : Sp)] 0; simp at this; omega
  simp only [] at hsc
  generalize ctxBy [] [(⟨1, 1, 1⟩ : Sp)] 0 = C at *
  have HE := hid hE
  have HT2 := hid hT
  clear hE hT
  obtain ⟨Ae, ne, Ak, nk, rfl, rfl⟩ := rda_shape hrd
  obtain ⟨Ac, nc, rfl⟩ := hsc.shape
  have hs1 := hb1.size
  have HT : Hid (∀ w', Below w1.heap.size w1 w' → dB.rd w' w'.heap.size (.slice Ae dB.es.length ne) (.slice Ak dB.ks.length nk)) := fun w' hb => rda_rd hrd (fun b hb => hb.2) hb
  have HCt : Hid (∀ w', Below w1.heap.size w1 w' → SlP w' w'.heap.size 3 SpE (.slice Ac C.length nc) C) := fun w' hb => hsc.slp (fun b hb => hb.2) hb
  clear hrd hsc
  go_wp2_with fail
  refine (oupdate_any (.mk [] []) dB C kB _ _ _ _ _ _ rd_empty (HT.out _ (by go_grown)) (HCt.out _ (by go_grown)) (by decide) (by decide) (by decide) hcl).mono ?_
  rintro e w2 ⟨ve2, vk2, vc2, rfl, hrd, hsc, hb2⟩
  rw [HE.out]
  rw [HT2.out] at hrd
  have hgt := awk14_G
  have hkt := awk14_K
  have hTe : (Tr.mk [] [(kB, dB)]).es.length = 0 := rfl
  have hTk : (Tr.mk [] [(kB, dB)]).ks.length = 1 := rfl
  have hTz : (Tr.mk [] [(kB, dB)]).sz ≤ 100000 := by decide
  obtain ⟨Ae2, ne2, Ak2, nk2, rfl, rfl⟩ := rda_shape hrd
  obtain ⟨Ac2, nc2, rfl⟩ := hsc.shape
  generalize updC (.mk [] []) kB dB C = C2 at *
  generalize (Tr.mk [] [(kB, dB)] : Tr) = T at *
  have hks : (keysOf T).length = 1 := by rw [hkt]; rfl
  have hse : trEq (getT T [kB]) dB = true := by rw [hgt]; simp [trEq]
  generalize dB = D at *
  have HGT := hid hse
  have HKT := hid hkt
  clear hgt hkt hse
  have hs2 := hb2.size
  simp only [World.size_alloc] at hs2
  have hB2 : Below w1.heap.size w1 w2 := ((Below.refl _ w1).alloc (Nat.le_refl _) _).trans (hb2.mono (by simp))
  have x0 : w2.cell? ⟨w1.heap.size, 0, none⟩ = some (.slice Ae D.es.length ne) := by rw [hb2.cell (p := ⟨w1.heap.size, 0, none⟩) (by simp), World.cell?_alloc_new]; rfl
  have x1 : w2.cell? ⟨w1.heap.size, 1, none⟩ = some (.slice Ak D.ks.length nk) := by rw [hb2.cell (p := ⟨w1.heap.size, 1, none⟩) (by simp), World.cell?_alloc_new]; rfl
  have hlt1 : w1.heap.size < w2.heap.size := by omega
  have hne1 : w1.heap.size ≠ w2.heap.size := by omega
  have HB : Hid (∀ w', Below (w2.heap.size + 1) (w2.alloc (.cells #[.slice Ae2 T.es.length ne2, .slice Ak2 T.ks.length nk2, .slice Ac2 C2.length nc2] 29)) w' → Below w.heap.size w w' ∧ D.rd w' w'.heap.size (.slice Ae D.es.length ne) (.slice Ak D.ks.length nk) ∧ T.rd w' w'.heap.size (.slice Ae2 T.es.length ne2) (.slice Ak2 T.ks.length nk2) ∧ (w'.cell? ⟨w1.heap.size, 0, none⟩ = some (.slice Ae D.es.length ne) ∧ w'.cell? ⟨w1.heap.size, 1, none⟩ = some (.slice Ak D.ks.length nk) ∧ w'.cell? ⟨w2.heap.size, 0, none⟩ = some (.slice Ae2 T.es.length ne2) ∧ w'.cell? ⟨w2.heap.size, 1, none⟩ = some (.slice Ak2 T.ks.length nk2))) := fun w' hb => by
    have hB : Below w2.heap.size w2 w' := ((Below.refl _ w2).alloc (Nat.le_refl _) _).trans (hb.mono (by omega))
    have hB1 : Below w1.heap.size w1 w' := hB2.trans (hB.mono (by omega))
    refine ⟨hb1.trans (hB1.mono hs1), HT.out _ hB1, rda_rd hrd (fun b hb => hb.2) hB, ?_, ?_, ?_, ?_⟩
    · rw [hB.cell (p := ⟨w1.heap.size, 0, none⟩) (by show w1.heap.size < _; omega)]; exact x0
    · rw [hB.cell (p := ⟨w1.heap.size, 1, none⟩) (by show w1.heap.size < _; omega)]; exact x1
    · rw [hb.cell (p := ⟨w2.heap.size, 0, none⟩) (by simp), World.cell?_alloc_new]; rfl
    · rw [hb.cell (p := ⟨w2.heap.size, 1, none⟩) (by simp), World.cell?_alloc_new]; rfl
  have HAK : Hid (decide (keysOf T = [kB]) = true) := by unfold Hid; rw [HKT.out]; simp
  have HKL : Hid ((keysOf T).length ≤ Big) := by unfold Hid; rw [HKT.out]; decide
  have HSM : Hid (trEq (getT T [kB]) D = true) := HGT.out
  have HKZ : Hid (kB.size ≤ Big) := by unfold Hid; decide
  have hTl : T.ks.length ≤ 900000 := by omega
  clear hrd hsc hb2 hTe hTk hks
  go_upto_region 3 with (fail)
  go_region_held3 (fun w' => w'.cell? ⟨w1.heap.size, 0, none⟩ = some (.slice Ae D.es.length ne) ∧ w'.cell? ⟨w1.heap.size, 1, none⟩ = some (.slice Ak D.ks.length nk) ∧ w'.cell? ⟨w2.heap.size, 0, none⟩ = some (.slice Ae2 T.es.length ne2) ∧ w'.cell? ⟨w2.heap.size, 1, none⟩ = some (.slice Ak2 T.ks.length nk2))
    (first | go_keep | exact (HB.out _ hb6.out).2.2.2 | exact (HB.out _ hb5.out).2.2.2 | exact (HB.out _ hb4.out).2.2.2 | exact (HB.out _ hb3.out).2.2.2)
    (first | (go_at_call 63; go_loud ((refine (okeys_any T _ _ _ (HB.out _ (by go_grown)).2.2.1 (by omega)).mono ?_); rintro e w3 ⟨v3, rfl, ho3, hb⟩; obtain ⟨A9, c9, hv9⟩ := ho3.shape; subst hv9; have HK3 := hid (ho3.sl HKL.out); have hb3 : Hid (Below (w2.heap.size + 1) (w2.alloc (.cells #[.slice Ae2 T.es.length ne2, .slice Ak2 T.ks.length nk2, .slice Ac2 C2.length nc2] 29)) w3) := (Below.trans (by go_grown) (hb.mono (by simp))); have hs3 := hb3.out.size; simp only [World.size_alloc] at hs3; (try (have HKC : Hid (w3.cell? ⟨w2.heap.size + 1, 0, none⟩ = some (.string kB)) := (hb.cell (p := ⟨w2.heap.size + 1, 0, none⟩) (by simp; done)).trans (by rw [World.cell?_drew, World.cell?_alloc_at _ _ _ _ (by simp)]; rfl))); (try (have HKC : Hid (w3.cell? ⟨w2.heap.size + 1, 0, none⟩ = some (.string kB)) := (hb.cell (p := ⟨w2.heap.size + 1, 0, none⟩) (by simp; done)).trans (by rw [World.cell?_alloc_at _ _ _ _ (by simp)]; rfl))); clear ho3))
           | (go_at_call 37; go_loud ((refine (r10alike_any (keysOf T) [kB] _ _ _ (w3.heap.size + 1) (HK3.out.imp (by go_grown) (by omega) fun _ _ _ h => h) (by first | exact SlP.oneB (x := kB) (cs := [.string kB]) ⟨rfl, HKZ.out⟩ rfl _ rfl (by omega) | exact SlP.at1 HKC.out HKZ.out (by have := hb.size; simp at this; omega))).mono ?_); rw [HAK.out]; rintro e w4 ⟨rfl, n4, hw4⟩; have hb4 : Hid (Below (w2.heap.size + 1) (w2.alloc (.cells #[.slice Ae2 T.es.length ne2, .slice Ak2 T.ks.length nk2, .slice Ac2 C2.length nc2] 29)) w4) := (hw4 ▸ below_drewN (by first | exact hb3.out | exact hb3.out.alloc (by omega) _) n4); have hs4 := hb4.out.size; simp only [World.size_alloc] at hs4; clear hw4))
           | (go_at_call 64; go_loud ((refine (r08get_any T [kB] _ _ _ _ (HB.out _ (hb4.out.alloc (by omega) _)).2.2.1 (SlP.oneB (x := kB) (cs := [.string kB]) ⟨rfl, HKZ.out⟩ rfl _ rfl (by simp)) hTz).mono ?_); rintro e w5 ⟨ve5, vk5, rfl, hrd5, hb⟩; obtain ⟨A5, n5, A6, n6, hv5, hv6⟩ := rda_shape hrd5; subst hv5; subst hv6; have hb5 := hid ((hb4.out.alloc (by omega) _).trans (hb.mono (by simp; omega))); have hrd6 := hid (rda_rd hrd5 (fun b hb => hb.2) (Below.refl _ _)); clear hrd5 hb))
           | (go_at_call 59; go_loud ((refine (r08same_any (getT T [kB]) D _ _ _ _ _ hrd6.out (HB.out _ hb5.out).2.1).mono ?_); rw [HSM.out]; rintro e w6 ⟨rfl, hb⟩; have hb6 := hid (hb5.out.trans (hb.mono (by have := hb5.out.size; simpa using this))))))
  all_goals
    go_wp2_with fail
    go_ret
    exact ⟨rfl, (HB.out _ hb6.out).1⟩
end Go.Proofs.YtdcmjmcipgadlaaGreat

namespace Go.Proofs.YtdcmjmcipgadlaaGreat
open Go.RowKit
set_option maxRecDepth 100000

set_option maxHeartbeats 4000000 in
theorem oreset_any (t : Tr) (d : Dt) (ve vk : Value) (w : World) (h : t.rd w w.heap.size ve vk) (hN : t.sz ≤ 4000) (hd : d.Ok) :
    Calls Tryz.prog 25 #[.agg #[ve, vk], .agg #[.int .i64 d.dc, .int .i64 d.n]] w (RetCE w (.mk [] []) (disC t d) (chkI t d)) := by
  have hdl := dots_len t
  have h2 := ctxOf_len t.dots
  have h3 := ctxOf_len [d]
  simp only [List.length_singleton] at h3
  have HC : Hid (∀ w', Below w.heap.size w w' → t.rd w' w'.heap.size ve vk) := fun w' hb => rd_below hb hb.size _ _ _ h
  obtain ⟨A3, n3, A4, n4, rfl, rfl⟩ := rd_shape h
  have hb0 := (((Below.refl w.heap.size w).alloc (Nat.le_refl _) (.cells #[.slice A3 t.es.length n3, .slice A4 t.ks.length n4] 25)).alloc (by simp) (.cells #[.int .i64 d.dc, .int .i64 d.n] 47)).alloc (by simp; omega) (.cells #[.slice none 0 0, .slice none 0 0, .slice none 0 0] 29)
  clear h
  go_enter Tryz.func25, Tryz.ntmps25
  go_wp2_with fail
  refine (fcheck_any t d _ _ _ (HC.out _ hb0) (by omega)).mono ?_
  rintro e w1 ⟨rfl, hb1⟩
  have hs1 := hb1.size
  simp only [World.size_alloc] at hs1
  have hB1 : Below w.heap.size w w1 := hb0.trans (hb1.mono (by simp; omega))
  have c0 : w1.cell? ⟨w.heap.size, 0, none⟩ = some (.slice A3 t.es.length n3) := by
    rw [hb1.cell (p := ⟨w.heap.size, 0, none⟩) (by simp; omega)]
    rw [World.cell?_alloc_lt _ _ _ (by simp; omega), World.cell?_alloc_lt _ _ _ (by simp)]; simp
  have c1 : w1.cell? ⟨w.heap.size, 1, none⟩ = some (.slice A4 t.ks.length n4) := by
    rw [hb1.cell (p := ⟨w.heap.size, 1, none⟩) (by simp; omega)]
    rw [World.cell?_alloc_lt _ _ _ (by simp; omega), World.cell?_alloc_lt _ _ _ (by simp)]; simp
  have d0 : w1.cell? ⟨w.heap.size + 1, 0, none⟩ = some (.int .i64 d.dc) := by rw [hb1.cell (p := ⟨w.heap.size + 1, 0, none⟩) (by simp), World.cell?_alloc_lt _ _ _ (by simp)]; simp
  have d1 : w1.cell? ⟨w.heap.size + 1, 1, none⟩ = some (.int .i64 d.n) := by rw [hb1.cell (p := ⟨w.heap.size + 1, 1, none⟩) (by simp), World.cell?_alloc_lt _ _ _ (by simp)]; simp
  have hg : w1.heap[w.heap.size + 2]? = some (.cells #[.slice none 0 0, .slice none 0 0, .slice none 0 0] 29 (0, 0)) := (hb1.block (w.heap.size + 2) (by simp)).trans (heap_new (by simp))
  have HG := hid hg
  have k0 : w1.cell? ⟨w.heap.size + 2, 0, none⟩ = some (.slice none 0 0) := cell_cells (i := 0) hg
  have k1 : w1.cell? ⟨w.heap.size + 2, 1, none⟩ = some (.slice none 0 0) := cell_cells (i := 1) hg
  have k2 : w1.cell? ⟨w.heap.size + 2, 2, none⟩ = some (.slice none 0 0) := cell_cells (i := 2) hg
  have z0 := cells_frz (i := 0) hg
  have z1 := cells_frz (i := 1) hg
  have z2 := cells_frz (i := 2) hg
  clear hg hb1
  cases hc : chkT t d
  · have HE : Hid (chkI t d = 1) := by unfold Hid chkI; rw [hc]; rfl
    have HD : Hid (disC t d = []) := by unfold Hid disC; rw [hc]; rfl
    rw [HE.out]
    clear hc
    go_wp2_with fail
    obtain ⟨r0, r1, r2, hK, hS⟩ := box3 HG.out (.slice none 0 0) (.slice none 0 0) (.slice none 0 0)
    have hBW := ((hB1.setCell (p := ⟨w.heap.size + 2, 0, none⟩) (by simp) (.slice none 0 0)).setCell (p := ⟨w.heap.size + 2, 1, none⟩) (by simp) (.slice none 0 0)).setCell (p := ⟨w.heap.size + 2, 2, none⟩) (by simp) (.slice none 0 0)
    refine bodyPost_ret (v := .tuple #[.agg #[.slice none 0 0, .slice none 0 0, .slice none 0 0], .int .i64 1]) (by simp [results, Tryz.results25, go_sem, r0, r1, r2]) rfl ⟨_, _, _, by rw [HE.out], ?_, ?_, hBW⟩
    · exact rda_nil _ _
    · rw [HD.out]; exact SlA.nil
  · have HE : Hid (chkI t d = 0) := by unfold Hid chkI; rw [hc]; rfl
    have HD : Hid (disC t d = ctxBy (ctxOf t.dots) (ctxOf [d]) 0) := by unfold Hid disC; rw [hc]; rfl
    have hdr := chkT_right hc
    have htr := chkT_tree hc
    have HAA := hid (apart_ctxOf (right_dots t 5 htr))
    have HAB := hid (apart_ctxOf (right_one hdr))
    have HDR := hid (right_one hdr)
    have HDO := hid hd
    rw [HE.out]
    clear hc
    go_wp2_with fail
    refine (tdots_any t _ _ w1 (HC.out _ hB1) (by omega)).mono ?_
    rintro e w2 ⟨v1, n1, rfl, hn1, ho1, hb2⟩
    rw [htr] at ho1 hn1
    obtain rfl : n1 = 0 := hn1
    rw [if_pos rfl] at ho1
    obtain ⟨A1, m1, rfl⟩ := ho1.shape
    have hs2 := hb2.size
    have hB2 : Below w.heap.size w w2 := hB1.trans (hb2.mono (by omega))
    have HO1 := hid ho1
    have e0 : w2.cell? ⟨w.heap.size + 1, 0, none⟩ = some (.int .i64 d.dc) := (hb2.cell (p := ⟨w.heap.size + 1, 0, none⟩) (by show w.heap.size + 1 < _; omega)).trans d0
    have e1 : w2.cell? ⟨w.heap.size + 1, 1, none⟩ = some (.int .i64 d.n) := (hb2.cell (p := ⟨w.heap.size + 1, 1, none⟩) (by show w.heap.size + 1 < _; omega)).trans d1
    clear ho1 hdr htr k0 k1 k2 z0 z1 z2 c0 c1 d0 d1
    go_wp2_with fail
    refine (cof_any [d] _ _ (SlP.oneB (E := DtE) (x := d) (cs := [.int .i64 d.dc, .int .i64 d.n]) ⟨rfl, HDO.out⟩ rfl _ rfl (by simp)) HDR.out (by simp)).mono ?_
    rintro e w3 ⟨v2, rfl, ho2, hb3⟩
    obtain ⟨A2, m2, rfl⟩ := ho2.shape
    have hs3 := hb3.size
    simp only [World.size_alloc] at hs3
    have hb3' : Below w2.heap.size w2 w3 := ((Below.refl _ w2).alloc (Nat.le_refl _) _).trans (hb3.mono (by simp))
    have H1 := hid ((HO1.out.grow hb3').sl (by unfold Big; omega))
    have H2 := hid (ho2.sl (by unfold Big; omega))
    clear ho2 hb3 e0 e1
    go_wp2_with fail
    refine (cunion_any (ctxOf t.dots) (ctxOf [d]) _ _ w3 H1.out H2.out HAA.out HAB.out (by omega) (by omega)).mono ?_
    rintro e w4 ⟨v3, rfl, ho3, hb4⟩
    obtain ⟨A5, c5, rfl⟩ := ho3.shape
    have hs4 := hb4.size
    have hB4 : Below w.heap.size w w4 := (hB2.trans (hb3'.mono (by omega))).trans (hb4.mono (by omega))
    have HG2 := hid ((hb4.block (w.heap.size + 2) (by omega)).trans ((hb3'.block (w.heap.size + 2) (by omega)).trans ((hb2.block (w.heap.size + 2) (by omega)).trans HG.out)))
    have k0 : w4.cell? ⟨w.heap.size + 2, 0, none⟩ = some (.slice none 0 0) := cell_cells (i := 0) HG2.out
    have k1 : w4.cell? ⟨w.heap.size + 2, 1, none⟩ = some (.slice none 0 0) := cell_cells (i := 1) HG2.out
    have k2 : w4.cell? ⟨w.heap.size + 2, 2, none⟩ = some (.slice none 0 0) := cell_cells (i := 2) HG2.out
    have z0 := cells_frz (i := 0) HG2.out
    have z1 := cells_frz (i := 1) HG2.out
    have z2 := cells_frz (i := 2) HG2.out
    have HO3 := hid ho3
    have hsc := ctxBy_len (ctxOf t.dots) (ctxOf [d]) 0
    clear ho3
    go_wp2_with fail
    obtain ⟨r0, r1, r2, hK, hS⟩ := box3 HG2.out (.slice none 0 0) (.slice none 0 0) (.slice A5 (ctxBy (ctxOf t.dots) (ctxOf [d]) 0).length c5)
    have hBW := ((hB4.setCell (p := ⟨w.heap.size + 2, 0, none⟩) (by simp) (.slice none 0 0)).setCell (p := ⟨w.heap.size + 2, 1, none⟩) (by simp) (.slice none 0 0)).setCell (p := ⟨w.heap.size + 2, 2, none⟩) (by simp) (.slice A5 (ctxBy (ctxOf t.dots) (ctxOf [d]) 0).length c5)
    refine bodyPost_ret (v := .tuple #[.agg #[.slice none 0 0, .slice none 0 0, .slice A5 (ctxBy (ctxOf t.dots) (ctxOf [d]) 0).length c5], .int .i64 0]) (by simp [results, Tryz.results25, go_sem, r0, r1, r2]) rfl ⟨_, _, _, by rw [HE.out], rda_nil _ _, ?_, hBW⟩
    rw [HD.out]
    refine (HO3.out.sla (by unfold Big; omega)).up (fun b hb => hK b (by have := hb.1; omega)) (fun b hb => ⟨by have := hb.1; omega, by rw [hS]; exact hb.2.1⟩) (fun _ _ _ h => h)
end Go.Proofs.YtdcmjmcipgadlaaGreat

namespace Go.Proofs.YtdcmjmcipgadlaaGreat
open Go.RowKit
set_option maxRecDepth 100000

theorem spsOk_ctxOf {l : List Dt} (h : ∀ d ∈ l, d.right = true) : SpsOk (ctxOf l) := fun s hs => by
  have ha := apart_ctxOf h
  have hd := wholeK_dc (fun i => ofL (numsL l i)) 4 s hs
  unfold ctxOf ctxOfK at hs
  obtain ⟨i, _, hs⟩ := List.mem_flatMap.1 hs
  obtain ⟨r, hr, rfl⟩ := List.mem_map.1 hs
  have := runs_ok _ none (ofL_right (nums_ok h i)).1 r hr
  unfold runOk at this
  exact ⟨by show 0 ≤ r.1; omega, by show r.1 ≤ _; omega, by show 0 ≤ r.2; omega, by show r.2 ≤ _; omega⟩
theorem seen_eq {t : Tr} {d : Dt} (h : d.right = true) : seenC t d = ctxBy (ctxOf t.dots) [⟨d.dc, d.n, d.n⟩] 0 := by
  unfold seenC; rw [ctxOf_one h]
end Go.Proofs.YtdcmjmcipgadlaaGreat

namespace Go.Proofs.YtdcmjmcipgadlaaGreat
open Go.RowKit
set_option maxRecDepth 100000

set_option maxHeartbeats 4000000 in
theorem lawOR_any (t : Tr) (d : Dt) (w : World) (ve vk : Value) (h : t.rd w w.heap.size ve vk) (hd : d.Ok) :
    Calls Tryz.prog 4 #[.agg #[ve, vk], .agg #[.int .i64 d.dc, .int .i64 d.n]] w fun e w' => e = .returned (.bool true) ∧ Below w.heap.size w w' := by
  have HC : Hid (∀ w', Below w.heap.size w w' → t.rd w' w'.heap.size ve vk) := fun w' hb => rd_below hb hb.size _ _ _ h
  have hfit := fit_rd _ _ _ h
  have hel : t.es.length ≤ 140737488355328 := by obtain ⟨es, ks⟩ := t; exact hfit.1
  obtain ⟨A3, n3, A4, n4, rfl, rfl⟩ := rd_shape h
  have HB : Hid (∀ w', Below (w.heap.size + 2) ((w.alloc (.cells #[.slice A3 t.es.length n3, .slice A4 t.ks.length n4] 25)).alloc (.cells #[.int .i64 d.dc, .int .i64 d.n] 47)) w' → Below w.heap.size w w' ∧ w.heap.size + 2 ≤ w'.heap.size ∧ w'.cell? ⟨w.heap.size, 0, none⟩ = some (.slice A3 t.es.length n3) ∧ w'.cell? ⟨w.heap.size, 1, none⟩ = some (.slice A4 t.ks.length n4) ∧ w'.cell? ⟨w.heap.size + 1, 0, none⟩ = some (.int .i64 d.dc) ∧ w'.cell? ⟨w.heap.size + 1, 1, none⟩ = some (.int .i64 d.n)) := fun w' hb => by
    refine ⟨(((Below.refl _ w).alloc (Nat.le_refl _) _).alloc (by simp) _).trans (hb.mono (by omega)), by have := hb.size; simpa using this, ?_, ?_, ?_, ?_⟩
    · rw [hb.cell (p := ⟨w.heap.size, 0, none⟩) (by simp), World.cell?_alloc_lt _ _ _ (by simp)]; simp
    · rw [hb.cell (p := ⟨w.heap.size, 1, none⟩) (by simp), World.cell?_alloc_lt _ _ _ (by simp)]; simp
    · rw [hb.cell (p := ⟨w.heap.size + 1, 0, none⟩) (by simp)]; simp
    · rw [hb.cell (p := ⟨w.heap.size + 1, 1, none⟩) (by simp)]; simp
  clear h hfit
  go_enter Tryz.func4, Tryz.ntmps4
  go_wp2_with fail
  refine (awake14_any _).mono ?_
  rintro e w1 ⟨rfl, hb1⟩
  have hb1' := hid (hb1.mono (show w.heap.size + 2 ≤ _ by simp))
  clear hb1
  obtain ⟨_, _, c0, c1, d0, d1⟩ := HB.out _ hb1'.out
  go_wp2_with fail
  refine (small14_any t w1 _ _ (HC.out _ (HB.out _ hb1'.out).1)).mono ?_
  rintro e w2 ⟨rfl, hb2⟩
  have hb2' := hid (hb1'.out.trans (hb2.mono (HB.out _ hb1'.out).2.1))
  clear hb2 c0 c1 d0 d1
  obtain ⟨hB2, hs2, c0, c1, d0, d1⟩ := HB.out _ hb2'.out
  cases hs : smlB t 60
  · clear hs
    go_wp2_with fail
    refine (awake14_any _).mono ?_
    rintro e w3 ⟨rfl, hb3⟩
    have hb3' := hb2'.out.trans (hb3.mono hs2)
    go_wp2_with fail
    go_ret
    exact ⟨rfl, (HB.out _ hb3').1⟩
  have hsz : t.sz ≤ 90000 := by have := sml_sz hs; omega
  have hsz4 : t.sz ≤ 4000 := by have := sml_sz hs; omega
  clear hs
  go_wp2_with fail
  refine (oreset_any t d _ _ w2 (HC.out _ hB2) hsz4 hd).mono ?_
  rintro e w3 ⟨ve3, vk3, vc3, rfl, hrd, hsc, hb3⟩
  have hb3' := hid (hb2'.out.trans (hb3.mono hs2))
  clear hb3 c0 c1 d0 d1
  obtain ⟨hB3, hs3, c0, c1, d0, d1⟩ := HB.out _ hb3'.out
  have HC1 : Hid (disC t d = if chkT t d then seenC t d else []) := rfl
  have HE1 : Hid (chkI t d = if chkT t d then 0 else 1) := rfl
  obtain ⟨T, hT⟩ : ∃ T, T = Tr.mk [] [] := ⟨_, rfl⟩
  rw [← hT] at hrd
  have HT1 := hid hT
  clear hT
  generalize disC t d = C at *
  generalize chkI t d = k at *
  obtain ⟨Ae, ne, Ak, nk, rfl, rfl⟩ := rda_shape hrd
  obtain ⟨Ac, nc, rfl⟩ := hsc.shape
  have HT : Hid (∀ w', Below w3.heap.size w3 w' → T.rd w' w'.heap.size (.slice Ae T.es.length ne) (.slice Ak T.ks.length nk)) := fun w' hb => rda_rd hrd (fun b hb => hb.2) hb
  have HCt : Hid (∀ w', Below w3.heap.size w3 w' → SlP w' w'.heap.size 3 SpE (.slice Ac C.length nc) C) := fun w' hb => hsc.slp (fun b hb => hb.2) hb
  have HX : Hid (∀ w', Below (w3.heap.size + 1) (w3.alloc (.cells #[.slice Ae T.es.length ne, .slice Ak T.ks.length nk, .slice Ac C.length nc] 29)) w' → Below w.heap.size w w' ∧ Below w3.heap.size w3 w' ∧ w3.heap.size + 1 ≤ w'.heap.size ∧ (w'.cell? ⟨w.heap.size + 1, 0, none⟩ = some (.int .i64 d.dc) ∧ w'.cell? ⟨w.heap.size + 1, 1, none⟩ = some (.int .i64 d.n) ∧ w'.cell? ⟨w3.heap.size, 0, none⟩ = some (.slice Ae T.es.length ne) ∧ w'.cell? ⟨w3.heap.size, 1, none⟩ = some (.slice Ak T.ks.length nk) ∧ w'.cell? ⟨w3.heap.size, 2, none⟩ = some (.slice Ac C.length nc) ∧
      w'.cell? ⟨w.heap.size, 0, none⟩ = some (.slice A3 t.es.length n3) ∧ w'.cell? ⟨w.heap.size, 1, none⟩ = some (.slice A4 t.ks.length n4))) := fun w' hb => by
    have hB : Below w3.heap.size w3 w' := ((Below.refl _ w3).alloc (Nat.le_refl _) _).trans (hb.mono (by omega))
    refine ⟨hB3.trans (hB.mono (by omega)), hB, by have := hb.size; simpa using this, ⟨?_, ?_, ?_, ?_, ?_, ?_, ?_⟩⟩
    · rw [hB.cell (p := ⟨w.heap.size + 1, 0, none⟩) (by show w.heap.size + 1 < _; omega)]; exact d0
    · rw [hB.cell (p := ⟨w.heap.size + 1, 1, none⟩) (by show w.heap.size + 1 < _; omega)]; exact d1
    · rw [hb.cell (p := ⟨w3.heap.size, 0, none⟩) (by simp), World.cell?_alloc_new]; rfl
    · rw [hb.cell (p := ⟨w3.heap.size, 1, none⟩) (by simp), World.cell?_alloc_new]; rfl
    · rw [hb.cell (p := ⟨w3.heap.size, 2, none⟩) (by simp), World.cell?_alloc_new]; rfl
    · rw [hB.cell (p := ⟨w.heap.size, 0, none⟩) (by show w.heap.size < _; omega)]; exact c0
    · rw [hB.cell (p := ⟨w.heap.size, 1, none⟩) (by show w.heap.size < _; omega)]; exact c1
  have hlt3 : w.heap.size + 1 < w3.heap.size := by omega
  have hlt4 : w.heap.size < w3.heap.size := by omega
  have hne3 : w.heap.size + 1 ≠ w3.heap.size := by omega
  have hne4 : w.heap.size ≠ w3.heap.size := by omega
  clear hrd hsc
  go_wp2_with fail
  refine (r10check_any t d _ _ _ (HC.out _ (HX.out _ (Below.refl _ _)).1) hsz).mono ?_
  rintro e w4 ⟨rfl, hb4'⟩
  have hbx := hid ((Below.refl (w3.heap.size + 1) (w3.alloc (.cells #[.slice Ae T.es.length ne, .slice Ak T.ks.length nk, .slice Ac C.length nc] 29))).trans (hb4'.mono (by simp)))
  clear hb4' c0 c1 d0 d1
  obtain ⟨hB4, hb4', hs4, d0, d1, x0, x1, x2, c0, c1⟩ := HX.out _ hbx.out
  have hb4 := hid hb4'
  clear hb4'
  cases hc : chkT t d
  · have hk : k = 1 := by rw [HE1.out, hc]; rfl
    subst hk
    have HSM : Hid ((trEq T (.mk [] []) && decide (C = [])) = true) := by unfold Hid; rw [HT1.out, HC1.out, hc]; simp [trEq]
    clear hc
    go_wp2_with fail
    refine (r09same_any T (.mk [] []) C [] _ _ _ _ _ _ w4 (HT.out _ hb4.out) rd_empty (HCt.out _ hb4.out) SlP.nil).mono ?_
    rw [HSM.out]
    rintro e w5 ⟨rfl, hb5⟩
    go_wp2_with fail
    go_ret
    exact ⟨rfl, hB4.trans (hb5.mono (by omega))⟩
  · have hk : k = 0 := by rw [HE1.out, hc]; rfl
    subst hk
    have hdr := chkT_right hc
    have htr := chkT_tree hc
    have hbd := right_bd hdr
    have HSM : Hid ((trEq T (.mk [] []) && decide (C = ctxBy (ctxOf t.dots) [⟨d.dc, d.n, d.n⟩] 0)) = true) := by
      unfold Hid; rw [HT1.out, HC1.out, hc, if_pos rfl, seen_eq hdr]; simp [trEq]
    have HRN : Hid (∀ d ∈ t.dots, 0 ≤ d.n ∧ d.n ≤ 1099511627778) := right_nums htr
    have hcl : (ctxOf t.dots).length ≤ 50000 := by have := ctxOf_len t.dots; have := dots_len t; omega
    have HBL : Hid ((ctxOf t.dots).length ≤ Big) := by unfold Hid Big; omega
    have HSD : Hid (SpsOk (ctxOf t.dots)) := spsOk_ctxOf (right_dots t 5 htr)
    have HSP : Hid (SpsOk [⟨d.dc, d.n, d.n⟩]) := fun s hs => by simp at hs; subst hs; simp; omega
    have HEO : Hid (En.Ok ⟨d.dc, d.n, ByteArray.empty, 0⟩) := En.Ok.mk' hd ⟨by decide, by decide⟩
    have HY : Hid (∀ w', Below w4.heap.size w4 w' → w'.cell? ⟨w.heap.size + 1, 0, none⟩ = some (.int .i64 d.dc) ∧ w'.cell? ⟨w.heap.size + 1, 1, none⟩ = some (.int .i64 d.n) ∧ w'.cell? ⟨w3.heap.size, 0, none⟩ = some (.slice Ae T.es.length ne) ∧ w'.cell? ⟨w3.heap.size, 1, none⟩ = some (.slice Ak T.ks.length nk) ∧ w'.cell? ⟨w3.heap.size, 2, none⟩ = some (.slice Ac C.length nc) ∧ w'.cell? ⟨w.heap.size, 0, none⟩ = some (.slice A3 t.es.length n3) ∧ w'.cell? ⟨w.heap.size, 1, none⟩ = some (.slice A4 t.ks.length n4)) := fun w' hb => (HX.out _ (hbx.out.trans (hb.mono hs4))).2.2.2
    clear hc hdr hbd htr
    go_upto_region 6 with (fail)
    go_region_held3 (fun w' => w'.cell? ⟨w.heap.size + 1, 0, none⟩ = some (.int .i64 d.dc) ∧ w'.cell? ⟨w.heap.size + 1, 1, none⟩ = some (.int .i64 d.n) ∧ w'.cell? ⟨w3.heap.size, 0, none⟩ = some (.slice Ae T.es.length ne) ∧ w'.cell? ⟨w3.heap.size, 1, none⟩ = some (.slice Ak T.ks.length nk) ∧ w'.cell? ⟨w3.heap.size, 2, none⟩ = some (.slice Ac C.length nc) ∧ w'.cell? ⟨w.heap.size, 0, none⟩ = some (.slice A3 t.es.length n3) ∧ w'.cell? ⟨w.heap.size, 1, none⟩ = some (.slice A4 t.ks.length n4))
      (first | go_keep | exact HY.out _ hb7.out | exact HY.out _ hb6.out | exact HY.out _ hb5.out)
      (first | (go_at_call 28; go_loud ((refine (r08dots_any t _ _ _ (HC.out _ hB4.drew) hsz HRN.out).mono ?_); rintro e w5 ⟨v5, rfl, ho5, hb⟩; have hb5 := hid (((Below.refl w4.heap.size w4).drew).trans hb); have hsl5 := hid (ho5.sl HBL.out); obtain ⟨A9, c9, hv9⟩ := ho5.shape; subst hv9; clear ho5))
             | (go_at_call 27; go_loud ((refine (r10gone_any d (ctxOf t.dots) _ w5 hd hsl5.out hcl HSD.out HSP.out).mono ?_); rintro e w6 ⟨ve6, vk6, vc6, rfl, hrd5, hsc5, hb⟩; obtain ⟨A5, n5, A6, n6, hv5, hv6⟩ := rda_shape hrd5; subst hv5; subst hv6; obtain ⟨A7, n7, hv7⟩ := hsc5.shape; subst hv7; have hrd6 := hid (rda_rd hrd5 (fun b hb => hb.2) (Below.refl _ _)); have hsc6 := hid (hsc5.slp (fun b hb => hb.2) (Below.refl _ _)); clear hrd5 hsc5; have hb6 := hid (hb5.out.trans (hb.mono hb5.out.size))))
             | (go_at_call 21; go_loud ((refine (r09same_any T _ C _ _ _ _ _ _ _ w6 (HT.out _ (hb4.out.trans (hb6.out.mono (by omega)))) hrd6.out (HCt.out _ (hb4.out.trans (hb6.out.mono (by omega)))) hsc6.out).mono ?_); rw [HSM.out]; rintro e w7 ⟨rfl, hb⟩; have hb7 := hid (hb6.out.trans (hb.mono hb6.out.size)))))
    go_wp2_with fail
    go_ret
    exact ⟨rfl, hB4.trans (hb7.out.mono (by omega))⟩
end Go.Proofs.YtdcmjmcipgadlaaGreat

namespace Go.Proofs.YtdcmjmcipgadlaaGreat
open Go.RowKit
set_option maxRecDepth 100000

/-- What set.check tells. -/
def sckB (t : Tr) (s : ByteArray) (d : Dt) : Bool := chkT t d && keyB s
def sckI (t : Tr) (s : ByteArray) (d : Dt) : Int := if sckB t s d then 0 else 1
set_option maxHeartbeats 2000000 in
theorem scheck_any (t : Tr) (s : ByteArray) (d : Dt) (ve vk : Value) (w : World) (h : t.rd w w.heap.size ve vk) (hs : s.size ≤ Big) (hN : t.sz ≤ 90000) :
    Calls Tryz.prog 88 #[.agg #[ve, vk], .string s, .agg #[.int .i64 d.dc, .int .i64 d.n]] w fun e w' => e = .returned (.int .i64 (sckI t s d)) ∧ Below w.heap.size w w' := by
  have HC : Hid (∀ w', Below w.heap.size w w' → t.rd w' w'.heap.size ve vk) := fun w' hb => rd_below hb hb.size _ _ _ h
  obtain ⟨A3, n3, A4, n4, rfl, rfl⟩ := rd_shape h
  have hb0 := ((Below.refl w.heap.size w).alloc (Nat.le_refl _) (.cells #[.slice A3 t.es.length n3, .slice A4 t.ks.length n4] 25)).alloc (by simp) (.cells #[.int .i64 d.dc, .int .i64 d.n] 47)
  unfold Big at hs
  clear h
  go_enter Tryz.func88, Tryz.ntmps88
  go_wp2_with fail
  refine (fcheck_any t d _ _ _ (HC.out _ hb0) (by omega)).mono ?_
  rintro e w1 ⟨rfl, hb1⟩
  have hB1 : Below w.heap.size w w1 := hb0.trans (hb1.mono (by simp; omega))
  clear hb1 hb0
  cases hc : chkT t d
  · have HI : Hid (chkI t d = 1) := by unfold Hid chkI; rw [hc]; rfl
    have HR : Hid (sckI t s d = 1) := by unfold Hid sckI sckB; rw [hc]; rfl
    rw [HI.out]
    clear hc
    go_wp2_with fail
    go_ret
    exact ⟨ret_int HR.out.symm, hB1⟩
  have HI : Hid (chkI t d = 0) := by unfold Hid chkI; rw [hc]; rfl
  rw [HI.out]
  cases hk : keyB s
  · have HR : Hid (sckI t s d = 1) := by unfold Hid sckI sckB; rw [hc, hk]; rfl
    have hkb : ¬ (1 ≤ s.size ∧ s.size ≤ 30) := by simpa [keyB] using hk
    clear hc hk
    by_cases hz : s.size < 1
    · have t1 : decide ((s.size : Int) < 1) = true := by simp; omega
      go_wp2_with fail
      go_ret
      exact ⟨ret_int HR.out.symm, hB1⟩
    · have t1 : decide ((s.size : Int) < 1) = false := by simp; omega
      have t2 : decide ((30 : Int) < s.size) = true := by simp; omega
      go_wp2_with fail
      go_ret
      exact ⟨ret_int HR.out.symm, hB1⟩
  · have HR : Hid (sckI t s d = 0) := by unfold Hid sckI sckB; rw [hc, hk]; rfl
    have hkb : 1 ≤ s.size ∧ s.size ≤ 30 := by simpa [keyB] using hk
    have t1 : decide ((s.size : Int) < 1) = false := by simp; omega
    have t2 : decide ((30 : Int) < s.size) = false := by simp; omega
    clear hc hk
    go_wp2_with fail
    go_ret
    exact ⟨ret_int HR.out.symm, hB1⟩

theorem setHasClo_any (key x : ByteArray) (A A' : Option Addr) (n c n' c' : Nat) (B : Nat) (w : World) (hc : w.cell? ⟨B, 0, none⟩ = some (.string key)) (hB : B < w.heap.size) :
    Calls Tryz.prog 123 #[.agg #[.string x, .slice A n c, .slice A' n' c'], .pointer (some ⟨B, 0, none⟩)] w fun e w' => e = .returned (.bool (decide (x = key))) ∧ Below w.heap.size w w' := by
  have hne : B ≠ w.heap.size := by omega
  have HE : Hid ((x.toList == key.toList) = decide (x = key)) := by
    unfold Hid; rw [Bool.eq_iff_iff]; simp [bytes_inj]
  go_enter Tryz.func123, Tryz.ntmps123
  go_wp2_with fail
  go_ret
  exact ⟨ret_bool HE.out, by go_grown⟩
theorem setHasTest {key : ByteArray} {B : Nat} {w : World} (hc : w.cell? ⟨B, 0, none⟩ = some (.string key)) (hB : B < w.heap.size) : TestKid 123 #[.pointer (some ⟨B, 0, none⟩)] (fun x => decide (x = key)) w :=
  ⟨enters_of Tryz.func123 (by kernel_rfl) rfl, fun x A A' n c n' c' W _ hW => setHasClo_any key x A A' n c n' c' B W ((hW.cell (p := ⟨B, 0, none⟩) hB).trans hc) (by have := hW.size; omega)⟩
/-- Is there a kid at this key? -/
def hasK (t : Tr) (s : ByteArray) : Bool := t.ks.any fun y => decide (y.1 = s)
theorem sethas_any (t : Tr) (s : ByteArray) (ve vk : Value) (w : World) (h : t.rd w w.heap.size ve vk) :
    Calls Tryz.prog 89 #[.agg #[ve, vk], .string s] w fun e w' => e = .returned (.bool (hasK t s)) ∧ Below w.heap.size w w' := by
  have HK : Hid (∀ w', Below w.heap.size w w' → SlP w' w'.heap.size 3 (KdE w' w'.heap.size) vk t.ks) := fun w' hb => kids_slp (rd_below hb hb.size _ _ _ h)
  obtain ⟨A3, n3, A4, n4, rfl, rfl⟩ := rd_shape h
  clear h
  go_enter Tryz.func89, Tryz.ntmps89
  go_wp2_with fail
  refine (conKid_any (fun y => decide (y = s)) _ _ t.ks _ _ (HK.out _ (by go_grown)) (setHasTest (key := s) (B := w.heap.size + 1) (by simp) (by simp))).mono ?_
  rintro e w1 ⟨rfl, hb1⟩
  go_wp2_with fail
  go_ret
  exact ⟨ret_bool rfl, Below.trans (by go_grown) (hb1.mono (by simp; omega))⟩

theorem kid_right5 {t : Tr} (h : t.right 5 = true) (s : ByteArray) : (kidT t s).right 5 = true := right_up _ 4 5 (kidT_right (n := 4) h (by omega) s) (by omega)
set_option maxHeartbeats 2000000 in
theorem sseen_any (t : Tr) (s : ByteArray) (d : Dt) (ve vk : Value) (w : World) (h : t.rd w w.heap.size ve vk) (hs : s.size ≤ Big) (hN : t.sz ≤ 4000) (hr : t.right 5 = true) (hd : d.right = true) (ho : d.Ok) :
    Calls Tryz.prog 90 #[.agg #[ve, vk], .string s, .agg #[.int .i64 d.dc, .int .i64 d.n]] w (RetO w 79 3 (fun _ => SpE) (seenC (kidT t s) d)) := by
  have HC : Hid (∀ w', Below w.heap.size w w' → t.rd w' w'.heap.size ve vk) := fun w' hb => rd_below hb hb.size _ _ _ h
  have hk5 := kid_right5 hr s
  have hks := kidT_sz t s
  have hG : tgetT t [s] = kidT t s := by unfold tgetT; rw [hr]; rfl
  have HSN : Hid (seenC (kidT t s) d = ctxBy (ctxOf (kidT t s).dots) (ctxOf [d]) 0) := rfl
  generalize kidT t s = u at *
  have hdl := dots_len u
  have h2 := ctxOf_len u.dots
  have h3 := ctxOf_len [d]
  simp only [List.length_singleton] at h3
  have HAA := hid (apart_ctxOf (right_dots u 5 hk5))
  have HAB := hid (apart_ctxOf (right_one hd))
  have HDR := hid (right_one hd)
  obtain ⟨A3, n3, A4, n4, rfl, rfl⟩ := rd_shape h
  have hb0 := ((Below.refl w.heap.size w).alloc (Nat.le_refl _) (.cells #[.slice A3 t.es.length n3, .slice A4 t.ks.length n4] 25)).alloc (by simp) (.cells #[.int .i64 d.dc, .int .i64 d.n] 47)
  have hb1 : Below w.heap.size w (((w.alloc (.cells #[.slice A3 t.es.length n3, .slice A4 t.ks.length n4] 25)).alloc (.cells #[.int .i64 d.dc, .int .i64 d.n] 47)).alloc (.cells #[.string s] 9)) := hb0.alloc (by simp; omega) _
  clear h hr hd
  go_enter Tryz.func90, Tryz.ntmps90
  go_wp2_with fail
  refine (tget_any t [s] _ _ _ _ (HC.out _ hb1) (SlP.oneB (E := StE) (n := w.heap.size + 1 + 1) (x := s) (cs := [.string s]) ⟨rfl, hs⟩ rfl _ (by simp) (by simp)) (by omega)).mono ?_
  rw [hG]
  rintro e w1 ⟨ve1, vk1, rfl, hrd1, hb2⟩
  obtain ⟨A5, n5, A6, n6, rfl, rfl⟩ := rda_shape hrd1
  have hs1 := hb2.size
  simp only [World.size_alloc] at hs1
  have hB1 : Below w.heap.size w w1 := hb1.trans (hb2.mono (by simp; omega))
  have c0 : w1.cell? ⟨w.heap.size + 1, 0, none⟩ = some (.int .i64 d.dc) := by
    rw [hb2.cell (p := ⟨w.heap.size + 1, 0, none⟩) (by simp), World.cell?_alloc_lt _ _ _ (by simp)]; simp
  have c1 : w1.cell? ⟨w.heap.size + 1, 1, none⟩ = some (.int .i64 d.n) := by
    rw [hb2.cell (p := ⟨w.heap.size + 1, 1, none⟩) (by simp), World.cell?_alloc_lt _ _ _ (by simp)]; simp
  have HU := hid (rda_rd hrd1 (fun b hb => hb.2) (Below.refl _ w1))
  have HK5 := hid hk5
  clear hrd1 hb2 hG hk5
  go_wp2_with fail
  refine (tdots_any u _ _ w1 HU.out (by omega)).mono ?_
  rintro e w2 ⟨v2, n2, rfl, hn2, ho2, hb2⟩
  rw [HK5.out] at ho2 hn2
  obtain rfl : n2 = 0 := hn2
  rw [if_pos rfl] at ho2
  obtain ⟨A7, n7, rfl⟩ := ho2.shape
  have hs2 := hb2.size
  have hB2 : Below w.heap.size w w2 := hB1.trans (hb2.mono (by omega))
  have d0 : w2.cell? ⟨w.heap.size + 1, 0, none⟩ = some (.int .i64 d.dc) := (hb2.cell (p := ⟨w.heap.size + 1, 0, none⟩) (by show w.heap.size + 1 < _; omega)).trans c0
  have d1 : w2.cell? ⟨w.heap.size + 1, 1, none⟩ = some (.int .i64 d.n) := (hb2.cell (p := ⟨w.heap.size + 1, 1, none⟩) (by show w.heap.size + 1 < _; omega)).trans c1
  have HO2 := hid ho2
  clear ho2 c0 c1 hb2
  go_wp2_with fail
  refine (cof_any [d] _ _ (SlP.oneB (E := DtE) (x := d) (cs := [.int .i64 d.dc, .int .i64 d.n]) ⟨rfl, ho⟩ rfl _ rfl (by simp)) HDR.out (by simp)).mono ?_
  rintro e w3 ⟨v3, rfl, ho3, hb3⟩
  obtain ⟨A8, n8, rfl⟩ := ho3.shape
  have hs3 := hb3.size
  simp only [World.size_alloc] at hs3
  have hb3' : Below w2.heap.size w2 w3 := ((Below.refl _ w2).alloc (Nat.le_refl _) _).trans (hb3.mono (by simp))
  have H1 := hid ((HO2.out.grow hb3').sl (by unfold Big; omega))
  have H2 := hid (ho3.sl (by unfold Big; omega))
  clear ho3 hb3 d0 d1
  go_wp2_with fail
  refine (cunion_any (ctxOf u.dots) (ctxOf [d]) _ _ w3 H1.out H2.out HAA.out HAB.out (by omega) (by omega)).mono ?_
  rintro e w4 ⟨v4, rfl, ho4, hb4⟩
  go_wp2_with fail
  go_ret
  exact ⟨_, rfl, by rw [HSN.out]; exact ho4.mono (by omega), (hB2.trans (hb3'.mono (by omega))).trans (hb4.mono (by omega))⟩
end Go.Proofs.YtdcmjmcipgadlaaGreat

namespace Go.Proofs.YtdcmjmcipgadlaaGreat
open Go.RowKit
set_option maxRecDepth 100000

/-- What set.Del knows. -/
def delC (t : Tr) (s : ByteArray) (d : Dt) : List Sp := if sckB t s d then seenC (kidT t s) d else []
theorem sck_chk {t : Tr} {s : ByteArray} {d : Dt} (h : sckB t s d = true) : chkT t d = true ∧ keyB s = true := by
  unfold sckB at h; simpa using h
set_option maxHeartbeats 4000000 in
theorem sdel_any (t : Tr) (s : ByteArray) (d : Dt) (ve vk : Value) (w : World) (h : t.rd w w.heap.size ve vk) (hs : s.size ≤ Big) (hN : t.sz ≤ 4000) (hd : d.Ok) :
    Calls Tryz.prog 40 #[.agg #[ve, vk], .string s, .agg #[.int .i64 d.dc, .int .i64 d.n]] w (RetCE w (.mk [] []) (delC t s d) (sckI t s d)) := by
  have HC : Hid (∀ w', Below w.heap.size w w' → t.rd w' w'.heap.size ve vk) := fun w' hb => rd_below hb hb.size _ _ _ h
  obtain ⟨A3, n3, A4, n4, rfl, rfl⟩ := rd_shape h
  have hb0 := (((Below.refl w.heap.size w).alloc (Nat.le_refl _) (.cells #[.slice A3 t.es.length n3, .slice A4 t.ks.length n4] 25)).alloc (by simp) (.cells #[.int .i64 d.dc, .int .i64 d.n] 47)).alloc (by simp; omega) (.cells #[.slice none 0 0, .slice none 0 0, .slice none 0 0] 29)
  clear h
  go_enter Tryz.func40, Tryz.ntmps40
  go_wp2_with fail
  refine (scheck_any t s d _ _ _ (HC.out _ hb0) hs (by omega)).mono ?_
  rintro e w1 ⟨rfl, hb1⟩
  have hs1 := hb1.size
  simp only [World.size_alloc] at hs1
  have hB1 : Below w.heap.size w w1 := hb0.trans (hb1.mono (by simp; omega))
  have c0 : w1.cell? ⟨w.heap.size, 0, none⟩ = some (.slice A3 t.es.length n3) := by
    rw [hb1.cell (p := ⟨w.heap.size, 0, none⟩) (by simp; omega)]
    rw [World.cell?_alloc_lt _ _ _ (by simp; omega), World.cell?_alloc_lt _ _ _ (by simp)]; simp
  have c1 : w1.cell? ⟨w.heap.size, 1, none⟩ = some (.slice A4 t.ks.length n4) := by
    rw [hb1.cell (p := ⟨w.heap.size, 1, none⟩) (by simp; omega)]
    rw [World.cell?_alloc_lt _ _ _ (by simp; omega), World.cell?_alloc_lt _ _ _ (by simp)]; simp
  have d0 : w1.cell? ⟨w.heap.size + 1, 0, none⟩ = some (.int .i64 d.dc) := by rw [hb1.cell (p := ⟨w.heap.size + 1, 0, none⟩) (by simp), World.cell?_alloc_lt _ _ _ (by simp)]; simp
  have d1 : w1.cell? ⟨w.heap.size + 1, 1, none⟩ = some (.int .i64 d.n) := by rw [hb1.cell (p := ⟨w.heap.size + 1, 1, none⟩) (by simp), World.cell?_alloc_lt _ _ _ (by simp)]; simp
  have hg : w1.heap[w.heap.size + 2]? = some (.cells #[.slice none 0 0, .slice none 0 0, .slice none 0 0] 29 (0, 0)) := (hb1.block (w.heap.size + 2) (by simp)).trans (heap_new (by simp))
  have HG := hid hg
  have k0 : w1.cell? ⟨w.heap.size + 2, 0, none⟩ = some (.slice none 0 0) := cell_cells (i := 0) hg
  have k1 : w1.cell? ⟨w.heap.size + 2, 1, none⟩ = some (.slice none 0 0) := cell_cells (i := 1) hg
  have k2 : w1.cell? ⟨w.heap.size + 2, 2, none⟩ = some (.slice none 0 0) := cell_cells (i := 2) hg
  have z0 := cells_frz (i := 0) hg
  have z1 := cells_frz (i := 1) hg
  have z2 := cells_frz (i := 2) hg
  clear hg hb1
  cases hc : sckB t s d
  · have HE : Hid (sckI t s d = 1) := by unfold Hid sckI; rw [hc]; rfl
    have HD : Hid (delC t s d = []) := by unfold Hid delC; rw [hc]; rfl
    rw [HE.out]
    clear hc
    go_wp2_with fail
    obtain ⟨r0, r1, r2, hK, hS⟩ := box3 HG.out (.slice none 0 0) (.slice none 0 0) (.slice none 0 0)
    have hBW := ((hB1.setCell (p := ⟨w.heap.size + 2, 0, none⟩) (by simp) (.slice none 0 0)).setCell (p := ⟨w.heap.size + 2, 1, none⟩) (by simp) (.slice none 0 0)).setCell (p := ⟨w.heap.size + 2, 2, none⟩) (by simp) (.slice none 0 0)
    refine bodyPost_ret (v := .tuple #[.agg #[.slice none 0 0, .slice none 0 0, .slice none 0 0], .int .i64 1]) (by simp [results, Tryz.results40, go_sem, r0, r1, r2]) rfl ⟨_, _, _, by rw [HE.out], ?_, ?_, hBW⟩
    · exact rda_nil _ _
    · rw [HD.out]; exact SlA.nil
  · have HE : Hid (sckI t s d = 0) := by unfold Hid sckI; rw [hc]; rfl
    have HD : Hid (delC t s d = seenC (kidT t s) d) := by unfold Hid delC; rw [hc]; rfl
    have HDR := hid (chkT_right (sck_chk hc).1)
    have HTR := hid (chkT_tree (sck_chk hc).1)
    rw [HE.out]
    clear hc
    go_wp2_with fail
    refine (sseen_any t s d _ _ w1 (HC.out _ hB1) hs hN HTR.out HDR.out hd).mono ?_
    rintro e w2 ⟨v2, rfl, ho2, hb2⟩
    obtain ⟨A2, c2, rfl⟩ := ho2.shape
    have hs2 := hb2.size
    have hB2 : Below w.heap.size w w2 := hB1.trans (hb2.mono (by omega))
    have HG2 := hid ((hb2.block (w.heap.size + 2) (by omega)).trans HG.out)
    clear k0 k1 k2 z0 z1 z2 c0 c1 d0 d1
    have k0 : w2.cell? ⟨w.heap.size + 2, 0, none⟩ = some (.slice none 0 0) := cell_cells (i := 0) HG2.out
    have k1 : w2.cell? ⟨w.heap.size + 2, 1, none⟩ = some (.slice none 0 0) := cell_cells (i := 1) HG2.out
    have k2 : w2.cell? ⟨w.heap.size + 2, 2, none⟩ = some (.slice none 0 0) := cell_cells (i := 2) HG2.out
    have z0 := cells_frz (i := 0) HG2.out
    have z1 := cells_frz (i := 1) HG2.out
    have z2 := cells_frz (i := 2) HG2.out
    have HO2 := hid ho2
    have hsc := seenC_len (kidT t s) d
    have hkz := kidT_sz t s
    clear ho2
    go_wp2_with fail
    obtain ⟨r0, r1, r2, hK, hS⟩ := box3 HG2.out (.slice none 0 0) (.slice none 0 0) (.slice A2 (seenC (kidT t s) d).length c2)
    have hBW := ((hB2.setCell (p := ⟨w.heap.size + 2, 0, none⟩) (by simp) (.slice none 0 0)).setCell (p := ⟨w.heap.size + 2, 1, none⟩) (by simp) (.slice none 0 0)).setCell (p := ⟨w.heap.size + 2, 2, none⟩) (by simp) (.slice A2 (seenC (kidT t s) d).length c2)
    refine bodyPost_ret (v := .tuple #[.agg #[.slice none 0 0, .slice none 0 0, .slice A2 (seenC (kidT t s) d).length c2], .int .i64 0]) (by simp [results, Tryz.results40, go_sem, r0, r1, r2]) rfl ⟨_, _, _, by rw [HE.out], rda_nil _ _, ?_, hBW⟩
    rw [HD.out]
    refine (HO2.out.sla (by unfold Big; omega)).up (fun b hb => hK b (by have := hb.1; omega)) (fun b hb => ⟨by have := hb.1; omega, by rw [hS]; exact hb.2.1⟩) (fun _ _ _ h => h)
end Go.Proofs.YtdcmjmcipgadlaaGreat

namespace Go.Proofs.YtdcmjmcipgadlaaGreat
open Go.RowKit
set_option maxRecDepth 100000

/-- What set.Add makes: the error's number, the tree, the context. -/
def addE (t : Tr) (s : ByteArray) (d : Dt) : Int := if !sckB t s d then 1 else if decide (24 ≤ t.ks.length) && !hasK t s then 4 else 0
def oneE (d : Dt) : Tr := .mk [⟨d.dc, d.n, ByteArray.empty, 0⟩] []
def addT (t : Tr) (s : ByteArray) (d : Dt) : Tr := if addE t s d = 0 then .mk [] [(s, oneE d)] else .mk [] []
def addC (t : Tr) (s : ByteArray) (d : Dt) : List Sp := if addE t s d = 0 then seenC (kidT t s) d else []
theorem addEnE {d : Dt} (hd : d.Ok) : EnE (⟨d.dc, d.n, ByteArray.empty, 0⟩ : En) [.int .i64 d.dc, .int .i64 d.n, .string ByteArray.empty, .int .i64 0] := ⟨rfl, En.Ok.mk' hd ⟨by decide, by decide⟩⟩
theorem oneE_right {d : Dt} (h : d.right = true) : (oneE d).right 5 = true := by
  unfold oneE
  rw [Tr.right, Tr.rightL]
  simp [entsB, En.right, okP, En.dot]
  exact h
theorem oneE_wrap {d : Dt} {s : ByteArray} (h : d.right = true) (hk : keyB s = true) : wrapE (oneE d) s = 0 ∧ wrapT (oneE d) s = .mk [] [(s, oneE d)] := by
  have hE : wrapE (oneE d) s = 0 := by
    unfold wrapE
    rw [oneE_right h, hk]
    rfl
  refine ⟨hE, ?_⟩
  unfold wrapT
  rw [hE, if_pos rfl]
  rfl

set_option maxHeartbeats 4000000 in
theorem sadd_any (t : Tr) (s : ByteArray) (d : Dt) (ve vk : Value) (w : World) (h : t.rd w w.heap.size ve vk) (hs : s.size ≤ Big) (hN : t.sz ≤ 4000) (hd : d.Ok) :
    Calls Tryz.prog 31 #[.agg #[ve, vk], .string s, .agg #[.int .i64 d.dc, .int .i64 d.n]] w (RetCE w (addT t s d) (addC t s d) (addE t s d)) := by
  have hsc := seenC_len (kidT t s) d
  have hkz := kidT_sz t s
  have HC : Hid (∀ w', Below w.heap.size w w' → t.rd w' w'.heap.size ve vk) := fun w' hb => rd_below hb hb.size _ _ _ h
  obtain ⟨A3, n3, A4, n4, rfl, rfl⟩ := rd_shape h
  have hb0 := (((Below.refl w.heap.size w).alloc (Nat.le_refl _) (.cells #[.slice A3 t.es.length n3, .slice A4 t.ks.length n4] 25)).alloc (by simp) (.cells #[.int .i64 d.dc, .int .i64 d.n] 47)).alloc (by simp; omega) (.cells #[.slice none 0 0, .slice none 0 0, .slice none 0 0] 29)
  clear h
  go_enter Tryz.func31, Tryz.ntmps31
  go_wp2_with fail
  refine (scheck_any t s d _ _ _ (HC.out _ hb0) hs (by omega)).mono ?_
  rintro e w1 ⟨rfl, hb1⟩
  have hs1 := hb1.size
  simp only [World.size_alloc] at hs1
  have hB1 : Below w.heap.size w w1 := hb0.trans (hb1.mono (by simp; omega))
  have c0 : w1.cell? ⟨w.heap.size, 0, none⟩ = some (.slice A3 t.es.length n3) := by
    rw [hb1.cell (p := ⟨w.heap.size, 0, none⟩) (by simp; omega)]
    rw [World.cell?_alloc_lt _ _ _ (by simp; omega), World.cell?_alloc_lt _ _ _ (by simp)]; simp
  have c1 : w1.cell? ⟨w.heap.size, 1, none⟩ = some (.slice A4 t.ks.length n4) := by
    rw [hb1.cell (p := ⟨w.heap.size, 1, none⟩) (by simp; omega)]
    rw [World.cell?_alloc_lt _ _ _ (by simp; omega), World.cell?_alloc_lt _ _ _ (by simp)]; simp
  have d0 : w1.cell? ⟨w.heap.size + 1, 0, none⟩ = some (.int .i64 d.dc) := by rw [hb1.cell (p := ⟨w.heap.size + 1, 0, none⟩) (by simp), World.cell?_alloc_lt _ _ _ (by simp)]; simp
  have d1 : w1.cell? ⟨w.heap.size + 1, 1, none⟩ = some (.int .i64 d.n) := by rw [hb1.cell (p := ⟨w.heap.size + 1, 1, none⟩) (by simp), World.cell?_alloc_lt _ _ _ (by simp)]; simp
  have hg : w1.heap[w.heap.size + 2]? = some (.cells #[.slice none 0 0, .slice none 0 0, .slice none 0 0] 29 (0, 0)) := (hb1.block (w.heap.size + 2) (by simp)).trans (heap_new (by simp))
  have HG := hid hg
  have k0 : w1.cell? ⟨w.heap.size + 2, 0, none⟩ = some (.slice none 0 0) := cell_cells (i := 0) hg
  have k1 : w1.cell? ⟨w.heap.size + 2, 1, none⟩ = some (.slice none 0 0) := cell_cells (i := 1) hg
  have k2 : w1.cell? ⟨w.heap.size + 2, 2, none⟩ = some (.slice none 0 0) := cell_cells (i := 2) hg
  have z0 := cells_frz (i := 0) hg
  have z1 := cells_frz (i := 1) hg
  have z2 := cells_frz (i := 2) hg
  clear hg hb1
  have HK1 : Hid (∀ w', Below w1.heap.size w1 w' → Below w.heap.size w w' ∧ w1.heap.size ≤ w'.heap.size ∧ w'.cell? ⟨w.heap.size, 0, none⟩ = some (.slice A3 t.es.length n3) ∧ w'.cell? ⟨w.heap.size, 1, none⟩ = some (.slice A4 t.ks.length n4) ∧ w'.cell? ⟨w.heap.size + 1, 0, none⟩ = some (.int .i64 d.dc) ∧ w'.cell? ⟨w.heap.size + 1, 1, none⟩ = some (.int .i64 d.n) ∧ w'.heap[w.heap.size + 2]? = some (.cells #[.slice none 0 0, .slice none 0 0, .slice none 0 0] 29 (0, 0))) := fun w' hb =>
    ⟨hB1.trans (hb.mono (by omega)), hb.size, (hb.cell (p := ⟨w.heap.size, 0, none⟩) (by show w.heap.size < _; omega)).trans c0, (hb.cell (p := ⟨w.heap.size, 1, none⟩) (by show w.heap.size < _; omega)).trans c1, (hb.cell (p := ⟨w.heap.size + 1, 0, none⟩) (by show w.heap.size + 1 < _; omega)).trans d0, (hb.cell (p := ⟨w.heap.size + 1, 1, none⟩) (by show w.heap.size + 1 < _; omega)).trans d1, (hb.block _ (by omega)).trans HG.out⟩
  clear c0 c1 d0 d1 k0 k1 k2 z0 z1 z2
  have hb1' := hid (Below.refl w1.heap.size w1)
  obtain ⟨hB1, hs1, c0, c1, d0, d1, g6⟩ := HK1.out _ hb1'.out
  have HG1 := hid g6
  have k0 : w1.cell? ⟨w.heap.size + 2, 0, none⟩ = some (.slice none 0 0) := cell_cells (i := 0) g6
  have k1 : w1.cell? ⟨w.heap.size + 2, 1, none⟩ = some (.slice none 0 0) := cell_cells (i := 1) g6
  have k2 : w1.cell? ⟨w.heap.size + 2, 2, none⟩ = some (.slice none 0 0) := cell_cells (i := 2) g6
  have z0 := cells_frz (i := 0) g6
  have z1 := cells_frz (i := 1) g6
  have z2 := cells_frz (i := 2) g6
  clear g6
  cases hc : sckB t s d
  · have HI : Hid (sckI t s d = 1) := by unfold Hid sckI; rw [hc]; rfl
    have HE : Hid (addE t s d = 1) := by unfold Hid addE; rw [hc]; rfl
    have HTT : Hid (addT t s d = .mk [] []) := by unfold Hid addT; rw [HE.out]; rfl
    have HCC : Hid (addC t s d = []) := by unfold Hid addC; rw [HE.out]; rfl
    rw [HI.out]
    clear hc
    go_wp2_with fail
    obtain ⟨r0, r1, r2, hK, hS⟩ := box3 HG1.out (.slice none 0 0) (.slice none 0 0) (.slice none 0 0)
    have hBW := ((hB1.setCell (p := ⟨w.heap.size + 2, 0, none⟩) (by simp) (.slice none 0 0)).setCell (p := ⟨w.heap.size + 2, 1, none⟩) (by simp) (.slice none 0 0)).setCell (p := ⟨w.heap.size + 2, 2, none⟩) (by simp) (.slice none 0 0)
    refine bodyPost_ret (v := .tuple #[.agg #[.slice none 0 0, .slice none 0 0, .slice none 0 0], .int .i64 1]) (by simp [results, Tryz.results31, go_sem, r0, r1, r2]) rfl ⟨_, _, _, by rw [HE.out], by rw [HTT.out]; exact rda_nil _ _, by rw [HCC.out]; exact SlA.nil, hBW⟩
  have HI : Hid (sckI t s d = 0) := by unfold Hid sckI; rw [hc]; rfl
  have HDR := hid (chkT_right (sck_chk hc).1)
  have HTR := hid (chkT_tree (sck_chk hc).1)
  have HWE := hid (oneE_wrap HDR.out (sck_chk hc).2).1
  have HWT := hid (oneE_wrap HDR.out (sck_chk hc).2).2
  rw [HI.out]
  have hfi : decide ((24 : Int) ≤ (t.ks.length : Int)) = decide (24 ≤ t.ks.length) := by rw [Bool.eq_iff_iff]; simp; omega
  cases fl : decide (24 ≤ t.ks.length)
  · have HE : Hid (addE t s d = 0) := by unfold Hid addE; rw [hc, fl]; rfl
    have HTT : Hid (addT t s d = .mk [] [(s, oneE d)]) := by unfold Hid addT; rw [HE.out, if_pos rfl]
    have HCC : Hid (addC t s d = seenC (kidT t s) d) := by unfold Hid addC; rw [HE.out, if_pos rfl]
    rw [fl] at hfi
    clear hc fl
    have hltn : w.heap.size + 2 < w1.heap.size := by omega
    have hen : SlP ((w1.alloc (.cells #[.int .i64 d.dc, .int .i64 d.n, .string ByteArray.empty, .int .i64 0] 56)).alloc (.cells #[.string s] 9)) ((w1.alloc (.cells #[.int .i64 d.dc, .int .i64 d.n, .string ByteArray.empty, .int .i64 0] 56)).alloc (.cells #[.string s] 9)).heap.size 4 EnE (.slice (some ⟨w1.heap.size, 0, none⟩) 1 1) [(⟨d.dc, d.n, ByteArray.empty, 0⟩ : En)] :=
      (SlP.one (x := (⟨d.dc, d.n, ByteArray.empty, 0⟩ : En)) (addEnE hd) rfl 56 rfl).imp ((Below.refl _ _).alloc (by rw [World.size_alloc]; omega) _) (by rw [World.size_alloc, World.size_alloc]; omega) fun _ _ _ h => h
    have HEN : Hid ((oneE d).rd ((w1.alloc (.cells #[.int .i64 d.dc, .int .i64 d.n, .string ByteArray.empty, .int .i64 0] 56)).alloc (.cells #[.string s] 9)) ((w1.alloc (.cells #[.int .i64 d.dc, .int .i64 d.n, .string ByteArray.empty, .int .i64 0] 56)).alloc (.cells #[.string s] 9)).heap.size (.slice (some ⟨w1.heap.size, 0, none⟩) 1 1) (.slice none 0 0)) := rd_iff.2 ⟨hen, SlP.nil⟩
    clear hen
    go_wp2_with fail
    refine (twrap_any (oneE d) s _ _ _ _ HEN.out (SlP.oneB (E := StE) (n := w1.heap.size + 1) (x := s) (cs := [.string s]) ⟨rfl, hs⟩ rfl _ (by simp) (by simp)) (by simp [oneE, Tr.sz, Tr.szL])).mono ?_
    rw [HWE.out, HWT.out]
    rintro e w5 ⟨v5, u5, rfl, hrd5, hb5⟩
    generalize (Tr.mk [] [(s, oneE d)] : Tr) = T at *
    obtain ⟨A8, n8, A9, n9, rfl, rfl⟩ := rda_shape hrd5
    have hs5 := hb5.size
    simp only [World.size_alloc] at hs5
    clear c0 c1 d0 d1 k0 k1 k2 z0 z1 z2
    have hb5' := hid (hb1'.out.trans ((((Below.refl w1.heap.size w1).alloc (Nat.le_refl _) _).alloc (by rw [World.size_alloc]; omega) _).trans (hb5.mono (show w1.heap.size ≤ _ by simp only [World.size_alloc]; omega)) |>.mono hs1))
    obtain ⟨hB5, hs5, c0, c1, d0, d1, g6⟩ := HK1.out _ hb5'.out
    have HG5 := hid g6
    have k0 : w5.cell? ⟨w.heap.size + 2, 0, none⟩ = some (.slice none 0 0) := cell_cells (i := 0) g6
    have k1 : w5.cell? ⟨w.heap.size + 2, 1, none⟩ = some (.slice none 0 0) := cell_cells (i := 1) g6
    have k2 : w5.cell? ⟨w.heap.size + 2, 2, none⟩ = some (.slice none 0 0) := cell_cells (i := 2) g6
    have z0 := cells_frz (i := 0) g6
    have z1 := cells_frz (i := 1) g6
    have z2 := cells_frz (i := 2) g6
    clear g6
    clear hb5
    have hlt2 : w.heap.size + 2 < w5.heap.size := by omega
    have hne2 : w.heap.size + 2 ≠ w5.heap.size := by omega
    have hlt1 : w.heap.size + 1 < w5.heap.size := by omega
    have hne1 : w.heap.size + 1 ≠ w5.heap.size := by omega
    have hlt0 : w.heap.size < w5.heap.size := by omega
    have hne0 : w.heap.size ≠ w5.heap.size := by omega
    have HX : Hid (∀ w', Below (w5.heap.size + 1) (w5.alloc (.cells #[.slice A8 T.es.length n8, .slice A9 T.ks.length n9] 25)) w' → Below w5.heap.size w5 w' ∧ (w'.cell? ⟨w.heap.size, 0, none⟩ = some (.slice A3 t.es.length n3) ∧ w'.cell? ⟨w.heap.size, 1, none⟩ = some (.slice A4 t.ks.length n4) ∧ w'.cell? ⟨w.heap.size + 1, 0, none⟩ = some (.int .i64 d.dc) ∧ w'.cell? ⟨w.heap.size + 1, 1, none⟩ = some (.int .i64 d.n) ∧ w'.cell? ⟨w5.heap.size, 0, none⟩ = some (.slice A8 T.es.length n8) ∧ w'.cell? ⟨w5.heap.size, 1, none⟩ = some (.slice A9 T.ks.length n9))) := fun w' hb => by
      have hB : Below w5.heap.size w5 w' := ((Below.refl _ w5).alloc (Nat.le_refl _) _).trans (hb.mono (by omega))
      refine ⟨hB, (hB.cell (p := ⟨w.heap.size, 0, none⟩) hlt0).trans c0, (hB.cell (p := ⟨w.heap.size, 1, none⟩) hlt0).trans c1, (hB.cell (p := ⟨w.heap.size + 1, 0, none⟩) hlt1).trans d0, (hB.cell (p := ⟨w.heap.size + 1, 1, none⟩) hlt1).trans d1, ?_, ?_⟩
      · rw [hb.cell (p := ⟨w5.heap.size, 0, none⟩) (by simp), World.cell?_alloc_new]; rfl
      · rw [hb.cell (p := ⟨w5.heap.size, 1, none⟩) (by simp), World.cell?_alloc_new]; rfl
    have hneA : w.heap.size + 1 + 1 ≠ w.heap.size := by omega
    have hneB : w.heap.size ≠ w.heap.size + 1 + 1 := by omega
    clear k0 k1 k2 z0 z1 z2
    go_upto_region 7 with (fail)
    go_region_held3 (fun w' => w'.cell? ⟨w.heap.size, 0, none⟩ = some (.slice A3 t.es.length n3) ∧ w'.cell? ⟨w.heap.size, 1, none⟩ = some (.slice A4 t.ks.length n4) ∧ w'.cell? ⟨w.heap.size + 1, 0, none⟩ = some (.int .i64 d.dc) ∧ w'.cell? ⟨w.heap.size + 1, 1, none⟩ = some (.int .i64 d.n) ∧ w'.cell? ⟨w5.heap.size, 0, none⟩ = some (.slice A8 T.es.length n8) ∧ w'.cell? ⟨w5.heap.size, 1, none⟩ = some (.slice A9 T.ks.length n9))
      (first | go_keep | exact (HX.out _ hbx.out).2)
      (first | (go_at_call 90; go_loud ((refine (sseen_any t s d _ _ _ (HC.out _ ((hB5.alloc (by omega) _).drew)) hs hN HTR.out HDR.out hd).mono ?_); rintro e w6 ⟨v6, rfl, ho6, hb6⟩; obtain ⟨A10, c10, hv6⟩ := ho6.shape; subst hv6; have HO6 := hid ho6; have hbx : Hid (Below (w5.heap.size + 1) (w5.alloc (.cells #[.slice A8 T.es.length n8, .slice A9 T.ks.length n9] 25)) w6) := (((Below.refl (w5.heap.size + 1) (w5.alloc (.cells #[.slice A8 T.es.length n8, .slice A9 T.ks.length n9] 25))).drew).trans (hb6.mono (by simp))); have hby := hid (HX.out _ hbx.out).1; have hs6 : w5.heap.size + 1 ≤ w6.heap.size := (by have := hbx.out.size; simpa using this); have HGx := hid ((hby.out.block (w.heap.size + 2) (by omega)).trans HG5.out); have k0 : w6.cell? ⟨w.heap.size + 2, 0, none⟩ = some (.slice none 0 0) := cell_cells (i := 0) HGx.out; have k1 : w6.cell? ⟨w.heap.size + 2, 1, none⟩ = some (.slice none 0 0) := cell_cells (i := 1) HGx.out; have k2 : w6.cell? ⟨w.heap.size + 2, 2, none⟩ = some (.slice none 0 0) := cell_cells (i := 2) HGx.out; have z0 := cells_frz (i := 0) HGx.out; have z1 := cells_frz (i := 1) HGx.out; have z2 := cells_frz (i := 2) HGx.out; have hlt6 : w.heap.size + 2 < w6.heap.size := (by omega); have hne6 : w.heap.size + 2 ≠ w6.heap.size := (by omega); clear ho6 hb6)))
    all_goals go_wp2_with fail
    obtain ⟨r0, r1, r2, hK, hS⟩ := box3 HGx.out (.slice A8 T.es.length n8) (.slice A9 T.ks.length n9) (.slice A10 (seenC (kidT t s) d).length c10)
    have hBW : Below w.heap.size w (((w6.setCell ⟨w.heap.size + 2, 0, none⟩ (.slice A8 T.es.length n8)).setCell ⟨w.heap.size + 2, 1, none⟩ (.slice A9 T.ks.length n9)).setCell ⟨w.heap.size + 2, 2, none⟩ (.slice A10 (seenC (kidT t s) d).length c10)) := (((hB5.trans (hby.out.mono (by omega))).setCell (by simp) _).setCell (by simp) _).setCell (by simp) _
    clear k0 k1 k2 z0 z1 z2
    generalize (((w6.setCell ⟨w.heap.size + 2, 0, none⟩ (.slice A8 T.es.length n8)).setCell ⟨w.heap.size + 2, 1, none⟩ (.slice A9 T.ks.length n9)).setCell ⟨w.heap.size + 2, 2, none⟩ (.slice A10 (seenC (kidT t s) d).length c10)) = W at *
    refine bodyPost_ret (v := .tuple #[.agg #[.slice A8 T.es.length n8, .slice A9 T.ks.length n9, .slice A10 (seenC (kidT t s) d).length c10], .int .i64 0]) (by simp [results, Tryz.results31, go_sem, r0, r1, r2]) rfl ⟨_, _, _, by rw [HE.out], ?_, ?_, hBW⟩
    · rw [HTT.out]
      exact rda_up (fun b hb => (hK b (by have := hb.1; simp only [World.size_alloc] at this; omega)).trans (hby.out.block b hb.2)) (fun b hb => ⟨by have := hb.1; simp only [World.size_alloc] at this; omega, by have := hb.2; omega⟩) _ _ _ hrd5
    · rw [HCC.out]
      refine (HO6.out.sla (by unfold Big; omega)).up (fun b hb => hK b (by have := hb.1; simp only [World.size_alloc, World.size_drew] at this; omega)) (fun b hb => ⟨by have := hb.1; simp only [World.size_alloc, World.size_drew] at this; omega, by have := hb.2.1; omega⟩) (fun _ _ _ h => h)
  · rw [fl] at hfi
    go_wp2_with fail
    refine (sethas_any t s _ _ w1 (HC.out _ hB1)).mono ?_
    rintro e w2 ⟨rfl, hb2⟩
    clear c0 c1 d0 d1 k0 k1 k2 z0 z1 z2
    have hb2' := hid (hb2)
    obtain ⟨hB2, hs2, c0, c1, d0, d1, g6⟩ := HK1.out _ hb2'.out
    have HG2 := hid g6
    have k0 : w2.cell? ⟨w.heap.size + 2, 0, none⟩ = some (.slice none 0 0) := cell_cells (i := 0) g6
    have k1 : w2.cell? ⟨w.heap.size + 2, 1, none⟩ = some (.slice none 0 0) := cell_cells (i := 1) g6
    have k2 : w2.cell? ⟨w.heap.size + 2, 2, none⟩ = some (.slice none 0 0) := cell_cells (i := 2) g6
    have z0 := cells_frz (i := 0) g6
    have z1 := cells_frz (i := 1) g6
    have z2 := cells_frz (i := 2) g6
    clear g6
    clear hb2
    cases an : hasK t s
    · have HE : Hid (addE t s d = 4) := by unfold Hid addE; rw [hc, fl, an]; rfl
      have HTT : Hid (addT t s d = .mk [] []) := by unfold Hid addT; rw [HE.out]; rfl
      have HCC : Hid (addC t s d = []) := by unfold Hid addC; rw [HE.out]; rfl
      clear hc fl an
      go_wp2_with fail
      obtain ⟨r0, r1, r2, hK, hS⟩ := box3 HG2.out (.slice none 0 0) (.slice none 0 0) (.slice none 0 0)
      have hBW := ((hB2.setCell (p := ⟨w.heap.size + 2, 0, none⟩) (by simp) (.slice none 0 0)).setCell (p := ⟨w.heap.size + 2, 1, none⟩) (by simp) (.slice none 0 0)).setCell (p := ⟨w.heap.size + 2, 2, none⟩) (by simp) (.slice none 0 0)
      refine bodyPost_ret (v := .tuple #[.agg #[.slice none 0 0, .slice none 0 0, .slice none 0 0], .int .i64 4]) (by simp [results, Tryz.results31, go_sem, r0, r1, r2]) rfl ⟨_, _, _, by rw [HE.out], by rw [HTT.out]; exact rda_nil _ _, by rw [HCC.out]; exact SlA.nil, hBW⟩
    · have HE : Hid (addE t s d = 0) := by unfold Hid addE; rw [hc, fl, an]; rfl
      have HTT : Hid (addT t s d = .mk [] [(s, oneE d)]) := by unfold Hid addT; rw [HE.out, if_pos rfl]
      have HCC : Hid (addC t s d = seenC (kidT t s) d) := by unfold Hid addC; rw [HE.out, if_pos rfl]
      clear hc fl an
      have hltn : w.heap.size + 2 < w2.heap.size := by omega
      have hen : SlP ((w2.alloc (.cells #[.int .i64 d.dc, .int .i64 d.n, .string ByteArray.empty, .int .i64 0] 56)).alloc (.cells #[.string s] 9)) ((w2.alloc (.cells #[.int .i64 d.dc, .int .i64 d.n, .string ByteArray.empty, .int .i64 0] 56)).alloc (.cells #[.string s] 9)).heap.size 4 EnE (.slice (some ⟨w2.heap.size, 0, none⟩) 1 1) [(⟨d.dc, d.n, ByteArray.empty, 0⟩ : En)] :=
        (SlP.one (x := (⟨d.dc, d.n, ByteArray.empty, 0⟩ : En)) (addEnE hd) rfl 56 rfl).imp ((Below.refl _ _).alloc (by rw [World.size_alloc]; omega) _) (by rw [World.size_alloc, World.size_alloc]; omega) fun _ _ _ h => h
      have HEN : Hid ((oneE d).rd ((w2.alloc (.cells #[.int .i64 d.dc, .int .i64 d.n, .string ByteArray.empty, .int .i64 0] 56)).alloc (.cells #[.string s] 9)) ((w2.alloc (.cells #[.int .i64 d.dc, .int .i64 d.n, .string ByteArray.empty, .int .i64 0] 56)).alloc (.cells #[.string s] 9)).heap.size (.slice (some ⟨w2.heap.size, 0, none⟩) 1 1) (.slice none 0 0)) := rd_iff.2 ⟨hen, SlP.nil⟩
      clear hen
      go_wp2_with fail
      refine (twrap_any (oneE d) s _ _ _ _ HEN.out (SlP.oneB (E := StE) (n := w2.heap.size + 1) (x := s) (cs := [.string s]) ⟨rfl, hs⟩ rfl _ (by simp) (by simp)) (by simp [oneE, Tr.sz, Tr.szL])).mono ?_
      rw [HWE.out, HWT.out]
      rintro e w5 ⟨v5, u5, rfl, hrd5, hb5⟩
      generalize (Tr.mk [] [(s, oneE d)] : Tr) = T at *
      obtain ⟨A8, n8, A9, n9, rfl, rfl⟩ := rda_shape hrd5
      have hs5 := hb5.size
      simp only [World.size_alloc] at hs5
      clear c0 c1 d0 d1 k0 k1 k2 z0 z1 z2
      have hb5' := hid (hb2'.out.trans ((((Below.refl w2.heap.size w2).alloc (Nat.le_refl _) _).alloc (by rw [World.size_alloc]; omega) _).trans (hb5.mono (show w2.heap.size ≤ _ by simp only [World.size_alloc]; omega)) |>.mono hs2))
      obtain ⟨hB5, hs5, c0, c1, d0, d1, g6⟩ := HK1.out _ hb5'.out
      have HG5 := hid g6
      have k0 : w5.cell? ⟨w.heap.size + 2, 0, none⟩ = some (.slice none 0 0) := cell_cells (i := 0) g6
      have k1 : w5.cell? ⟨w.heap.size + 2, 1, none⟩ = some (.slice none 0 0) := cell_cells (i := 1) g6
      have k2 : w5.cell? ⟨w.heap.size + 2, 2, none⟩ = some (.slice none 0 0) := cell_cells (i := 2) g6
      have z0 := cells_frz (i := 0) g6
      have z1 := cells_frz (i := 1) g6
      have z2 := cells_frz (i := 2) g6
      clear g6
      clear hb5
      have hlt2 : w.heap.size + 2 < w5.heap.size := by omega
      have hne2 : w.heap.size + 2 ≠ w5.heap.size := by omega
      have hlt1 : w.heap.size + 1 < w5.heap.size := by omega
      have hne1 : w.heap.size + 1 ≠ w5.heap.size := by omega
      have hlt0 : w.heap.size < w5.heap.size := by omega
      have hne0 : w.heap.size ≠ w5.heap.size := by omega
      have HX : Hid (∀ w', Below (w5.heap.size + 1) (w5.alloc (.cells #[.slice A8 T.es.length n8, .slice A9 T.ks.length n9] 25)) w' → Below w5.heap.size w5 w' ∧ (w'.cell? ⟨w.heap.size, 0, none⟩ = some (.slice A3 t.es.length n3) ∧ w'.cell? ⟨w.heap.size, 1, none⟩ = some (.slice A4 t.ks.length n4) ∧ w'.cell? ⟨w.heap.size + 1, 0, none⟩ = some (.int .i64 d.dc) ∧ w'.cell? ⟨w.heap.size + 1, 1, none⟩ = some (.int .i64 d.n) ∧ w'.cell? ⟨w5.heap.size, 0, none⟩ = some (.slice A8 T.es.length n8) ∧ w'.cell? ⟨w5.heap.size, 1, none⟩ = some (.slice A9 T.ks.length n9))) := fun w' hb => by
        have hB : Below w5.heap.size w5 w' := ((Below.refl _ w5).alloc (Nat.le_refl _) _).trans (hb.mono (by omega))
        refine ⟨hB, (hB.cell (p := ⟨w.heap.size, 0, none⟩) hlt0).trans c0, (hB.cell (p := ⟨w.heap.size, 1, none⟩) hlt0).trans c1, (hB.cell (p := ⟨w.heap.size + 1, 0, none⟩) hlt1).trans d0, (hB.cell (p := ⟨w.heap.size + 1, 1, none⟩) hlt1).trans d1, ?_, ?_⟩
        · rw [hb.cell (p := ⟨w5.heap.size, 0, none⟩) (by simp), World.cell?_alloc_new]; rfl
        · rw [hb.cell (p := ⟨w5.heap.size, 1, none⟩) (by simp), World.cell?_alloc_new]; rfl
      have hneA : w.heap.size + 1 + 1 ≠ w.heap.size := by omega
      have hneB : w.heap.size ≠ w.heap.size + 1 + 1 := by omega
      clear k0 k1 k2 z0 z1 z2
      go_upto_region 7 with (fail)
      go_region_held3 (fun w' => w'.cell? ⟨w.heap.size, 0, none⟩ = some (.slice A3 t.es.length n3) ∧ w'.cell? ⟨w.heap.size, 1, none⟩ = some (.slice A4 t.ks.length n4) ∧ w'.cell? ⟨w.heap.size + 1, 0, none⟩ = some (.int .i64 d.dc) ∧ w'.cell? ⟨w.heap.size + 1, 1, none⟩ = some (.int .i64 d.n) ∧ w'.cell? ⟨w5.heap.size, 0, none⟩ = some (.slice A8 T.es.length n8) ∧ w'.cell? ⟨w5.heap.size, 1, none⟩ = some (.slice A9 T.ks.length n9))
        (first | go_keep | exact (HX.out _ hbx.out).2)
        (first | (go_at_call 90; go_loud ((refine (sseen_any t s d _ _ _ (HC.out _ ((hB5.alloc (by omega) _).drew)) hs hN HTR.out HDR.out hd).mono ?_); rintro e w6 ⟨v6, rfl, ho6, hb6⟩; obtain ⟨A10, c10, hv6⟩ := ho6.shape; subst hv6; have HO6 := hid ho6; have hbx : Hid (Below (w5.heap.size + 1) (w5.alloc (.cells #[.slice A8 T.es.length n8, .slice A9 T.ks.length n9] 25)) w6) := (((Below.refl (w5.heap.size + 1) (w5.alloc (.cells #[.slice A8 T.es.length n8, .slice A9 T.ks.length n9] 25))).drew).trans (hb6.mono (by simp))); have hby := hid (HX.out _ hbx.out).1; have hs6 : w5.heap.size + 1 ≤ w6.heap.size := (by have := hbx.out.size; simpa using this); have HGx := hid ((hby.out.block (w.heap.size + 2) (by omega)).trans HG5.out); have k0 : w6.cell? ⟨w.heap.size + 2, 0, none⟩ = some (.slice none 0 0) := cell_cells (i := 0) HGx.out; have k1 : w6.cell? ⟨w.heap.size + 2, 1, none⟩ = some (.slice none 0 0) := cell_cells (i := 1) HGx.out; have k2 : w6.cell? ⟨w.heap.size + 2, 2, none⟩ = some (.slice none 0 0) := cell_cells (i := 2) HGx.out; have z0 := cells_frz (i := 0) HGx.out; have z1 := cells_frz (i := 1) HGx.out; have z2 := cells_frz (i := 2) HGx.out; have hlt6 : w.heap.size + 2 < w6.heap.size := (by omega); have hne6 : w.heap.size + 2 ≠ w6.heap.size := (by omega); clear ho6 hb6)))
      all_goals go_wp2_with fail
      obtain ⟨r0, r1, r2, hK, hS⟩ := box3 HGx.out (.slice A8 T.es.length n8) (.slice A9 T.ks.length n9) (.slice A10 (seenC (kidT t s) d).length c10)
      have hBW : Below w.heap.size w (((w6.setCell ⟨w.heap.size + 2, 0, none⟩ (.slice A8 T.es.length n8)).setCell ⟨w.heap.size + 2, 1, none⟩ (.slice A9 T.ks.length n9)).setCell ⟨w.heap.size + 2, 2, none⟩ (.slice A10 (seenC (kidT t s) d).length c10)) := (((hB5.trans (hby.out.mono (by omega))).setCell (by simp) _).setCell (by simp) _).setCell (by simp) _
      clear k0 k1 k2 z0 z1 z2
      generalize (((w6.setCell ⟨w.heap.size + 2, 0, none⟩ (.slice A8 T.es.length n8)).setCell ⟨w.heap.size + 2, 1, none⟩ (.slice A9 T.ks.length n9)).setCell ⟨w.heap.size + 2, 2, none⟩ (.slice A10 (seenC (kidT t s) d).length c10)) = W at *
      refine bodyPost_ret (v := .tuple #[.agg #[.slice A8 T.es.length n8, .slice A9 T.ks.length n9, .slice A10 (seenC (kidT t s) d).length c10], .int .i64 0]) (by simp [results, Tryz.results31, go_sem, r0, r1, r2]) rfl ⟨_, _, _, by rw [HE.out], ?_, ?_, hBW⟩
      · rw [HTT.out]
        exact rda_up (fun b hb => (hK b (by have := hb.1; simp only [World.size_alloc] at this; omega)).trans (hby.out.block b hb.2)) (fun b hb => ⟨by have := hb.1; simp only [World.size_alloc] at this; omega, by have := hb.2; omega⟩) _ _ _ hrd5
      · rw [HCC.out]
        refine (HO6.out.sla (by unfold Big; omega)).up (fun b hb => hK b (by have := hb.1; simp only [World.size_alloc, World.size_drew] at this; omega)) (fun b hb => ⟨by have := hb.1; simp only [World.size_alloc, World.size_drew] at this; omega, by have := hb.2.1; omega⟩) (fun _ _ _ h => h)
end Go.Proofs.YtdcmjmcipgadlaaGreat

namespace Go.Proofs.YtdcmjmcipgadlaaGreat
open Go.RowKit
set_option maxRecDepth 100000

/-- What the reference builds of one entry below one key. -/
theorem put_tree {s : ByteArray} (d : Dt) (hk : keyB s = true) : buildL [([s], ⟨d.dc, d.n, ByteArray.empty, 0⟩)] = .mk [] [(s, oneE d)] := by
  have ho : Tr.Ord (oneE d) := Ord.mk' (List.pairwise_singleton _ _) .nil fun _ _ h => by cases h
  have hO : Tr.Ord (.mk [] [(s, oneE d)]) := Ord.mk' .nil (List.pairwise_singleton _ _) fun k u hm => by
    rw [List.mem_singleton] at hm; cases hm; exact ⟨keyB_ne hk, rfl, ho⟩
  have := build_lvs hO
  simpa [Tr.lvs, Tr.lvsL, oneE] using this
def aB : ByteArray := ⟨#[97]⟩
theorem awk11_E : addE (.mk [] []) aB ⟨1, 1⟩ = 0 := by kernel_rfl
theorem awk11_T : addT (.mk [] []) aB ⟨1, 1⟩ = .mk [] [(aB, oneE ⟨1, 1⟩)] := by
  unfold addT; rw [awk11_E, if_pos rfl]
theorem awk11_C : addC (.mk [] []) aB ⟨1, 1⟩ = ctxBy [] [⟨1, 1, 1⟩] 0 := by kernel_rfl
theorem awk11_H : hasE (.mk [] [(aB, oneE ⟨1, 1⟩)]) aB = true := by kernel_rfl
set_option maxHeartbeats 4000000 in
theorem awake11_any (w : World) : Calls Tryz.prog 29 #[] w fun e w' => e = .returned (.bool true) ∧ Below w.heap.size w w' := by
  have hb0 := (Below.refl w.heap.size w).alloc (Nat.le_refl _) (.cells #[.int .i64 1, .int .i64 1] 47)
  go_enter Tryz.func29, Tryz.ntmps29
  go_wp2_with fail
  refine (sadd_any (.mk [] []) aB ⟨1, 1⟩ _ _ _ rd_empty (by decide) (by simp [Tr.sz, Tr.szL]) ⟨⟨by decide, by decide⟩, ⟨by decide, by decide⟩⟩).mono ?_
  rintro e w1 ⟨ve, vk, vc, rfl, hrd, hsc, hb1⟩
  rw [awk11_E]
  rw [awk11_T] at hrd
  rw [awk11_C] at hsc
  have hH := awk11_H
  have hP : buildL [([aB], ⟨1, 1, ByteArray.empty, 0⟩)] = .mk [] [(aB, oneE ⟨1, 1⟩)] := put_tree ⟨1, 1⟩ (by decide)
  have hkn : (Tr.mk [] [(aB, oneE ⟨1, 1⟩)]).ks.length ≤ 900000 := by decide
  generalize (Tr.mk [] [(aB, oneE ⟨1, 1⟩)] : Tr) = T at *
  generalize hC : ctxBy [] [(⟨1, 1, 1⟩ : Sp)] 0 = C at hsc
  obtain ⟨C', hC'⟩ : ∃ C', C' = C := ⟨_, rfl⟩
  have HSM : Hid ((trEq T (buildL [([aB], ⟨1, 1, ByteArray.empty, 0⟩)]) && decide (C = C')) = true) := by
    unfold Hid; rw [hP, hC']; simp [trEq]
  have HPC : Hid (ctxBy [] [(⟨1, 1, 1⟩ : Sp)] 0 = C') := hC.trans hC'.symm
  clear hC'
  have HV := hid hH
  have HAZ : Hid (aB.size ≤ Big) := by unfold Hid; decide
  clear hH hP hC
  obtain ⟨Ae, ne, Ak, nk, rfl, rfl⟩ := rda_shape hrd
  obtain ⟨Ac, nc, rfl⟩ := hsc.shape
  have hs1 := hb1.size
  simp only [World.size_alloc] at hs1
  have hB1 : Below w.heap.size w w1 := hb0.trans (hb1.mono (by simp))
  have d0 : w1.cell? ⟨w.heap.size, 0, none⟩ = some (.int .i64 1) := by rw [hb1.cell (p := ⟨w.heap.size, 0, none⟩) (by simp)]; simp
  have d1 : w1.cell? ⟨w.heap.size, 1, none⟩ = some (.int .i64 1) := by rw [hb1.cell (p := ⟨w.heap.size, 1, none⟩) (by simp)]; simp
  have HT : Hid (∀ w', Below w1.heap.size w1 w' → T.rd w' w'.heap.size (.slice Ae T.es.length ne) (.slice Ak T.ks.length nk)) := fun w' hb => rda_rd hrd (fun b hb => hb.2) hb
  have HCt : Hid (∀ w', Below w1.heap.size w1 w' → SlP w' w'.heap.size 3 SpE (.slice Ac C.length nc) C) := fun w' hb => hsc.slp (fun b hb => hb.2) hb
  have HB : Hid (∀ w', Below (w1.heap.size + 1) (w1.alloc (.cells #[.slice Ae T.es.length ne, .slice Ak T.ks.length nk, .slice Ac C.length nc] 29)) w' → Below w.heap.size w w' ∧ Below w1.heap.size w1 w' ∧ (w'.cell? ⟨w.heap.size, 0, none⟩ = some (.int .i64 1) ∧ w'.cell? ⟨w.heap.size, 1, none⟩ = some (.int .i64 1) ∧ w'.cell? ⟨w1.heap.size, 0, none⟩ = some (.slice Ae T.es.length ne) ∧ w'.cell? ⟨w1.heap.size, 1, none⟩ = some (.slice Ak T.ks.length nk) ∧ w'.cell? ⟨w1.heap.size, 2, none⟩ = some (.slice Ac C.length nc))) := fun w' hb => by
    have hB : Below w1.heap.size w1 w' := ((Below.refl _ w1).alloc (Nat.le_refl _) _).trans (hb.mono (by omega))
    refine ⟨hB1.trans (hB.mono (by omega)), hB, ?_, ?_, ?_, ?_, ?_⟩
    · rw [hB.cell (p := ⟨w.heap.size, 0, none⟩) (by show w.heap.size < _; omega)]; exact d0
    · rw [hB.cell (p := ⟨w.heap.size, 1, none⟩) (by show w.heap.size < _; omega)]; exact d1
    · rw [hb.cell (p := ⟨w1.heap.size, 0, none⟩) (by simp), World.cell?_alloc_new]; rfl
    · rw [hb.cell (p := ⟨w1.heap.size, 1, none⟩) (by simp), World.cell?_alloc_new]; rfl
    · rw [hb.cell (p := ⟨w1.heap.size, 2, none⟩) (by simp), World.cell?_alloc_new]; rfl
  have hne1 : w.heap.size < w1.heap.size := by omega
  clear hrd hsc
  go_upto_region 3 with (fail)
  go_region_held3 (fun w' => w'.cell? ⟨w.heap.size, 0, none⟩ = some (.int .i64 1) ∧ w'.cell? ⟨w.heap.size, 1, none⟩ = some (.int .i64 1) ∧ w'.cell? ⟨w1.heap.size, 0, none⟩ = some (.slice Ae T.es.length ne) ∧ w'.cell? ⟨w1.heap.size, 1, none⟩ = some (.slice Ak T.ks.length nk) ∧ w'.cell? ⟨w1.heap.size, 2, none⟩ = some (.slice Ac C.length nc))
    (first | go_keep | exact (HB.out _ hb4.out).2.2 | exact (HB.out _ hb3.out).2.2 | exact (HB.out _ hb2.out).2.2)
    (first | (go_at_call 38; go_loud ((refine (shasE_any T aB _ _ _ (HT.out _ (((Below.refl _ w1).alloc (Nat.le_refl _) _).drew)) hkn).mono ?_); rw [HV.out]; rintro e w2 ⟨rfl, hb⟩; have hb2 := hid (((Below.refl (w1.heap.size + 1) (w1.alloc (.cells #[.slice Ae T.es.length ne, .slice Ak T.ks.length nk, .slice Ac C.length nc] 29))).drew).trans (hb.mono (by simp))); have hs2 := hb2.out.size; simp only [World.size_alloc] at hs2))
           | (go_at_call 33; go_loud ((refine (r10put_any [aB] ⟨1, 1, ByteArray.empty, 0⟩ [] _ _ _ ⟨⟨by decide, by decide⟩, ⟨by decide, by decide⟩, ⟨by decide, by decide⟩, by simp [Big]⟩ (SlP.oneB (E := StE) (x := aB) (cs := [.string aB]) ⟨rfl, HAZ.out⟩ rfl _ rfl (by simp)) SlP.nil (by simp) (fun _ h => by cases h) (fun s hs => by simp at hs; subst hs; decide)).mono ?_); rw [HPC.out]; rintro e w3 ⟨ve3, vk3, vc3, rfl, hrd3, hsc3, hb⟩; obtain ⟨A5, n5, A6, n6, hv5, hv6⟩ := rda_shape hrd3; subst hv5; subst hv6; obtain ⟨A7, n7, hv7⟩ := hsc3.shape; subst hv7; have hrd4 := hid (rda_rd hrd3 (fun b hb => hb.2) (Below.refl _ _)); have hsc4 := hid (hsc3.slp (fun b hb => hb.2) (Below.refl _ _)); clear hrd3 hsc3; have hb3 := hid ((hb2.out.alloc hs2 _).trans (hb.mono (by rw [World.size_alloc]; omega)))))
           | (go_at_call 21; go_loud ((refine (r09same_any T _ C C' _ _ _ _ _ _ w3 (HT.out _ (HB.out _ hb3.out).2.1) hrd4.out (HCt.out _ (HB.out _ hb3.out).2.1) hsc4.out).mono ?_); rw [HSM.out]; rintro e w4 ⟨rfl, hb⟩; have hb4 := hid (hb3.out.trans (hb.mono (by have := hb3.out.size; simpa using this))))))
  go_wp2_with fail
  go_ret
  exact ⟨rfl, (HB.out _ hb4.out).1⟩
end Go.Proofs.YtdcmjmcipgadlaaGreat

namespace Go.Proofs.YtdcmjmcipgadlaaGreat
open Go.RowKit
set_option maxRecDepth 100000

theorem small11_any (t : Tr) (w : World) (ve vk : Value) (h : t.rd w w.heap.size ve vk) :
    Calls Tryz.prog 30 #[.agg #[ve, vk]] w fun e w' => e = .returned (.bool (smlB t 60)) ∧ Below w.heap.size w w' := by
  have HC : Hid (∀ w', Below w.heap.size w w' → t.rd w' w'.heap.size ve vk) := fun w' hb => rd_below hb hb.size _ _ _ h
  obtain ⟨A3, n3, A4, n4, rfl, rfl⟩ := rd_shape h
  have hb0 := (Below.refl w.heap.size w).alloc (Nat.le_refl _) (.cells #[.slice A3 t.es.length n3, .slice A4 t.ks.length n4] 25)
  clear h
  go_enter Tryz.func30, Tryz.ntmps30
  go_wp2_with fail
  refine (r08small_any t _ _ _ 60 (HC.out _ hb0) (by omega) (by omega)).mono ?_
  rintro e w1 ⟨rfl, hb1⟩
  rw [show decide (0 ≤ t.room 60 8) = smlB t 60 from rfl]
  go_wp2_with fail
  go_ret
  exact ⟨rfl, hb0.trans (hb1.mono (by simp))⟩

theorem may_any (t : Tr) (s : ByteArray) (d : Dt) (ve vk : Value) (w : World) (h : t.rd w w.heap.size ve vk) (hN : t.sz ≤ 90000) :
    Calls Tryz.prog 32 #[.agg #[ve, vk], .string s, .agg #[.int .i64 d.dc, .int .i64 d.n]] w fun e w' => e = .returned (.bool (sckB t s d)) ∧ Below w.heap.size w w' := by
  have HC : Hid (∀ w', Below w.heap.size w w' → t.rd w' w'.heap.size ve vk) := fun w' hb => rd_below hb hb.size _ _ _ h
  obtain ⟨A3, n3, A4, n4, rfl, rfl⟩ := rd_shape h
  have hb0 := ((Below.refl w.heap.size w).alloc (Nat.le_refl _) (.cells #[.slice A3 t.es.length n3, .slice A4 t.ks.length n4] 25)).alloc (by simp) (.cells #[.int .i64 d.dc, .int .i64 d.n] 47)
  clear h
  go_enter Tryz.func32, Tryz.ntmps32
  go_wp2_with fail
  refine (r10check_any t d _ _ _ (HC.out _ hb0) hN).mono ?_
  rintro e w1 ⟨rfl, hb1⟩
  have hB1 : Below w.heap.size w w1 := hb0.trans (hb1.mono (by simp; omega))
  have hs1 := hB1.size
  cases hc : chkT t d
  · have HR : Hid (sckB t s d = false) := by unfold Hid sckB; rw [hc]; rfl
    clear hc
    go_wp2_with fail
    go_ret
    exact ⟨ret_bool HR.out.symm, hB1⟩
  · have HR : Hid (sckB t s d = keyB s) := by unfold Hid sckB; rw [hc]; rfl
    clear hc
    go_wp2_with fail
    refine (r08key_any s w1).mono ?_
    rintro e w2 ⟨rfl, hb2⟩
    go_wp2_with fail
    go_ret
    exact ⟨ret_bool HR.out.symm, hB1.trans (hb2.mono hs1)⟩

theorem lseen_any (t : Tr) (s : ByteArray) (ve vk : Value) (w : World) (h : t.rd w w.heap.size ve vk) (hs : s.size ≤ Big) (hN : t.sz ≤ 4000) (hr : t.right 5 = true) :
    Calls Tryz.prog 34 #[.agg #[ve, vk], .string s] w (RetO w 79 3 (fun _ => SpE) (ctxOf (kidT t s).dots)) := by
  have HC : Hid (∀ w', Below w.heap.size w w' → t.rd w' w'.heap.size ve vk) := fun w' hb => rd_below hb hb.size _ _ _ h
  have hG : getT t [s] = kidT t s := get_law (right_ord t 5 hr) [s]
  have HRN : Hid (∀ d ∈ (kidT t s).dots, 0 ≤ d.n ∧ d.n ≤ 1099511627778) := right_nums (kid_right5 hr s)
  have hkz := kidT_sz t s
  generalize kidT t s = u at *
  obtain ⟨A3, n3, A4, n4, rfl, rfl⟩ := rd_shape h
  have hb0 : Below w.heap.size w ((w.alloc (.cells #[.slice A3 t.es.length n3, .slice A4 t.ks.length n4] 25)).alloc (.cells #[.string s] 9)) := ((Below.refl _ w).alloc (Nat.le_refl _) _).alloc (by simp) _
  clear h hr
  go_enter Tryz.func34, Tryz.ntmps34
  go_wp2_with fail
  refine (r08get_any t [s] _ _ _ _ (HC.out _ hb0) (SlP.oneB (E := StE) (n := w.heap.size + 1) (x := s) (cs := [.string s]) ⟨rfl, hs⟩ rfl _ (by simp) (by simp)) (by omega)).mono ?_
  rw [hG]
  rintro e w1 ⟨ve1, vk1, rfl, hrd1, hb1⟩
  obtain ⟨A5, n5, A6, n6, rfl, rfl⟩ := rda_shape hrd1
  have hs1 := hb1.size
  simp only [World.size_alloc] at hs1
  have hB1 : Below w.heap.size w w1 := hb0.trans (hb1.mono (by simp; omega))
  have HU := hid (rda_rd hrd1 (fun b hb => hb.2) (Below.refl _ w1))
  clear hrd1 hG
  go_wp2_with fail
  refine (r08dots_any u w1 _ _ HU.out (by omega) HRN.out).mono ?_
  rintro e w2 ⟨v2, rfl, ho2, hb2⟩
  go_wp2_with fail
  go_ret
  exact ⟨_, rfl, ho2.mono (by omega), hB1.trans (hb2.mono (by omega))⟩
end Go.Proofs.YtdcmjmcipgadlaaGreat

namespace Go.Proofs.YtdcmjmcipgadlaaGreat
open Go.RowKit
set_option maxRecDepth 100000

theorem lessL_nil (s : ByteArray) : lessL [] s = [] := rfl
set_option maxHeartbeats 4000000 in
theorem lawSE_any (t : Tr) (s : ByteArray) (w : World) (ve vk : Value) (h : t.rd w w.heap.size ve vk) (_ : s.size ≤ Big) :
    Calls Tryz.prog 6 #[.agg #[ve, vk], .string s] w fun e w' => e = .returned (.bool true) ∧ Below w.heap.size w w' := by
  have HC : Hid (∀ w', Below w.heap.size w w' → t.rd w' w'.heap.size ve vk) := fun w' hb => rd_below hb hb.size _ _ _ h
  obtain ⟨A3, n3, A4, n4, rfl, rfl⟩ := rd_shape h
  have HB : Hid (∀ w', Below (w.heap.size + 1) (w.alloc (.cells #[.slice A3 t.es.length n3, .slice A4 t.ks.length n4] 25)) w' → Below w.heap.size w w' ∧ w.heap.size + 1 ≤ w'.heap.size ∧ w'.cell? ⟨w.heap.size, 0, none⟩ = some (.slice A3 t.es.length n3) ∧ w'.cell? ⟨w.heap.size, 1, none⟩ = some (.slice A4 t.ks.length n4)) := fun w' hb =>
    ⟨((Below.refl _ w).alloc (Nat.le_refl _) _).trans (hb.mono (by omega)), by have := hb.size; simpa using this, by rw [hb.cell (p := ⟨w.heap.size, 0, none⟩) (by simp)]; simp, by rw [hb.cell (p := ⟨w.heap.size, 1, none⟩) (by simp)]; simp⟩
  clear h
  go_enter Tryz.func6, Tryz.ntmps6
  go_wp2_with fail
  refine (awake11_any _).mono ?_
  rintro e w1 ⟨rfl, hb1⟩
  have hb1' := hid (hb1.mono (show w.heap.size + 1 ≤ _ by simp))
  clear hb1
  obtain ⟨_, _, c0, c1⟩ := HB.out _ hb1'.out
  go_wp2_with fail
  refine (small11_any t w1 _ _ (HC.out _ (HB.out _ hb1'.out).1)).mono ?_
  rintro e w2 ⟨rfl, hb2⟩
  have hb2' := hid (hb1'.out.trans (hb2.mono (HB.out _ hb1'.out).2.1))
  clear hb2 c0 c1
  obtain ⟨hB2, hs2, c0, c1⟩ := HB.out _ hb2'.out
  cases hs : smlB t 60
  · clear hs
    go_wp2_with fail
    refine (awake11_any _).mono ?_
    rintro e w3 ⟨rfl, hb3⟩
    have hb3' := hb2'.out.trans (hb3.mono hs2)
    go_wp2_with fail
    go_ret
    exact ⟨rfl, (HB.out _ hb3').1⟩
  have hkn : t.ks.length ≤ 900000 := by have := sml_sz hs; have := ks_sz t; omega
  clear hs
  go_wp2_with fail
  refine (r08Right_any t w2 _ _ (HC.out _ hB2)).mono ?_
  rintro e w3 ⟨rfl, hb3⟩
  have hb3' := hid (hb2'.out.trans (hb3.mono hs2))
  clear hb3 c0 c1
  obtain ⟨hB3, hs3, c0, c1⟩ := HB.out _ hb3'.out
  cases hr : t.right 5
  · have hk : elemsOf t = [] := by unfold elemsOf; rw [hr]; rfl
    have HH : Hid (hasE t s = false) := by unfold Hid hasE; rw [hk]; rfl
    clear hr
    go_wp2_with fail
    refine (selems_any t w3 _ _ (HC.out _ hB3) hkn).mono ?_
    rw [hk]
    rintro e w4 ⟨v4, rfl, ho4, hb4⟩
    have hb4' := hid (hb3'.out.trans (hb4.mono hs3))
    have HS4 := hid (ho4.sl (by simp))
    obtain ⟨A5, n5, rfl⟩ := ho4.shape
    clear ho4 c0 c1 hk hb4
    obtain ⟨hB4, hs4, c0, c1⟩ := HB.out _ hb4'.out
    go_wp2_with fail
    refine (r10alike_any [] [] _ _ w4 w4.heap.size HS4.out SlP.nil).mono ?_
    rw [decide_eq_true rfl]
    rintro e w5 ⟨rfl, n, hw5⟩
    have hb5 := hid (hb4'.out.trans (hw5 ▸ below_drewN (Below.refl (w.heap.size + 1) w4) n))
    clear hw5 c0 c1
    obtain ⟨hB5, hs5, c0, c1⟩ := HB.out _ hb5.out
    go_wp2_with fail
    refine (shasE_any t s w5 _ _ (HC.out _ hB5) hkn).mono ?_
    rw [HH.out]
    rintro e w6 ⟨rfl, hb6⟩
    have hb6' := hid (hb5.out.trans (hb6.mono hs5))
    clear hb6 c0 c1
    obtain ⟨hB6, hs6, c0, c1⟩ := HB.out _ hb6'.out
    go_wp2_with fail
    refine (r10less_any [] s _ w6 SlP.nil (by simp)).mono ?_
    rw [lessL_nil]
    rintro e w7 ⟨v7, rfl, ho7, hb7⟩
    obtain ⟨A7, n7, rfl⟩ := ho7.shape
    clear ho7
    go_wp2_with fail
    go_ret
    exact ⟨rfl, hB6.trans (hb7.mono (by omega))⟩
  · have hk : elemsOf t = elL t.ks := by unfold elemsOf; rw [hr]; rfl
    have HH : Hid (hasE t s = decide ((lessL (elL t.ks) s).length < (elL t.ks).length)) := by unfold Hid hasE; rw [hk, lessL_lt]
    have hkl : (elL t.ks).length ≤ 900000 := by have := elL_len t.ks; omega
    have hll := lessL_len (elL t.ks) s
    clear hr
    go_wp2_with fail
    refine (r10elems_any t w3 _ _ (HC.out _ hB3) hkn).mono ?_
    generalize elL t.ks = K at *
    rintro e w4 ⟨v4, rfl, ho4, hb4⟩
    have hb4' := hid (hb3'.out.trans (hb4.mono hs3))
    obtain ⟨A5, n5, rfl⟩ := ho4.shape
    have HO4 := hid ho4
    clear hb4 ho4 c0 c1
    obtain ⟨hB4, hs4, c0, c1⟩ := HB.out _ hb4'.out
    go_wp2_with fail
    refine (selems_any t w4 _ _ (HC.out _ hB4) hkn).mono ?_
    rw [hk]
    rintro e w5 ⟨v5, rfl, ho5, hb5⟩
    have hb5' := hid (hb4'.out.trans (hb5.mono hs4))
    have HS5 := hid (ho5.sl (by unfold Big; omega))
    have HS4 := hid ((HO4.out.grow hb5).sl (by unfold Big; omega))
    obtain ⟨A6, n6, rfl⟩ := ho5.shape
    clear ho5 c0 c1 hk hb5
    obtain ⟨hB5, hs5, c0, c1⟩ := HB.out _ hb5'.out
    go_wp2_with fail
    refine (r10alike_any K K _ _ w5 w5.heap.size HS5.out HS4.out).mono ?_
    rw [decide_eq_true rfl]
    rintro e w6 ⟨rfl, n, hw6⟩
    have hbn : Below w5.heap.size w5 w6 := hw6 ▸ below_drewN (Below.refl w5.heap.size w5) n
    have hb6 := hid (hb5'.out.trans (hbn.mono hs5))
    have HS6 := hid (HS4.out.imp hbn hbn.size fun _ _ _ h => h)
    clear hw6 c0 c1 hbn
    obtain ⟨hB6, hs6, c0, c1⟩ := HB.out _ hb6.out
    go_wp2_with fail
    refine (shasE_any t s w6 _ _ (HC.out _ hB6) hkn).mono ?_
    rw [HH.out]
    rintro e w7 ⟨rfl, hb7⟩
    have hb7' := hid (hb6.out.trans (hb7.mono hs6))
    have HS7 := hid (HS6.out.imp (hb7) hb7.size fun _ _ _ h => h)
    clear hb7 c0 c1
    obtain ⟨hB7, hs7, c0, c1⟩ := HB.out _ hb7'.out
    go_wp2_with fail
    refine (r10less_any K s _ w7 HS7.out hkl).mono ?_
    rintro e w8 ⟨v8, rfl, ho8, hb8⟩
    obtain ⟨A8, n8, rfl⟩ := ho8.shape
    clear ho8
    generalize lessL K s = L at *
    cases hlt : decide (L.length < K.length)
    · have hfi : decide ((L.length : Int) < (K.length : Int)) = false := by simp at hlt ⊢; omega
      go_wp2_with fail
      go_ret
      exact ⟨rfl, hB7.trans (hb8.mono (by omega))⟩
    · have hfi : decide ((L.length : Int) < (K.length : Int)) = true := by simp at hlt ⊢; omega
      go_wp2_with fail
      go_ret
      exact ⟨rfl, hB7.trans (hb8.mono (by omega))⟩
end Go.Proofs.YtdcmjmcipgadlaaGreat

namespace Go.Proofs.YtdcmjmcipgadlaaGreat
open Go.RowKit
set_option maxRecDepth 100000

set_option maxHeartbeats 4000000 in
theorem lawSD_any (t : Tr) (s : ByteArray) (d : Dt) (w : World) (ve vk : Value) (h : t.rd w w.heap.size ve vk) (hkb : s.size ≤ Big) (hd : d.Ok) :
    Calls Tryz.prog 7 #[.agg #[ve, vk], .string s, .agg #[.int .i64 d.dc, .int .i64 d.n]] w fun e w' => e = .returned (.bool true) ∧ Below w.heap.size w w' := by
  have HC : Hid (∀ w', Below w.heap.size w w' → t.rd w' w'.heap.size ve vk) := fun w' hb => rd_below hb hb.size _ _ _ h
  have hfit := fit_rd _ _ _ h
  have hel : t.es.length ≤ 140737488355328 := by obtain ⟨es, ks⟩ := t; exact hfit.1
  obtain ⟨A3, n3, A4, n4, rfl, rfl⟩ := rd_shape h
  have HB : Hid (∀ w', Below (w.heap.size + 2) ((w.alloc (.cells #[.slice A3 t.es.length n3, .slice A4 t.ks.length n4] 25)).alloc (.cells #[.int .i64 d.dc, .int .i64 d.n] 47)) w' → Below w.heap.size w w' ∧ w.heap.size + 2 ≤ w'.heap.size ∧ w'.cell? ⟨w.heap.size, 0, none⟩ = some (.slice A3 t.es.length n3) ∧ w'.cell? ⟨w.heap.size, 1, none⟩ = some (.slice A4 t.ks.length n4) ∧ w'.cell? ⟨w.heap.size + 1, 0, none⟩ = some (.int .i64 d.dc) ∧ w'.cell? ⟨w.heap.size + 1, 1, none⟩ = some (.int .i64 d.n)) := fun w' hb => by
    refine ⟨(((Below.refl _ w).alloc (Nat.le_refl _) _).alloc (by simp) _).trans (hb.mono (by omega)), by have := hb.size; simpa using this, ?_, ?_, ?_, ?_⟩
    · rw [hb.cell (p := ⟨w.heap.size, 0, none⟩) (by simp), World.cell?_alloc_lt _ _ _ (by simp)]; simp
    · rw [hb.cell (p := ⟨w.heap.size, 1, none⟩) (by simp), World.cell?_alloc_lt _ _ _ (by simp)]; simp
    · rw [hb.cell (p := ⟨w.heap.size + 1, 0, none⟩) (by simp)]; simp
    · rw [hb.cell (p := ⟨w.heap.size + 1, 1, none⟩) (by simp)]; simp
  clear h hfit
  go_enter Tryz.func7, Tryz.ntmps7
  go_wp2_with fail
  refine (awake11_any _).mono ?_
  rintro e w1 ⟨rfl, hb1⟩
  have hb1' := hid (hb1.mono (show w.heap.size + 2 ≤ _ by simp))
  clear hb1
  obtain ⟨_, _, c0, c1, d0, d1⟩ := HB.out _ hb1'.out
  go_wp2_with fail
  refine (small11_any t w1 _ _ (HC.out _ (HB.out _ hb1'.out).1)).mono ?_
  rintro e w2 ⟨rfl, hb2⟩
  have hb2' := hid (hb1'.out.trans (hb2.mono (HB.out _ hb1'.out).2.1))
  clear hb2 c0 c1 d0 d1
  obtain ⟨hB2, hs2, c0, c1, d0, d1⟩ := HB.out _ hb2'.out
  cases hs : smlB t 60
  · clear hs
    go_wp2_with fail
    refine (awake11_any _).mono ?_
    rintro e w3 ⟨rfl, hb3⟩
    have hb3' := hb2'.out.trans (hb3.mono hs2)
    go_wp2_with fail
    go_ret
    exact ⟨rfl, (HB.out _ hb3').1⟩
  have hsz : t.sz ≤ 90000 := by have := sml_sz hs; omega
  have hsz4 : t.sz ≤ 4000 := by have := sml_sz hs; omega
  clear hs
  go_wp2_with fail
  refine (sdel_any t s d _ _ w2 (HC.out _ hB2) hkb hsz4 hd).mono ?_
  rintro e w3 ⟨ve3, vk3, vc3, rfl, hrd, hsc, hb3⟩
  have hb3' := hid (hb2'.out.trans (hb3.mono hs2))
  clear hb3 c0 c1 d0 d1
  obtain ⟨hB3, hs3, c0, c1, d0, d1⟩ := HB.out _ hb3'.out
  have HC1 : Hid (delC t s d = if sckB t s d then seenC (kidT t s) d else []) := rfl
  have HE1 : Hid (sckI t s d = if sckB t s d then 0 else 1) := rfl
  obtain ⟨T, hT⟩ : ∃ T, T = Tr.mk [] [] := ⟨_, rfl⟩
  rw [← hT] at hrd
  have HT1 := hid hT
  clear hT
  generalize delC t s d = C at *
  generalize sckI t s d = k at *
  obtain ⟨Ae, ne, Ak, nk, rfl, rfl⟩ := rda_shape hrd
  obtain ⟨Ac, nc, rfl⟩ := hsc.shape
  have HT : Hid (∀ w', Below w3.heap.size w3 w' → T.rd w' w'.heap.size (.slice Ae T.es.length ne) (.slice Ak T.ks.length nk)) := fun w' hb => rda_rd hrd (fun b hb => hb.2) hb
  have HCt : Hid (∀ w', Below w3.heap.size w3 w' → SlP w' w'.heap.size 3 SpE (.slice Ac C.length nc) C) := fun w' hb => hsc.slp (fun b hb => hb.2) hb
  have HX : Hid (∀ w', Below (w3.heap.size + 1) (w3.alloc (.cells #[.slice Ae T.es.length ne, .slice Ak T.ks.length nk, .slice Ac C.length nc] 29)) w' → Below w.heap.size w w' ∧ Below w3.heap.size w3 w' ∧ w3.heap.size + 1 ≤ w'.heap.size ∧ (w'.cell? ⟨w.heap.size + 1, 0, none⟩ = some (.int .i64 d.dc) ∧ w'.cell? ⟨w.heap.size + 1, 1, none⟩ = some (.int .i64 d.n) ∧ w'.cell? ⟨w3.heap.size, 0, none⟩ = some (.slice Ae T.es.length ne) ∧ w'.cell? ⟨w3.heap.size, 1, none⟩ = some (.slice Ak T.ks.length nk) ∧ w'.cell? ⟨w3.heap.size, 2, none⟩ = some (.slice Ac C.length nc) ∧
      w'.cell? ⟨w.heap.size, 0, none⟩ = some (.slice A3 t.es.length n3) ∧ w'.cell? ⟨w.heap.size, 1, none⟩ = some (.slice A4 t.ks.length n4))) := fun w' hb => by
    have hB : Below w3.heap.size w3 w' := ((Below.refl _ w3).alloc (Nat.le_refl _) _).trans (hb.mono (by omega))
    refine ⟨hB3.trans (hB.mono (by omega)), hB, by have := hb.size; simpa using this, ⟨?_, ?_, ?_, ?_, ?_, ?_, ?_⟩⟩
    · rw [hB.cell (p := ⟨w.heap.size + 1, 0, none⟩) (by show w.heap.size + 1 < _; omega)]; exact d0
    · rw [hB.cell (p := ⟨w.heap.size + 1, 1, none⟩) (by show w.heap.size + 1 < _; omega)]; exact d1
    · rw [hb.cell (p := ⟨w3.heap.size, 0, none⟩) (by simp), World.cell?_alloc_new]; rfl
    · rw [hb.cell (p := ⟨w3.heap.size, 1, none⟩) (by simp), World.cell?_alloc_new]; rfl
    · rw [hb.cell (p := ⟨w3.heap.size, 2, none⟩) (by simp), World.cell?_alloc_new]; rfl
    · rw [hB.cell (p := ⟨w.heap.size, 0, none⟩) (by show w.heap.size < _; omega)]; exact c0
    · rw [hB.cell (p := ⟨w.heap.size, 1, none⟩) (by show w.heap.size < _; omega)]; exact c1
  have hlt3 : w.heap.size + 1 < w3.heap.size := by omega
  have hlt4 : w.heap.size < w3.heap.size := by omega
  have hne3 : w.heap.size + 1 ≠ w3.heap.size := by omega
  have hne4 : w.heap.size ≠ w3.heap.size := by omega
  clear hrd hsc
  go_wp2_with fail
  refine (may_any t s d _ _ _ (HC.out _ (HX.out _ (Below.refl _ _)).1) hsz).mono ?_
  rintro e w4 ⟨rfl, hb4'⟩
  have hbx := hid ((Below.refl (w3.heap.size + 1) (w3.alloc (.cells #[.slice Ae T.es.length ne, .slice Ak T.ks.length nk, .slice Ac C.length nc] 29))).trans (hb4'.mono (by simp)))
  clear hb4' c0 c1 d0 d1
  obtain ⟨hB4, hb4', hs4, d0, d1, x0, x1, x2, c0, c1⟩ := HX.out _ hbx.out
  have hb4 := hid hb4'
  clear hb4'
  cases hc : sckB t s d
  · have hk : k = 1 := by rw [HE1.out, hc]; rfl
    subst hk
    have HSM : Hid ((trEq T (.mk [] []) && decide (C = [])) = true) := by unfold Hid; rw [HT1.out, HC1.out, hc]; simp [trEq]
    clear hc
    go_wp2_with fail
    refine (r09same_any T (.mk [] []) C [] _ _ _ _ _ _ w4 (HT.out _ hb4.out) rd_empty (HCt.out _ hb4.out) SlP.nil).mono ?_
    rw [HSM.out]
    rintro e w5 ⟨rfl, hb5⟩
    go_wp2_with fail
    go_ret
    exact ⟨rfl, hB4.trans (hb5.mono (by omega))⟩
  · have hk : k = 0 := by rw [HE1.out, hc]; rfl
    subst hk
    have hdr := chkT_right (sck_chk hc).1
    have htr := chkT_tree (sck_chk hc).1
    have HTR := hid htr
    have hbd := right_bd hdr
    have hkz := kidT_sz t s
    have hcl : (ctxOf (kidT t s).dots).length ≤ 50000 := by have := ctxOf_len (kidT t s).dots; have := dots_len (kidT t s); omega
    have HBL : Hid ((ctxOf (kidT t s).dots).length ≤ Big) := by unfold Hid Big; omega
    have HSD : Hid (SpsOk (ctxOf (kidT t s).dots)) := spsOk_ctxOf (right_dots (kidT t s) 5 (kid_right5 htr s))
    have HSP : Hid (SpsOk [⟨d.dc, d.n, d.n⟩]) := fun s hs => by simp at hs; subst hs; simp; omega
    have HEO : Hid (En.Ok ⟨d.dc, d.n, ByteArray.empty, 0⟩) := En.Ok.mk' hd ⟨by decide, by decide⟩
    have HY : Hid (∀ w', Below w4.heap.size w4 w' → w'.cell? ⟨w.heap.size + 1, 0, none⟩ = some (.int .i64 d.dc) ∧ w'.cell? ⟨w.heap.size + 1, 1, none⟩ = some (.int .i64 d.n) ∧ w'.cell? ⟨w3.heap.size, 0, none⟩ = some (.slice Ae T.es.length ne) ∧ w'.cell? ⟨w3.heap.size, 1, none⟩ = some (.slice Ak T.ks.length nk) ∧ w'.cell? ⟨w3.heap.size, 2, none⟩ = some (.slice Ac C.length nc) ∧ w'.cell? ⟨w.heap.size, 0, none⟩ = some (.slice A3 t.es.length n3) ∧ w'.cell? ⟨w.heap.size, 1, none⟩ = some (.slice A4 t.ks.length n4)) := fun w' hb => (HX.out _ (hbx.out.trans (hb.mono hs4))).2.2.2
    have HSM : Hid ((trEq T (.mk [] []) && decide (C = ctxBy (ctxOf (kidT t s).dots) [⟨d.dc, d.n, d.n⟩] 0)) = true) := by
      unfold Hid; rw [HT1.out, HC1.out, hc, if_pos rfl, seen_eq hdr]; simp [trEq]
    clear hc hdr hbd htr
    go_upto_region 6 with (fail)
    go_region_held3 (fun w' => w'.cell? ⟨w.heap.size + 1, 0, none⟩ = some (.int .i64 d.dc) ∧ w'.cell? ⟨w.heap.size + 1, 1, none⟩ = some (.int .i64 d.n) ∧ w'.cell? ⟨w3.heap.size, 0, none⟩ = some (.slice Ae T.es.length ne) ∧ w'.cell? ⟨w3.heap.size, 1, none⟩ = some (.slice Ak T.ks.length nk) ∧ w'.cell? ⟨w3.heap.size, 2, none⟩ = some (.slice Ac C.length nc) ∧ w'.cell? ⟨w.heap.size, 0, none⟩ = some (.slice A3 t.es.length n3) ∧ w'.cell? ⟨w.heap.size, 1, none⟩ = some (.slice A4 t.ks.length n4))
      (first | go_keep | exact HY.out _ hb7.out | exact HY.out _ hb6.out | exact HY.out _ hb5.out)
      (first | (go_at_call 34; go_loud ((refine (lseen_any t s _ _ _ (HC.out _ (by go_grown)) hkb hsz4 HTR.out).mono ?_); rintro e w5 ⟨v5, rfl, ho5, hb⟩; have hb5 : Hid (Below w4.heap.size w4 w5) := (Below.trans (by go_grown) (hb.mono (by simp))); have hs5 : w4.heap.size ≤ w5.heap.size := hb5.out.size; (try (have HKC : Hid (w5.cell? ⟨w4.heap.size, 0, none⟩ = some (.string s)) := (hb.cell (p := ⟨w4.heap.size, 0, none⟩) (by simp; done)).trans (by rw [World.cell?_drew, World.cell?_alloc_at _ _ _ _ (by simp)]; rfl))); (try (have HKC : Hid (w5.cell? ⟨w4.heap.size, 0, none⟩ = some (.string s)) := (hb.cell (p := ⟨w4.heap.size, 0, none⟩) (by simp; done)).trans (by rw [World.cell?_alloc_at _ _ _ _ (by simp)]; rfl))); (try (have HKS : Hid (w4.heap.size < w5.heap.size) := (by have := hb.size; simp at this; unfold Hid; omega))); have hsl5 := hid (ho5.sl HBL.out); obtain ⟨A9, c9, hv9⟩ := ho5.shape; subst hv9; clear ho5))
             | (go_at_call 27; go_loud ((refine (r10gone_any d (ctxOf (kidT t s).dots) _ w5 hd hsl5.out hcl HSD.out HSP.out).mono ?_); rintro e w6 ⟨ve6, vk6, vc6, rfl, hrd5, hsc5, hb⟩; obtain ⟨A5, n5, A6, n6, hv5, hv6⟩ := rda_shape hrd5; subst hv5; subst hv6; obtain ⟨A7, n7, hv7⟩ := hsc5.shape; subst hv7; have hrd6 := hid (rda_rd hrd5 (fun b hb => hb.2) (Below.refl _ _)); have hsc6 := hid (hsc5.slp (fun b hb => hb.2) (Below.refl _ _)); clear hrd5 hsc5; have hb6 := hid (hb5.out.trans (hb.mono hb5.out.size))))
             | (go_at_call 21; go_loud ((refine (r09same_any T _ C _ _ _ _ _ _ _ w6 (HT.out _ (hb4.out.trans (hb6.out.mono (by omega)))) hrd6.out (HCt.out _ (hb4.out.trans (hb6.out.mono (by omega)))) hsc6.out).mono ?_); rw [HSM.out]; rintro e w7 ⟨rfl, hb⟩; have hb7 := hid (hb6.out.trans (hb.mono hb6.out.size)))))
    all_goals
      go_wp2_with fail
      go_ret
      exact ⟨rfl, hB4.trans (hb7.out.mono (by omega))⟩

set_option maxHeartbeats 4000000 in
theorem lawSA_any (t : Tr) (s : ByteArray) (d : Dt) (w : World) (ve vk : Value) (h : t.rd w w.heap.size ve vk) (hkb : s.size ≤ Big) (hd : d.Ok) :
    Calls Tryz.prog 5 #[.agg #[ve, vk], .string s, .agg #[.int .i64 d.dc, .int .i64 d.n]] w fun e w' => e = .returned (.bool true) ∧ Below w.heap.size w w' := by
  have HC : Hid (∀ w', Below w.heap.size w w' → t.rd w' w'.heap.size ve vk) := fun w' hb => rd_below hb hb.size _ _ _ h
  have hfit := fit_rd _ _ _ h
  have hel : t.es.length ≤ 140737488355328 := by obtain ⟨es, ks⟩ := t; exact hfit.1
  obtain ⟨A3, n3, A4, n4, rfl, rfl⟩ := rd_shape h
  have HB : Hid (∀ w', Below (w.heap.size + 2) ((w.alloc (.cells #[.slice A3 t.es.length n3, .slice A4 t.ks.length n4] 25)).alloc (.cells #[.int .i64 d.dc, .int .i64 d.n] 47)) w' → Below w.heap.size w w' ∧ w.heap.size + 2 ≤ w'.heap.size ∧ w'.cell? ⟨w.heap.size, 0, none⟩ = some (.slice A3 t.es.length n3) ∧ w'.cell? ⟨w.heap.size, 1, none⟩ = some (.slice A4 t.ks.length n4) ∧ w'.cell? ⟨w.heap.size + 1, 0, none⟩ = some (.int .i64 d.dc) ∧ w'.cell? ⟨w.heap.size + 1, 1, none⟩ = some (.int .i64 d.n)) := fun w' hb => by
    refine ⟨(((Below.refl _ w).alloc (Nat.le_refl _) _).alloc (by simp) _).trans (hb.mono (by omega)), by have := hb.size; simpa using this, ?_, ?_, ?_, ?_⟩
    · rw [hb.cell (p := ⟨w.heap.size, 0, none⟩) (by simp), World.cell?_alloc_lt _ _ _ (by simp)]; simp
    · rw [hb.cell (p := ⟨w.heap.size, 1, none⟩) (by simp), World.cell?_alloc_lt _ _ _ (by simp)]; simp
    · rw [hb.cell (p := ⟨w.heap.size + 1, 0, none⟩) (by simp)]; simp
    · rw [hb.cell (p := ⟨w.heap.size + 1, 1, none⟩) (by simp)]; simp
  clear h hfit
  go_enter Tryz.func5, Tryz.ntmps5
  go_wp2_with fail
  refine (awake11_any _).mono ?_
  rintro e w1 ⟨rfl, hb1⟩
  have hb1' := hid (hb1.mono (show w.heap.size + 2 ≤ _ by simp))
  clear hb1
  obtain ⟨_, _, c0, c1, d0, d1⟩ := HB.out _ hb1'.out
  go_wp2_with fail
  refine (small11_any t w1 _ _ (HC.out _ (HB.out _ hb1'.out).1)).mono ?_
  rintro e w2 ⟨rfl, hb2⟩
  have hb2' := hid (hb1'.out.trans (hb2.mono (HB.out _ hb1'.out).2.1))
  clear hb2 c0 c1 d0 d1
  obtain ⟨hB2, hs2, c0, c1, d0, d1⟩ := HB.out _ hb2'.out
  cases hs : smlB t 60
  · clear hs
    go_wp2_with fail
    refine (awake11_any _).mono ?_
    rintro e w3 ⟨rfl, hb3⟩
    have hb3' := hb2'.out.trans (hb3.mono hs2)
    go_wp2_with fail
    go_ret
    exact ⟨rfl, (HB.out _ hb3').1⟩
  have hsz : t.sz ≤ 90000 := by have := sml_sz hs; omega
  have hsz4 : t.sz ≤ 4000 := by have := sml_sz hs; omega
  have hkn : t.ks.length ≤ 900000 := by have := ks_sz t; omega
  clear hs
  go_wp2_with fail
  refine (sadd_any t s d _ _ w2 (HC.out _ hB2) hkb hsz4 hd).mono ?_
  rintro e w3 ⟨ve3, vk3, vc3, rfl, hrd, hsc, hb3⟩
  have hb3' := hid (hb2'.out.trans (hb3.mono hs2))
  clear hb3 c0 c1 d0 d1
  obtain ⟨hB3, hs3, c0, c1, d0, d1⟩ := HB.out _ hb3'.out
  have HT1 : Hid (addT t s d = if addE t s d = 0 then .mk [] [(s, oneE d)] else .mk [] []) := rfl
  have HC1 : Hid (addC t s d = if addE t s d = 0 then seenC (kidT t s) d else []) := rfl
  have HE1 : Hid (addE t s d = if !sckB t s d then 1 else if decide (24 ≤ t.ks.length) && !hasK t s then 4 else 0) := rfl
  generalize addT t s d = T at *
  generalize addC t s d = C at *
  generalize addE t s d = k at *
  obtain ⟨Ae, ne, Ak, nk, rfl, rfl⟩ := rda_shape hrd
  obtain ⟨Ac, nc, rfl⟩ := hsc.shape
  have HT : Hid (∀ w', Below w3.heap.size w3 w' → T.rd w' w'.heap.size (.slice Ae T.es.length ne) (.slice Ak T.ks.length nk)) := fun w' hb => rda_rd hrd (fun b hb => hb.2) hb
  have HCt : Hid (∀ w', Below w3.heap.size w3 w' → SlP w' w'.heap.size 3 SpE (.slice Ac C.length nc) C) := fun w' hb => hsc.slp (fun b hb => hb.2) hb
  have HX : Hid (∀ w', Below (w3.heap.size + 1) (w3.alloc (.cells #[.slice Ae T.es.length ne, .slice Ak T.ks.length nk, .slice Ac C.length nc] 29)) w' → Below w.heap.size w w' ∧ Below w3.heap.size w3 w' ∧ w3.heap.size + 1 ≤ w'.heap.size ∧ (w'.cell? ⟨w.heap.size + 1, 0, none⟩ = some (.int .i64 d.dc) ∧ w'.cell? ⟨w.heap.size + 1, 1, none⟩ = some (.int .i64 d.n) ∧ w'.cell? ⟨w3.heap.size, 0, none⟩ = some (.slice Ae T.es.length ne) ∧ w'.cell? ⟨w3.heap.size, 1, none⟩ = some (.slice Ak T.ks.length nk) ∧ w'.cell? ⟨w3.heap.size, 2, none⟩ = some (.slice Ac C.length nc) ∧
      w'.cell? ⟨w.heap.size, 0, none⟩ = some (.slice A3 t.es.length n3) ∧ w'.cell? ⟨w.heap.size, 1, none⟩ = some (.slice A4 t.ks.length n4))) := fun w' hb => by
    have hB : Below w3.heap.size w3 w' := ((Below.refl _ w3).alloc (Nat.le_refl _) _).trans (hb.mono (by omega))
    refine ⟨hB3.trans (hB.mono (by omega)), hB, by have := hb.size; simpa using this, ⟨?_, ?_, ?_, ?_, ?_, ?_, ?_⟩⟩
    · rw [hB.cell (p := ⟨w.heap.size + 1, 0, none⟩) (by show w.heap.size + 1 < _; omega)]; exact d0
    · rw [hB.cell (p := ⟨w.heap.size + 1, 1, none⟩) (by show w.heap.size + 1 < _; omega)]; exact d1
    · rw [hb.cell (p := ⟨w3.heap.size, 0, none⟩) (by simp), World.cell?_alloc_new]; rfl
    · rw [hb.cell (p := ⟨w3.heap.size, 1, none⟩) (by simp), World.cell?_alloc_new]; rfl
    · rw [hb.cell (p := ⟨w3.heap.size, 2, none⟩) (by simp), World.cell?_alloc_new]; rfl
    · rw [hB.cell (p := ⟨w.heap.size, 0, none⟩) (by show w.heap.size < _; omega)]; exact c0
    · rw [hB.cell (p := ⟨w.heap.size, 1, none⟩) (by show w.heap.size < _; omega)]; exact c1
  have hlt3 : w.heap.size + 1 < w3.heap.size := by omega
  have hlt4 : w.heap.size < w3.heap.size := by omega
  have hne3 : w.heap.size + 1 ≠ w3.heap.size := by omega
  have hne4 : w.heap.size ≠ w3.heap.size := by omega
  clear hrd hsc
  go_wp2_with fail
  refine (may_any t s d _ _ _ (HC.out _ (HX.out _ (Below.refl _ _)).1) hsz).mono ?_
  rintro e w4 ⟨rfl, hb4'⟩
  have hbx := hid ((Below.refl (w3.heap.size + 1) (w3.alloc (.cells #[.slice Ae T.es.length ne, .slice Ak T.ks.length nk, .slice Ac C.length nc] 29))).trans (hb4'.mono (by simp)))
  clear hb4' c0 c1 d0 d1
  obtain ⟨hB4, hb4', hs4, d0, d1, x0, x1, x2, c0, c1⟩ := HX.out _ hbx.out
  have hb4 := hid hb4'
  clear hb4'
  have hfi : decide ((24 : Int) ≤ (t.ks.length : Int)) = decide (24 ≤ t.ks.length) := by rw [Bool.eq_iff_iff]; simp; omega
  cases hc : sckB t s d
  · have hk : k = 1 := by rw [HE1.out, hc]; rfl
    subst hk
    have HSM : Hid ((trEq T (.mk [] []) && decide (C = [])) = true) := by unfold Hid; rw [HT1.out, HC1.out]; simp [trEq]
    clear hc hfi
    go_wp2_with fail
    refine (r09same_any T (.mk [] []) C [] _ _ _ _ _ _ w4 (HT.out _ hb4.out) rd_empty (HCt.out _ hb4.out) SlP.nil).mono ?_
    rw [HSM.out]
    rintro e w5 ⟨rfl, hb5⟩
    go_wp2_with fail
    go_ret
    exact ⟨rfl, hB4.trans (hb5.mono (by omega))⟩
  cases fl : decide (24 ≤ t.ks.length)
  · have hk : k = 0 := by rw [HE1.out, hc, fl]; rfl
    rw [fl] at hfi
    clear fl
    subst hk
    have hdr := chkT_right (sck_chk hc).1
    have htr := chkT_tree (sck_chk hc).1
    have HTR := hid htr
    have hbd := right_bd hdr
    have hkz := kidT_sz t s
    have hcl : (ctxOf (kidT t s).dots).length ≤ 50000 := by have := ctxOf_len (kidT t s).dots; have := dots_len (kidT t s); omega
    have HBL : Hid ((ctxOf (kidT t s).dots).length ≤ Big) := by unfold Hid Big; omega
    have HSD : Hid (SpsOk (ctxOf (kidT t s).dots)) := spsOk_ctxOf (right_dots (kidT t s) 5 (kid_right5 htr s))
    have HSP : Hid (SpsOk [⟨d.dc, d.n, d.n⟩]) := fun s hs => by simp at hs; subst hs; simp; omega
    have HEO : Hid (En.Ok ⟨d.dc, d.n, ByteArray.empty, 0⟩) := En.Ok.mk' hd ⟨by decide, by decide⟩
    have HY : Hid (∀ w', Below w4.heap.size w4 w' → w'.cell? ⟨w.heap.size + 1, 0, none⟩ = some (.int .i64 d.dc) ∧ w'.cell? ⟨w.heap.size + 1, 1, none⟩ = some (.int .i64 d.n) ∧ w'.cell? ⟨w3.heap.size, 0, none⟩ = some (.slice Ae T.es.length ne) ∧ w'.cell? ⟨w3.heap.size, 1, none⟩ = some (.slice Ak T.ks.length nk) ∧ w'.cell? ⟨w3.heap.size, 2, none⟩ = some (.slice Ac C.length nc) ∧ w'.cell? ⟨w.heap.size, 0, none⟩ = some (.slice A3 t.es.length n3) ∧ w'.cell? ⟨w.heap.size, 1, none⟩ = some (.slice A4 t.ks.length n4)) := fun w' hb => (HX.out _ (hbx.out.trans (hb.mono hs4))).2.2.2
    have HSM : Hid ((trEq T (buildL [([s], ⟨d.dc, d.n, ByteArray.empty, 0⟩)]) && decide (C = ctxBy (ctxOf (kidT t s).dots) [⟨d.dc, d.n, d.n⟩] 0)) = true) := by
      unfold Hid; rw [HT1.out, HC1.out, if_pos rfl, if_pos rfl, put_tree d (sck_chk hc).2, seen_eq hdr]; simp [trEq]
    clear hc hdr hbd htr
    go_upto_region 8 with (fail)
    go_region_held3 (fun w' => w'.cell? ⟨w.heap.size + 1, 0, none⟩ = some (.int .i64 d.dc) ∧ w'.cell? ⟨w.heap.size + 1, 1, none⟩ = some (.int .i64 d.n) ∧ w'.cell? ⟨w3.heap.size, 0, none⟩ = some (.slice Ae T.es.length ne) ∧ w'.cell? ⟨w3.heap.size, 1, none⟩ = some (.slice Ak T.ks.length nk) ∧ w'.cell? ⟨w3.heap.size, 2, none⟩ = some (.slice Ac C.length nc) ∧ w'.cell? ⟨w.heap.size, 0, none⟩ = some (.slice A3 t.es.length n3) ∧ w'.cell? ⟨w.heap.size, 1, none⟩ = some (.slice A4 t.ks.length n4))
      (first | go_keep | exact HY.out _ hb7.out | exact HY.out _ hb6.out | exact HY.out _ hb5.out)
      (first | (go_at_call 34; go_loud ((refine (lseen_any t s _ _ _ (HC.out _ (by go_grown)) hkb hsz4 HTR.out).mono ?_); rintro e w5 ⟨v5, rfl, ho5, hb⟩; have hb5 : Hid (Below w4.heap.size w4 w5) := (Below.trans (by go_grown) (hb.mono (by simp))); have hs5 : w4.heap.size ≤ w5.heap.size := hb5.out.size; (try (have HKC : Hid (w5.cell? ⟨w4.heap.size, 0, none⟩ = some (.string s)) := (hb.cell (p := ⟨w4.heap.size, 0, none⟩) (by simp; done)).trans (by rw [World.cell?_drew, World.cell?_alloc_at _ _ _ _ (by simp)]; rfl))); (try (have HKC : Hid (w5.cell? ⟨w4.heap.size, 0, none⟩ = some (.string s)) := (hb.cell (p := ⟨w4.heap.size, 0, none⟩) (by simp; done)).trans (by rw [World.cell?_alloc_at _ _ _ _ (by simp)]; rfl))); (try (have HKS : Hid (w4.heap.size < w5.heap.size) := (by have := hb.size; simp at this; unfold Hid; omega))); have hsl5 := hid (ho5.sl HBL.out); obtain ⟨A9, c9, hv9⟩ := ho5.shape; subst hv9; clear ho5))
             | (go_at_call 33; go_loud ((refine (r10put_any [s] ⟨d.dc, d.n, ByteArray.empty, 0⟩ (ctxOf (kidT t s).dots) _ _ _ HEO.out (by first | exact SlP.oneB (E := StE) (x := s) (cs := [.string s]) ⟨rfl, hkb⟩ rfl _ rfl (by simp) | exact SlP.at1 HKC.out hkb HKS.out) (hsl5.out.imp (by go_grown) (by first | exact Nat.le_refl _ | (rw [World.size_alloc]; omega)) fun _ _ _ h => h) hcl HSD.out HSP.out).mono ?_); rintro e w6 ⟨ve6, vk6, vc6, rfl, hrd5, hsc5, hb⟩; obtain ⟨A5, n5, A6, n6, hv5, hv6⟩ := rda_shape hrd5; subst hv5; subst hv6; obtain ⟨A7, n7, hv7⟩ := hsc5.shape; subst hv7; have hrd6 := hid (rda_rd hrd5 (fun b hb => hb.2) (Below.refl _ _)); have hsc6 := hid (hsc5.slp (fun b hb => hb.2) (Below.refl _ _)); clear hrd5 hsc5; have hb6 : Hid (Below w4.heap.size w4 w6) := (by first | exact hb5.out.trans (hb.mono hb5.out.size) | exact (hb5.out.alloc hs5 _).trans (hb.mono (by rw [World.size_alloc]; omega)))))
             | (go_at_call 21; go_loud ((refine (r09same_any T _ C _ _ _ _ _ _ _ w6 (HT.out _ (hb4.out.trans (hb6.out.mono (by omega)))) hrd6.out (HCt.out _ (hb4.out.trans (hb6.out.mono (by omega)))) hsc6.out).mono ?_); rw [HSM.out]; rintro e w7 ⟨rfl, hb⟩; have hb7 := hid (hb6.out.trans (hb.mono hb6.out.size)))))
    all_goals
      go_wp2_with fail
      go_ret
      exact ⟨rfl, hB4.trans (hb7.out.mono (by omega))⟩
  · rw [fl] at hfi
    go_wp2_with fail
    refine (r10kid_any t s w4 _ _ (HC.out _ hB4)).mono ?_
    rw [show (t.ks.any fun y => decide (y.1 = s)) = hasK t s from rfl]
    rintro e w4 ⟨rfl, hbq⟩
    have hbxq := hid (hbx.out.trans (hbq.mono hs4))
    clear hbq c0 c1 d0 d1 x0 x1 x2 hs4 hB4 hb4 hbx
    have hbx := hbxq
    obtain ⟨hB4, hb4', hs4, d0, d1, x0, x1, x2, c0, c1⟩ := HX.out _ hbx.out
    have hb4 := hid hb4'
    clear hb4' hbxq
    cases an : hasK t s
    · have hk : k = 4 := by rw [HE1.out, hc, fl, an]; rfl
      subst hk
      have HSM : Hid ((trEq T (.mk [] []) && decide (C = [])) = true) := by unfold Hid; rw [HT1.out, HC1.out]; simp [trEq]
      clear hc an fl
      go_wp2_with fail
      refine (r09same_any T (.mk [] []) C [] _ _ _ _ _ _ w4 (HT.out _ hb4.out) rd_empty (HCt.out _ hb4.out) SlP.nil).mono ?_
      rw [HSM.out]
      rintro e w5 ⟨rfl, hb5⟩
      go_wp2_with fail
      go_ret
      exact ⟨rfl, hB4.trans (hb5.mono (by omega))⟩
    · have hk : k = 0 := by rw [HE1.out, hc, fl, an]; rfl
      subst hk
      have hdr := chkT_right (sck_chk hc).1
      have htr := chkT_tree (sck_chk hc).1
      have HTR := hid htr
      have hbd := right_bd hdr
      have hkz := kidT_sz t s
      have hcl : (ctxOf (kidT t s).dots).length ≤ 50000 := by have := ctxOf_len (kidT t s).dots; have := dots_len (kidT t s); omega
      have HBL : Hid ((ctxOf (kidT t s).dots).length ≤ Big) := by unfold Hid Big; omega
      have HSD : Hid (SpsOk (ctxOf (kidT t s).dots)) := spsOk_ctxOf (right_dots (kidT t s) 5 (kid_right5 htr s))
      have HSP : Hid (SpsOk [⟨d.dc, d.n, d.n⟩]) := fun s hs => by simp at hs; subst hs; simp; omega
      have HEO : Hid (En.Ok ⟨d.dc, d.n, ByteArray.empty, 0⟩) := En.Ok.mk' hd ⟨by decide, by decide⟩
      have HY : Hid (∀ w', Below w4.heap.size w4 w' → w'.cell? ⟨w.heap.size + 1, 0, none⟩ = some (.int .i64 d.dc) ∧ w'.cell? ⟨w.heap.size + 1, 1, none⟩ = some (.int .i64 d.n) ∧ w'.cell? ⟨w3.heap.size, 0, none⟩ = some (.slice Ae T.es.length ne) ∧ w'.cell? ⟨w3.heap.size, 1, none⟩ = some (.slice Ak T.ks.length nk) ∧ w'.cell? ⟨w3.heap.size, 2, none⟩ = some (.slice Ac C.length nc) ∧ w'.cell? ⟨w.heap.size, 0, none⟩ = some (.slice A3 t.es.length n3) ∧ w'.cell? ⟨w.heap.size, 1, none⟩ = some (.slice A4 t.ks.length n4)) := fun w' hb => (HX.out _ (hbx.out.trans (hb.mono hs4))).2.2.2
      have HSM : Hid ((trEq T (buildL [([s], ⟨d.dc, d.n, ByteArray.empty, 0⟩)]) && decide (C = ctxBy (ctxOf (kidT t s).dots) [⟨d.dc, d.n, d.n⟩] 0)) = true) := by
        unfold Hid; rw [HT1.out, HC1.out, if_pos rfl, if_pos rfl, put_tree d (sck_chk hc).2, seen_eq hdr]; simp [trEq]
      clear hc hdr hbd htr an fl
      go_upto_region 8 with (fail)
      go_region_held3 (fun w' => w'.cell? ⟨w.heap.size + 1, 0, none⟩ = some (.int .i64 d.dc) ∧ w'.cell? ⟨w.heap.size + 1, 1, none⟩ = some (.int .i64 d.n) ∧ w'.cell? ⟨w3.heap.size, 0, none⟩ = some (.slice Ae T.es.length ne) ∧ w'.cell? ⟨w3.heap.size, 1, none⟩ = some (.slice Ak T.ks.length nk) ∧ w'.cell? ⟨w3.heap.size, 2, none⟩ = some (.slice Ac C.length nc) ∧ w'.cell? ⟨w.heap.size, 0, none⟩ = some (.slice A3 t.es.length n3) ∧ w'.cell? ⟨w.heap.size, 1, none⟩ = some (.slice A4 t.ks.length n4))
        (first | go_keep | exact HY.out _ hb7.out | exact HY.out _ hb6.out | exact HY.out _ hb5.out)
        (first | (go_at_call 34; go_loud ((refine (lseen_any t s _ _ _ (HC.out _ (by go_grown)) hkb hsz4 HTR.out).mono ?_); rintro e w5 ⟨v5, rfl, ho5, hb⟩; have hb5 : Hid (Below w4.heap.size w4 w5) := (Below.trans (by go_grown) (hb.mono (by simp))); have hs5 : w4.heap.size ≤ w5.heap.size := hb5.out.size; (try (have HKC : Hid (w5.cell? ⟨w4.heap.size, 0, none⟩ = some (.string s)) := (hb.cell (p := ⟨w4.heap.size, 0, none⟩) (by simp; done)).trans (by rw [World.cell?_drew, World.cell?_alloc_at _ _ _ _ (by simp)]; rfl))); (try (have HKC : Hid (w5.cell? ⟨w4.heap.size, 0, none⟩ = some (.string s)) := (hb.cell (p := ⟨w4.heap.size, 0, none⟩) (by simp; done)).trans (by rw [World.cell?_alloc_at _ _ _ _ (by simp)]; rfl))); (try (have HKS : Hid (w4.heap.size < w5.heap.size) := (by have := hb.size; simp at this; unfold Hid; omega))); have hsl5 := hid (ho5.sl HBL.out); obtain ⟨A9, c9, hv9⟩ := ho5.shape; subst hv9; clear ho5))
               | (go_at_call 33; go_loud ((refine (r10put_any [s] ⟨d.dc, d.n, ByteArray.empty, 0⟩ (ctxOf (kidT t s).dots) _ _ _ HEO.out (by first | exact SlP.oneB (E := StE) (x := s) (cs := [.string s]) ⟨rfl, hkb⟩ rfl _ rfl (by simp) | exact SlP.at1 HKC.out hkb HKS.out) (hsl5.out.imp (by go_grown) (by first | exact Nat.le_refl _ | (rw [World.size_alloc]; omega)) fun _ _ _ h => h) hcl HSD.out HSP.out).mono ?_); rintro e w6 ⟨ve6, vk6, vc6, rfl, hrd5, hsc5, hb⟩; obtain ⟨A5, n5, A6, n6, hv5, hv6⟩ := rda_shape hrd5; subst hv5; subst hv6; obtain ⟨A7, n7, hv7⟩ := hsc5.shape; subst hv7; have hrd6 := hid (rda_rd hrd5 (fun b hb => hb.2) (Below.refl _ _)); have hsc6 := hid (hsc5.slp (fun b hb => hb.2) (Below.refl _ _)); clear hrd5 hsc5; have hb6 : Hid (Below w4.heap.size w4 w6) := (by first | exact hb5.out.trans (hb.mono hb5.out.size) | exact (hb5.out.alloc hs5 _).trans (hb.mono (by rw [World.size_alloc]; omega)))))
               | (go_at_call 21; go_loud ((refine (r09same_any T _ C _ _ _ _ _ _ _ w6 (HT.out _ (hb4.out.trans (hb6.out.mono (by omega)))) hrd6.out (HCt.out _ (hb4.out.trans (hb6.out.mono (by omega)))) hsc6.out).mono ?_); rw [HSM.out]; rintro e w7 ⟨rfl, hb⟩; have hb7 := hid (hb6.out.trans (hb.mono hb6.out.size)))))
      all_goals
        go_wp2_with fail
        go_ret
        exact ⟨rfl, hB4.trans (hb7.out.mono (by omega))⟩
end Go.Proofs.YtdcmjmcipgadlaaGreat

namespace Go.Proofs.YtdcmjmcipgadlaaGreat
open Go.ChangeShapes Go.WideShapes Go.ChangeAt Go.RowKit
set_option maxRecDepth 100000

/-- No weight of a datum is beyond the reach. -/
def Wt {H : Type} (P : Program) (t : TypeId) (d : DataW H) : Prop := ∀ m ∈ d.weights P t, m ≤ reachBytes

section
variable {H : Type} {enc : TypeId × Value → H} {w : World}

theorem Wt.field {P : Program} {t : TypeId} {fs : Array Field} {parts : List (DataW H)} (hu : P.underlying t = some (.struct fs)) (h : Wt P t (.agg parts)) {i : Nat} {f : Field} {d : DataW H} (hf : fs[i]? = some f) (hd : parts[i]? = some d) : Wt P f.type d := fun m hm => by
  refine h m ?_
  unfold DataW.weights
  rw [hu]
  exact DataW.weights_mem_each (j := i) (t := f.type) (d := d) (by simp [hf]) hd m hm
theorem Wt.all {P : Program} {e : TypeId} : ∀ {ds : List (DataW H)} {d : DataW H}, d ∈ ds → ∀ m ∈ d.weights P e, m ∈ DataW.weightsAll P e ds
  | x :: ds, d, hd, m, hm => by
    rw [DataW.weightsAll]
    rcases List.mem_cons.1 hd with rfl | hd
    · exact List.mem_append_left _ hm
    · exact List.mem_append_right _ (Wt.all hd m hm)
theorem Wt.elem {P : Program} {t e : TypeId} {elems spare : List (DataW H)} (hu : P.underlying t = some (.slice e)) (h : Wt P t (.slice elems spare)) : (elems.length + spare.length) * P.bytesOf e ≤ reachBytes ∧ ∀ d ∈ elems, Wt P e d := by
  unfold Wt at h
  unfold DataW.weights at h
  rw [hu] at h
  refine ⟨h _ (by simp), fun d hd m hm => h m ?_⟩
  exact List.mem_cons_of_mem _ (List.mem_append_left _ (Wt.all hd m hm))

theorem wf_i64 {n : Int} (h : (Lit.int .i64 n).wf = true) : I64 n := by
  have h1 : IntKind.i64.min = -9223372036854775808 := rfl
  have h2 : IntKind.i64.max = 9223372036854775807 := rfl
  simp only [Lit.wf, Bool.and_eq_true, decide_eq_true_eq] at h
  unfold I64; omega

/-- A slice, whose elements are opened by hel. -/
theorem slc_open {α : Type} {E : α → List Value → Prop} {t e : TypeId} {sz bytes fuel : Nat} {cs : List Value} {x : DataW H × List MemPlace} (hu : Tryz.prog.underlying t = some (.slice e)) (hC : Tryz.prog.cellsOf e = sz) (hsz : 0 < sz) (hB : Tryz.prog.bytesOf e = bytes) (hb : 0 < bytes)
    (h : DataW.trod enc Tryz.prog w 0 (fun _ => true) true fuel t cs = some x) (hw : Wt Tryz.prog t x.1)
    (hel : ∀ n cs y, n < fuel → DataW.trod enc Tryz.prog w 0 (fun _ => true) true n e cs = some y → Wt Tryz.prog e y.1 → ∃ a, E a cs) :
    ∃ v xs, cs = [v] ∧ SlP w w.heap.size sz E v xs := by
  rcases DataW.trod_slice hu h with ⟨rfl, rfl⟩ | ⟨a, len, cap, elems, rest, n, rfl, rfl, rfl, _, hl, hm, hlen, he, hs, _⟩
  · exact ⟨_, [], rfl, SlP.nil⟩
  · obtain ⟨hr, hwe⟩ := Wt.elem hu hw
    rw [hB, List.length_map, List.length_map] at hr
    have hrl := (hs rfl).1
    have hcap : cap ≤ Big := by
      have h1 : (elems.length + rest.length) * 1 ≤ (elems.length + rest.length) * bytes := Nat.mul_le_mul_left _ hb
      unfold reachBytes at hr; unfold Big; omega
    have key : ∀ i, i < len → ∃ (x : α) (c : List Value), E x c ∧ c.length = sz ∧ ∀ j, j < sz → w.cell? (a.add (i * sz + j)) = c[j]? := fun i hi => by
      have h1 := he i hi
      have h2 : elems[i]? = some elems[i] := List.getElem?_eq_getElem (by omega)
      rw [h2] at h1
      obtain ⟨c, h3, h4⟩ := Option.bind_eq_some_iff.1 h1
      obtain ⟨_, h5, h6⟩ := World.cells?_some h3
      obtain ⟨x, hx⟩ := hel n c elems[i] (Nat.lt_succ_self n) h4 (hwe _ (List.mem_map.2 ⟨elems[i], List.getElem_mem _, rfl⟩))
      rw [hC] at h5 h6
      exact ⟨x, c, hx, h5, fun j hj => by rw [← Go.Deep.add_add]; exact h6 j hj⟩
    rcases Nat.eq_zero_or_pos len with h0 | h0
    · subst h0
      exact ⟨_, [], rfl, ⟨some a, cap, rfl, Nat.zero_le _, Nat.zero_le _, fun h => absurd rfl h⟩⟩
    · obtain ⟨x0, c0, _, hc0, hcell0⟩ := key 0 h0
      have hv0 := hcell0 0 hsz
      rw [List.getElem?_eq_getElem (by omega)] at hv0
      obtain ⟨b, off, spot⟩ := a
      have hspot : spot = none := by simpa [Addr.add] using World.cell?_spot hv0
      subst hspot
      have hbl : b < w.heap.size := by
        have := World.block_lt_of_cell? w _ hv0
        simpa [Addr.add] using this
      classical
      refine ⟨_, (List.range len).map fun i => if hi : i < len then Classical.choose (key i hi) else x0, rfl, some ⟨b, off, none⟩, cap, by simp, by simp; omega, by simp; omega, fun _ => ⟨b, off, rfl, hbl, fun j x hx => ?_⟩⟩
      have hj : j < len := by have := (List.getElem?_eq_some_iff.1 hx).1; simpa using this
      rw [List.getElem?_map, List.getElem?_range hj] at hx
      simp only [Option.map_some, dif_pos hj, Option.some.injEq] at hx
      obtain ⟨c, h1, h2, h3⟩ := Classical.choose_spec (key j hj)
      rw [hx] at h1
      refine ⟨c, h1, h2, fun i u hi => ?_⟩
      have hlt : i < sz := by have := (List.getElem?_eq_some_iff.1 hi).1; omega
      have := h3 i hlt
      rw [hi] at this
      rw [← this]
      congr 1
      simp [Addr.add, Nat.add_assoc]

theorem cellsDot : Tryz.prog.cellsOf 47 = 2 := by kernel_rfl
theorem cellsEntry : Tryz.prog.cellsOf 56 = 4 := by kernel_rfl
theorem cellsTree : Tryz.prog.cellsOf 25 = 2 := by kernel_rfl
theorem cellsKid : Tryz.prog.cellsOf 73 = 3 := by kernel_rfl
theorem cellsOne : Tryz.prog.cellsOf 9 = 1 ∧ Tryz.prog.cellsOf 3 = 1 ∧ Tryz.prog.cellsOf 2 = 1 ∧ Tryz.prog.cellsOf 22 = 1 ∧ Tryz.prog.cellsOf 23 = 1 := by refine ⟨?_, ?_, ?_, ?_, ?_⟩ <;> kernel_rfl
theorem bytesEntry : Tryz.prog.bytesOf 56 = 40 := by kernel_rfl
theorem bytesKid : Tryz.prog.bytesOf 73 = 64 := by kernel_rfl

theorem dot_open {fuel : Nat} {cs : List Value} {x : DataW H × List MemPlace} (h : DataW.trod enc Tryz.prog w 0 (fun _ => true) true fuel 47 cs = some x) : ∃ d : Dt, DtE d cs := by
  obtain ⟨xs, n, rfl, rfl, hl, hx, hf⟩ := DataW.trod_struct Tryz.underlying47 h
  rw [cellsDot] at hl
  match cs, hl with
  | [c0, c1], _ =>
    match xs, hx with
    | [y0, y1], _ =>
      have f0 : DataW.trod enc Tryz.prog w 0 (fun _ => true) true n 3 (([c0, c1].drop 0).take (Tryz.prog.cellsOf 3)) = some y0 := hf 0 _ rfl
      rw [cellsOne.2.1] at f0
      have f1 : DataW.trod enc Tryz.prog w 0 (fun _ => true) true n 2 (([c0, c1].drop 1).take (Tryz.prog.cellsOf 2)) = some y1 := hf 1 _ rfl
      rw [cellsOne.2.2.1] at f1
      obtain ⟨a, e0, _, w0⟩ := DataW.trod_int Tryz.underlying3 (show DataW.trod enc Tryz.prog w 0 (fun _ => true) true n 3 [c0] = some y0 from f0)
      obtain ⟨b, e1, _, w1⟩ := DataW.trod_int Tryz.underlying2 (show DataW.trod enc Tryz.prog w 0 (fun _ => true) true n 2 [c1] = some y1 from f1)
      simp at e0 e1
      subst e0; subst e1
      exact ⟨⟨a, b⟩, rfl, wf_i64 w0, wf_i64 w1⟩
theorem entry_open {fuel : Nat} {cs : List Value} {x : DataW H × List MemPlace} (h : DataW.trod enc Tryz.prog w 0 (fun _ => true) true fuel 56 cs = some x) (hw : Wt Tryz.prog 56 x.1) : ∃ e : En, EnE e cs := by
  obtain ⟨xs, n, rfl, rfl, hl, hx, hf⟩ := DataW.trod_struct Tryz.underlying56 h
  rw [cellsEntry] at hl
  match cs, hl with
  | [c0, c1, c2, c3], _ =>
    match xs, hx with
    | [y0, y1, y2], _ =>
      have f0 : DataW.trod enc Tryz.prog w 0 (fun _ => true) true n 47 (([c0, c1, c2, c3].drop 0).take (Tryz.prog.cellsOf 47)) = some y0 := hf 0 _ rfl
      rw [cellsDot] at f0
      have f1 : DataW.trod enc Tryz.prog w 0 (fun _ => true) true n 9 (([c0, c1, c2, c3].drop 2).take (Tryz.prog.cellsOf 9)) = some y1 := hf 1 _ rfl
      rw [cellsOne.1] at f1
      have f2 : DataW.trod enc Tryz.prog w 0 (fun _ => true) true n 2 (([c0, c1, c2, c3].drop 3).take (Tryz.prog.cellsOf 2)) = some y2 := hf 2 _ rfl
      rw [cellsOne.2.2.1] at f2
      obtain ⟨d, ed, od⟩ := dot_open (show DataW.trod enc Tryz.prog w 0 (fun _ => true) true n 47 [c0, c1] = some y0 from f0)
      obtain ⟨s, e1, hy1, _⟩ := DataW.trod_string Tryz.underlying9 (show DataW.trod enc Tryz.prog w 0 (fun _ => true) true n 9 [c2] = some y1 from f1)
      obtain ⟨b, e2, _, w2⟩ := DataW.trod_int Tryz.underlying2 (show DataW.trod enc Tryz.prog w 0 (fun _ => true) true n 2 [c3] = some y2 from f2)
      have hs : s.size ≤ Big := by
        have := Wt.field Tryz.underlying56 hw (i := 1) (d := y1.1) rfl rfl s.size (by rw [hy1]; simp [DataW.weights])
        unfold reachBytes at this; unfold Big; omega
      simp at ed e1 e2
      obtain ⟨rfl, rfl⟩ := ed
      subst e1; subst e2
      exact ⟨⟨d.dc, d.n, s, b⟩, rfl, od.dc, od.n, wf_i64 w2, hs⟩
theorem tree_open : ∀ (fuel : Nat) (cs : List Value) (x : DataW H × List MemPlace), DataW.trod enc Tryz.prog w 0 (fun _ => true) true fuel 25 cs = some x → Wt Tryz.prog 25 x.1 → ∃ t ve vk, cs = [ve, vk] ∧ Tr.rd w w.heap.size t ve vk := by
  intro fuel
  induction fuel using Nat.strongRecOn with
  | ind fuel ih =>
  intro cs x h hw
  obtain ⟨xs, n, rfl, rfl, hl, hx, hf⟩ := DataW.trod_struct Tryz.underlying25 h
  rw [cellsTree] at hl
  match cs, hl with
  | [c0, c1], _ =>
    match xs, hx with
    | [y0, y1], _ =>
      have f0 : DataW.trod enc Tryz.prog w 0 (fun _ => true) true n 22 (([c0, c1].drop 0).take (Tryz.prog.cellsOf 22)) = some y0 := hf 0 _ rfl
      rw [cellsOne.2.2.2.1] at f0
      have f1 : DataW.trod enc Tryz.prog w 0 (fun _ => true) true n 23 (([c0, c1].drop 1).take (Tryz.prog.cellsOf 23)) = some y1 := hf 1 _ rfl
      rw [cellsOne.2.2.2.2] at f1
      obtain ⟨v0, es, e0, h0⟩ := slc_open (E := EnE) Tryz.underlying22 cellsEntry (by decide) bytesEntry (by decide) (show DataW.trod enc Tryz.prog w 0 (fun _ => true) true n 22 [c0] = some y0 from f0) (Wt.field Tryz.underlying25 hw (i := 0) rfl rfl)
        (fun m cs y _ hy hwy => entry_open hy hwy)
      obtain ⟨v1, ks, e1, h1⟩ := slc_open (E := KdE w w.heap.size) Tryz.underlying23 cellsKid (by decide) bytesKid (by decide) (show DataW.trod enc Tryz.prog w 0 (fun _ => true) true n 23 [c1] = some y1 from f1) (Wt.field Tryz.underlying25 hw (i := 1) rfl rfl)
        (fun m cs y hm hy hwy => by
          obtain ⟨zs, k, rfl, rfl, hl, hz, hg⟩ := DataW.trod_struct Tryz.underlying73 hy
          rw [cellsKid] at hl
          match cs, hl with
          | [d0, d1, d2], _ =>
            match zs, hz with
            | [z0, z1], _ =>
              have g0 : DataW.trod enc Tryz.prog w 0 (fun _ => true) true k 9 (([d0, d1, d2].drop 0).take (Tryz.prog.cellsOf 9)) = some z0 := hg 0 _ rfl
              rw [cellsOne.1] at g0
              have g1 : DataW.trod enc Tryz.prog w 0 (fun _ => true) true k 25 (([d0, d1, d2].drop 1).take (Tryz.prog.cellsOf 25)) = some z1 := hg 1 _ rfl
              rw [cellsTree] at g1
              obtain ⟨s, u1, hy1, _⟩ := DataW.trod_string Tryz.underlying9 (show DataW.trod enc Tryz.prog w 0 (fun _ => true) true k 9 [d0] = some z0 from g0)
              obtain ⟨t, ve, vk, u2, ht⟩ := ih k (by omega) [d1, d2] z1 (show DataW.trod enc Tryz.prog w 0 (fun _ => true) true k 25 [d1, d2] = some z1 from g1) (Wt.field Tryz.underlying73 hwy (i := 1) rfl rfl)
              have hs : s.size ≤ Big := by
                have := Wt.field Tryz.underlying73 hwy (i := 0) (d := z0.1) rfl rfl s.size (by rw [hy1]; simp [DataW.weights])
                unfold reachBytes at this; unfold Big; omega
              simp at u1 u2
              obtain ⟨rfl, rfl⟩ := u2
              subst u1
              exact ⟨(s, t), d1, d2, rfl, hs, ht⟩)
      simp at e0 e1
      subst e0; subst e1
      exact ⟨.mk es ks, c0, c1, rfl, rd_iff.2 ⟨h0, h1⟩⟩

/-- Behind a call that turns nothing that was there, the arguments read as before. -/
theorem trodAll_below (hl : laidOutB Tryz.prog = true) {W' : World} : ∀ (ts : List TypeId) (vs : List Value) (ds : List (DataW H)) (ps : List MemPlace), (∀ t ∈ ts, Tryz.prog.readableRec t = true ∧ t < Tryz.prog.types.size) →
    DataW.TrodAll enc Tryz.prog w 0 (fun _ => true) true ts vs ds ps → Below w.heap.size w W' → (∀ x ∈ ps, x.block < w.heap.size) → DataW.TrodAll enc Tryz.prog W' 0 (fun b => decide (b < w.heap.size)) true ts vs ds ps
  | [], [], [], ps, _, h, _, _ => h
  | t :: ts, v :: vs, d :: ds, ps, hr, h, hb, hlt => by
    obtain ⟨p, q, h1, h2, rfl⟩ := h
    exact ⟨p, q, Below.trod hl (hr t (by simp)).1 (hr t (by simp)).2 h1 hb (fun x hx => hlt x (List.mem_append_left _ hx)), trodAll_below hl ts vs ds q (fun t ht => hr t (by simp [ht])) h2 hb (fun x hx => hlt x (List.mem_append_right _ hx)), rfl⟩
end
end Go.Proofs.YtdcmjmcipgadlaaGreat

namespace Go.Proofs.YtdcmjmcipgadlaaGreat
open Go.ChangeShapes Go.WideShapes Go.ChangeAt Go.RowKit
set_option maxRecDepth 100000

theorem own : ownKnob Tryz.prog.godebug = none := by kernel_rfl
theorem laidOut : laidOutB Tryz.prog = true := by kernel_rfl
theorem okTree : Tryz.prog.readableRec 25 = true ∧ 25 < Tryz.prog.types.size := ⟨by kernel_rfl, of_decide_eq_true (by kernel_rfl)⟩
theorem okDot : Tryz.prog.readableRec 47 = true ∧ 47 < Tryz.prog.types.size := ⟨by kernel_rfl, of_decide_eq_true (by kernel_rfl)⟩
theorem okInt64 : Tryz.prog.readableRec 2 = true ∧ 2 < Tryz.prog.types.size := ⟨by kernel_rfl, of_decide_eq_true (by kernel_rfl)⟩

theorem tree_arg {H : Type} {enc : TypeId × Value → H} {W : World} {base : Nat} {v : Value} {d : DataW H} {p : List MemPlace} (hv : Value.okWide Tryz.prog W .any base 25 v) (h : DataW.Trod enc Tryz.prog W 0 (fun _ => true) true 25 v d p) (hw : Wt Tryz.prog 25 d) :
    ∃ t ve vk, v = .agg #[ve, vk] ∧ Tr.rd W W.heap.size t ve vk := by
  obtain ⟨cs, rfl, hs⟩ := okWide_struct Tryz.underlying25 hv
  obtain ⟨fuel, hf⟩ := h
  obtain ⟨t, ve, vk, e, ht⟩ := tree_open fuel _ _ hf hw
  refine ⟨t, ve, vk, ?_, ht⟩
  simp [Value.cells] at e
  obtain ⟨l⟩ := cs
  simp at e
  rw [e]
theorem dot_arg {H : Type} {enc : TypeId × Value → H} {W : World} {base : Nat} {v : Value} {d : DataW H} {p : List MemPlace} (hv : Value.okWide Tryz.prog W .any base 47 v) (h : DataW.Trod enc Tryz.prog W 0 (fun _ => true) true 47 v d p) :
    ∃ x : Dt, v = .agg #[.int .i64 x.dc, .int .i64 x.n] ∧ x.Ok := by
  obtain ⟨cs, rfl, hs⟩ := okWide_struct Tryz.underlying47 hv
  obtain ⟨fuel, hf⟩ := h
  obtain ⟨x, e, ho⟩ := dot_open hf
  refine ⟨x, ?_, ho⟩
  simp [Value.cells] at e
  obtain ⟨l⟩ := cs
  simp at e
  rw [e]
theorem int_arg {H : Type} {enc : TypeId × Value → H} {W : World} {base : Nat} {v : Value} {d : DataW H} {p : List MemPlace} (hv : Value.okWide Tryz.prog W .any base 2 v) (h : DataW.Trod enc Tryz.prog W 0 (fun _ => true) true 2 v d p) :
    ∃ n : Int, v = .int .i64 n ∧ I64 n := by
  obtain ⟨n, rfl, _, _, hw⟩ := open_int Tryz.underlying2 hv h
  exact ⟨n, rfl, wf_i64 hw⟩
end Go.Proofs.YtdcmjmcipgadlaaGreat

namespace Go.Proofs.YtdcmjmcipgadlaaGreat
open Go.ChangeShapes Go.WideShapes Go.ChangeAt Go.RowKit
set_option maxRecDepth 100000

theorem okString : Tryz.prog.readableRec 9 = true ∧ 9 < Tryz.prog.types.size := ⟨by kernel_rfl, of_decide_eq_true (by kernel_rfl)⟩
theorem str_arg {H : Type} {enc : TypeId × Value → H} {W : World} {base : Nat} {v : Value} {d : DataW H} {p : List MemPlace} (hv : Value.okWide Tryz.prog W .any base 9 v) (h : DataW.Trod enc Tryz.prog W 0 (fun _ => true) true 9 v d p) (hw : Wt Tryz.prog 9 d) :
    ∃ s : ByteArray, v = .string s ∧ s.size ≤ Big := by
  obtain ⟨s, rfl⟩ := okWide_string Tryz.underlying9 hv
  obtain ⟨fuel, hf⟩ := h
  obtain ⟨s', e, hy, _⟩ := DataW.trod_string Tryz.underlying9 hf
  simp [Value.cells] at e
  subst e
  refine ⟨_, rfl, ?_⟩
  have := hw s.size (by rw [(Prod.mk.inj hy).1]; simp [DataW.weights])
  unfold reachBytes at this; unfold Big; omega
end Go.Proofs.YtdcmjmcipgadlaaGreat
