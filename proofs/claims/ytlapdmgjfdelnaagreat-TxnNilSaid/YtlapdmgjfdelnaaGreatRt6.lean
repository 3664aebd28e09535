/- What the laws need, part 6: ormap.Update. No condition but that there is not too much. flag.Enable. No condition but that there are not too many entries. ormap.Reset. No condition but that there are not too many entries. Changes of a tree, plain: what the program's loop makes is what the document says. op.Apply, plain: leaf and loop make what the document says. The plain law of OpApart; what is read. Which changes take another one's entry away: plain. What is known by those who make changes and hear of others': plain. Changes that were made, in memory. No condition. context.Same. No condition but that there are not too many. causal.Same, causal.Leq, tributarylaw09.join. Condition: not too big. The plain law of CounterAll. What is read is what the changes tell: plain. Three who make changes and hear of others', step by step: plain. A box that holds what is known: what a walk leaves behind a call whose result is laid into a box. No condition. Three who make changes and hear of others', in memory. No condition. -/
import Derived.Test.YtlapdmgjfdelnaaGreatRt5
namespace Go.Proofs.YtlapdmgjfdelnaaGreat
open Go.RowKit
set_option maxRecDepth 100000

/-- What ormap.Update tells: the error's number, the tree, the context. -/
def updE (t : Tr) (key : ByteArray) (D : Tr) (c : List Sp) : Int :=
  if !(t.right 5) || !caR D c || !keyB key then 1 else if !empB D.es.length D.ks.length && decide (24 ≤ t.ks.length) && !(t.ks.any fun y => decide (y.1 = key)) then 4 else wrapE D key
def updT (t : Tr) (key : ByteArray) (D : Tr) (c : List Sp) : Tr := if updE t key D c = 0 then wrapT D key else .mk [] []
def updC (t : Tr) (key : ByteArray) (D : Tr) (c : List Sp) : List Sp := if updE t key D c = 0 then c else []

theorem cell_box3n {w3 : World} {b : Nat} {x0 x1 x2 : Value} {a : Addr} {v : Value} (hne : b ≠ a.block) (h : w3.cell? a = some v) :
    (((w3.setCell ⟨b, 0, none⟩ x0).setCell ⟨b, 1, none⟩ x1).setCell ⟨b, 2, none⟩ x2).cell? a = some v := by
  rw [World.cell?_setCell_far _ _ _ _ hne, World.cell?_setCell_far _ _ _ _ hne, World.cell?_setCell_far _ _ _ _ hne]; exact h
set_option maxHeartbeats 4000000 in
theorem oupdate_any (t D : Tr) (c : List Sp) (key : ByteArray) (ve vk xe xk xc : Value) (w : World) (h : t.rd w w.heap.size ve vk) (hD : D.rd w w.heap.size xe xk) (hc : SlP w w.heap.size 3 SpE xc c) (hkey : key.size ≤ Big) (hN : t.sz ≤ 4000) (hN' : D.sz ≤ 4000) (hN2 : c.length ≤ 20000) :
    Calls Tryz.prog 139 #[.agg #[ve, vk], .string key, .agg #[xe, xk, xc]] w (RetCE w (updT t key D c) (updC t key D c) (updE t key D c)) := by
  have HT : Hid (∀ w', Below w.heap.size w w' → t.rd w' w'.heap.size ve vk) := fun w' hb => rd_below hb hb.size _ _ _ h
  have HD : Hid (∀ w', Below w.heap.size w w' → D.rd w' w'.heap.size xe xk) := fun w' hb => rd_below hb hb.size _ _ _ hD
  have HC : Hid (∀ w', Below w.heap.size w w' → SlP w' w'.heap.size 3 SpE xc c) := fun w' hb => hc.imp hb hb.size fun _ _ _ h => h
  have HKS : Hid (∀ w', Below w.heap.size w w' → SlP w' w'.heap.size 3 (KdE w' w'.heap.size) vk t.ks) := fun w' hb => by
    have := HT.out w' hb; obtain ⟨es, ks⟩ := t; exact (rd_iff.1 this).2
  obtain ⟨A3, n3, A4, n4, rfl, rfl⟩ := rd_shape h
  obtain ⟨A5, n5, A6, n6, rfl, rfl⟩ := rd_shape hD
  obtain ⟨A7, n7, rfl, _⟩ := hc
  have hkb : key.size ≤ 140737488355328 := hkey
  clear h hD
  have hb0 : Below w.heap.size w ((((w.alloc (.cells #[.slice A3 t.es.length n3, .slice A4 t.ks.length n4] 25)).alloc (.cells #[.string key] 9)).alloc (.cells #[.slice A5 D.es.length n5, .slice A6 D.ks.length n6, .slice A7 c.length n7] 29)).alloc (.cells #[.slice none 0 0, .slice none 0 0, .slice none 0 0] 29)) :=
    ((((Below.refl _ w).alloc (Nat.le_refl _) _).alloc (by simp) _).alloc (by simp <;> omega) _).alloc (by simp <;> omega) _
  have HW : Hid (∀ w', Below (w.heap.size + 4) ((((w.alloc (.cells #[.slice A3 t.es.length n3, .slice A4 t.ks.length n4] 25)).alloc (.cells #[.string key] 9)).alloc (.cells #[.slice A5 D.es.length n5, .slice A6 D.ks.length n6, .slice A7 c.length n7] 29)).alloc (.cells #[.slice none 0 0, .slice none 0 0, .slice none 0 0] 29)) w' →
      Below w.heap.size w w' ∧ w.heap.size + 4 ≤ w'.heap.size ∧ w'.heap[w.heap.size]? = some (.cells #[.slice A3 t.es.length n3, .slice A4 t.ks.length n4] 25 (0, 0)) ∧ w'.heap[w.heap.size + 1]? = some (.cells #[.string key] 9 (0, 0)) ∧
      w'.heap[w.heap.size + 2]? = some (.cells #[.slice A5 D.es.length n5, .slice A6 D.ks.length n6, .slice A7 c.length n7] 29 (0, 0)) ∧ w'.heap[w.heap.size + 3]? = some (.cells #[.slice none 0 0, .slice none 0 0, .slice none 0 0] 29 (0, 0))) := fun w' hb =>
    ⟨hb0.trans (hb.mono (by omega)), by have := hb.size; simpa using this, (hb.block _ (by omega)).trans ((heap_old (by simp <;> omega)).trans ((heap_old (by simp <;> omega)).trans ((heap_old (by simp)).trans (heap_new rfl)))), (hb.block _ (by omega)).trans ((heap_old (by simp <;> omega)).trans ((heap_old (by simp)).trans (heap_new (by simp)))), (hb.block _ (by omega)).trans ((heap_old (by simp)).trans (heap_new (by simp))), (hb.block _ (by omega)).trans (heap_new (by simp))⟩
  go_enter Tryz.func139, Tryz.ntmps139
  go_wp2_with fail
  refine (tRight_any t _ _ _ (HT.out _ hb0)).mono ?_
  rintro e w1 ⟨rfl, hb1⟩
  have hb1' := hid (hb1.mono (show w.heap.size + 4 ≤ _ by simp))
  obtain ⟨hB1, hs1, g3, g4, g5, g6⟩ := HW.out _ hb1'.out
  have HG6 := hid g6
  have c0 : w1.cell? ⟨w.heap.size, 0, none⟩ = some (.slice A3 t.es.length n3) := cell_cells (i := 0) g3
  have c1 : w1.cell? ⟨w.heap.size, 1, none⟩ = some (.slice A4 t.ks.length n4) := cell_cells (i := 1) g3
  have d0 : w1.cell? ⟨w.heap.size + 1, 0, none⟩ = some (.string key) := cell_cells (i := 0) g4
  have e0 : w1.cell? ⟨w.heap.size + 2, 0, none⟩ = some (.slice A5 D.es.length n5) := cell_cells (i := 0) g5
  have e1 : w1.cell? ⟨w.heap.size + 2, 1, none⟩ = some (.slice A6 D.ks.length n6) := cell_cells (i := 1) g5
  have e2 : w1.cell? ⟨w.heap.size + 2, 2, none⟩ = some (.slice A7 c.length n7) := cell_cells (i := 2) g5
  have k0 : w1.cell? ⟨w.heap.size + 3, 0, none⟩ = some (.slice none 0 0) := cell_cells (i := 0) g6
  have k1 : w1.cell? ⟨w.heap.size + 3, 1, none⟩ = some (.slice none 0 0) := cell_cells (i := 1) g6
  have k2 : w1.cell? ⟨w.heap.size + 3, 2, none⟩ = some (.slice none 0 0) := cell_cells (i := 2) g6
  have z0 := cells_frz (i := 0) g6
  have z1 := cells_frz (i := 1) g6
  have z2 := cells_frz (i := 2) g6
  clear g3 g4 g5 g6
  clear hb1
  cases hr : t.right 5
  · have HE : Hid (updE t key D c = 1) := by unfold Hid updE; rw [hr]; rfl
    have HTT : Hid (updT t key D c = .mk [] []) := by unfold Hid updT; rw [HE.out]; rfl
    have HCC : Hid (updC t key D c = []) := by unfold Hid updC; rw [HE.out]; rfl
    clear hr
    go_wp2_with fail
    obtain ⟨r0, r1, r2, hK, hS⟩ := box3 HG6.out (.slice none 0 0) (.slice none 0 0) (.slice none 0 0)
    have hBW := ((hB1.setCell (p := ⟨w.heap.size + 3, 0, none⟩) (by simp) (.slice none 0 0)).setCell (p := ⟨w.heap.size + 3, 1, none⟩) (by simp) (.slice none 0 0)).setCell (p := ⟨w.heap.size + 3, 2, none⟩) (by simp) (.slice none 0 0)
    refine bodyPost_ret (v := .tuple #[.agg #[.slice none 0 0, .slice none 0 0, .slice none 0 0], .int .i64 1]) (by simp [results, Tryz.results139, go_sem, r0, r1, r2]) rfl ⟨_, _, _, by rw [HE.out], by rw [HTT.out]; exact rda_nil _ _, by rw [HCC.out]; exact SlA.nil, hBW⟩
  go_wp2_with fail
  refine (caright_any D c _ _ _ w1 (HD.out _ hB1) (HC.out _ hB1) hN' hN2).mono ?_
  rintro e w2 ⟨rfl, hb2⟩
  clear c0 c1 d0 e0 e1 e2 k0 k1 k2 z0 z1 z2 HG6
  have hb2' := hid (hb1'.out.trans (hb2.mono hs1))
  obtain ⟨hB2, hs2, g3, g4, g5, g6⟩ := HW.out _ hb2'.out
  have HG6 := hid g6
  have c0 : w2.cell? ⟨w.heap.size, 0, none⟩ = some (.slice A3 t.es.length n3) := cell_cells (i := 0) g3
  have c1 : w2.cell? ⟨w.heap.size, 1, none⟩ = some (.slice A4 t.ks.length n4) := cell_cells (i := 1) g3
  have d0 : w2.cell? ⟨w.heap.size + 1, 0, none⟩ = some (.string key) := cell_cells (i := 0) g4
  have e0 : w2.cell? ⟨w.heap.size + 2, 0, none⟩ = some (.slice A5 D.es.length n5) := cell_cells (i := 0) g5
  have e1 : w2.cell? ⟨w.heap.size + 2, 1, none⟩ = some (.slice A6 D.ks.length n6) := cell_cells (i := 1) g5
  have e2 : w2.cell? ⟨w.heap.size + 2, 2, none⟩ = some (.slice A7 c.length n7) := cell_cells (i := 2) g5
  have k0 : w2.cell? ⟨w.heap.size + 3, 0, none⟩ = some (.slice none 0 0) := cell_cells (i := 0) g6
  have k1 : w2.cell? ⟨w.heap.size + 3, 1, none⟩ = some (.slice none 0 0) := cell_cells (i := 1) g6
  have k2 : w2.cell? ⟨w.heap.size + 3, 2, none⟩ = some (.slice none 0 0) := cell_cells (i := 2) g6
  have z0 := cells_frz (i := 0) g6
  have z1 := cells_frz (i := 1) g6
  have z2 := cells_frz (i := 2) g6
  clear g3 g4 g5 g6
  clear hb2
  cases hq : caR D c
  · have HE : Hid (updE t key D c = 1) := by unfold Hid updE; rw [hr, hq]; rfl
    have HTT : Hid (updT t key D c = .mk [] []) := by unfold Hid updT; rw [HE.out]; rfl
    have HCC : Hid (updC t key D c = []) := by unfold Hid updC; rw [HE.out]; rfl
    clear hr hq
    go_wp2_with fail
    obtain ⟨r0, r1, r2, hK, hS⟩ := box3 HG6.out (.slice none 0 0) (.slice none 0 0) (.slice none 0 0)
    have hBW := ((hB2.setCell (p := ⟨w.heap.size + 3, 0, none⟩) (by simp) (.slice none 0 0)).setCell (p := ⟨w.heap.size + 3, 1, none⟩) (by simp) (.slice none 0 0)).setCell (p := ⟨w.heap.size + 3, 2, none⟩) (by simp) (.slice none 0 0)
    refine bodyPost_ret (v := .tuple #[.agg #[.slice none 0 0, .slice none 0 0, .slice none 0 0], .int .i64 1]) (by simp [results, Tryz.results139, go_sem, r0, r1, r2]) rfl ⟨_, _, _, by rw [HE.out], by rw [HTT.out]; exact rda_nil _ _, by rw [HCC.out]; exact SlA.nil, hBW⟩
  cases kb : keyB key
  · have hkb2 : ¬ (1 ≤ key.size ∧ key.size ≤ 30) := by simpa [keyB] using kb
    have HE : Hid (updE t key D c = 1) := by unfold Hid updE; rw [hr, hq, kb]; rfl
    have HTT : Hid (updT t key D c = .mk [] []) := by unfold Hid updT; rw [HE.out]; rfl
    have HCC : Hid (updC t key D c = []) := by unfold Hid updC; rw [HE.out]; rfl
    clear hr hq kb
    by_cases hz : key.size < 1
    · have t1 : decide ((key.size : Int) < 1) = true := by simp; omega
      go_wp2_with fail
      obtain ⟨r0, r1, r2, hK, hS⟩ := box3 HG6.out (.slice none 0 0) (.slice none 0 0) (.slice none 0 0)
      have hBW := ((hB2.setCell (p := ⟨w.heap.size + 3, 0, none⟩) (by simp) (.slice none 0 0)).setCell (p := ⟨w.heap.size + 3, 1, none⟩) (by simp) (.slice none 0 0)).setCell (p := ⟨w.heap.size + 3, 2, none⟩) (by simp) (.slice none 0 0)
      refine bodyPost_ret (v := .tuple #[.agg #[.slice none 0 0, .slice none 0 0, .slice none 0 0], .int .i64 1]) (by simp [results, Tryz.results139, go_sem, r0, r1, r2]) rfl ⟨_, _, _, by rw [HE.out], by rw [HTT.out]; exact rda_nil _ _, by rw [HCC.out]; exact SlA.nil, hBW⟩
    · have t1 : decide ((key.size : Int) < 1) = false := by simp; omega
      have t2 : decide ((30 : Int) < key.size) = true := by simp; omega
      go_wp2_with fail
      obtain ⟨r0, r1, r2, hK, hS⟩ := box3 HG6.out (.slice none 0 0) (.slice none 0 0) (.slice none 0 0)
      have hBW := ((hB2.setCell (p := ⟨w.heap.size + 3, 0, none⟩) (by simp) (.slice none 0 0)).setCell (p := ⟨w.heap.size + 3, 1, none⟩) (by simp) (.slice none 0 0)).setCell (p := ⟨w.heap.size + 3, 2, none⟩) (by simp) (.slice none 0 0)
      refine bodyPost_ret (v := .tuple #[.agg #[.slice none 0 0, .slice none 0 0, .slice none 0 0], .int .i64 1]) (by simp [results, Tryz.results139, go_sem, r0, r1, r2]) rfl ⟨_, _, _, by rw [HE.out], by rw [HTT.out]; exact rda_nil _ _, by rw [HCC.out]; exact SlA.nil, hBW⟩
  have hkb2 : 1 ≤ key.size ∧ key.size ≤ 30 := by simpa [keyB] using kb
  have t1 : decide ((key.size : Int) < 1) = false := by simp; omega
  have t2 : decide ((30 : Int) < key.size) = false := by simp; omega
  go_wp2_with fail
  refine (conKid_any (fun y => decide (y = key)) _ _ t.ks _ w2 (HKS.out _ hB2) (updTest d0 (by omega))).mono ?_
  rintro e w3 ⟨rfl, hb3⟩
  clear c0 c1 d0 e0 e1 e2 k0 k1 k2 z0 z1 z2 HG6
  have hb3' := hid (hb2'.out.trans (hb3.mono hs2))
  obtain ⟨hB3, hs3, g3, g4, g5, g6⟩ := HW.out _ hb3'.out
  have HG6 := hid g6
  have c0 : w3.cell? ⟨w.heap.size, 0, none⟩ = some (.slice A3 t.es.length n3) := cell_cells (i := 0) g3
  have c1 : w3.cell? ⟨w.heap.size, 1, none⟩ = some (.slice A4 t.ks.length n4) := cell_cells (i := 1) g3
  have d0 : w3.cell? ⟨w.heap.size + 1, 0, none⟩ = some (.string key) := cell_cells (i := 0) g4
  have e0 : w3.cell? ⟨w.heap.size + 2, 0, none⟩ = some (.slice A5 D.es.length n5) := cell_cells (i := 0) g5
  have e1 : w3.cell? ⟨w.heap.size + 2, 1, none⟩ = some (.slice A6 D.ks.length n6) := cell_cells (i := 1) g5
  have e2 : w3.cell? ⟨w.heap.size + 2, 2, none⟩ = some (.slice A7 c.length n7) := cell_cells (i := 2) g5
  have k0 : w3.cell? ⟨w.heap.size + 3, 0, none⟩ = some (.slice none 0 0) := cell_cells (i := 0) g6
  have k1 : w3.cell? ⟨w.heap.size + 3, 1, none⟩ = some (.slice none 0 0) := cell_cells (i := 1) g6
  have k2 : w3.cell? ⟨w.heap.size + 3, 2, none⟩ = some (.slice none 0 0) := cell_cells (i := 2) g6
  have z0 := cells_frz (i := 0) g6
  have z1 := cells_frz (i := 1) g6
  have z2 := cells_frz (i := 2) g6
  clear g3 g4 g5 g6
  clear hb3
  go_wp2_with fail
  refine (tempty_any D.es.length D.ks.length A5 A6 n5 n6 w3).mono ?_
  rintro e w4 ⟨rfl, hb4⟩
  clear c0 c1 d0 e0 e1 e2 k0 k1 k2 z0 z1 z2 HG6
  have hb4' := hid (hb3'.out.trans (hb4.mono hs3))
  obtain ⟨hB4, hs4, g3, g4, g5, g6⟩ := HW.out _ hb4'.out
  have HG6 := hid g6
  have c0 : w4.cell? ⟨w.heap.size, 0, none⟩ = some (.slice A3 t.es.length n3) := cell_cells (i := 0) g3
  have c1 : w4.cell? ⟨w.heap.size, 1, none⟩ = some (.slice A4 t.ks.length n4) := cell_cells (i := 1) g3
  have d0 : w4.cell? ⟨w.heap.size + 1, 0, none⟩ = some (.string key) := cell_cells (i := 0) g4
  have e0 : w4.cell? ⟨w.heap.size + 2, 0, none⟩ = some (.slice A5 D.es.length n5) := cell_cells (i := 0) g5
  have e1 : w4.cell? ⟨w.heap.size + 2, 1, none⟩ = some (.slice A6 D.ks.length n6) := cell_cells (i := 1) g5
  have e2 : w4.cell? ⟨w.heap.size + 2, 2, none⟩ = some (.slice A7 c.length n7) := cell_cells (i := 2) g5
  have k0 : w4.cell? ⟨w.heap.size + 3, 0, none⟩ = some (.slice none 0 0) := cell_cells (i := 0) g6
  have k1 : w4.cell? ⟨w.heap.size + 3, 1, none⟩ = some (.slice none 0 0) := cell_cells (i := 1) g6
  have k2 : w4.cell? ⟨w.heap.size + 3, 2, none⟩ = some (.slice none 0 0) := cell_cells (i := 2) g6
  have z0 := cells_frz (i := 0) g6
  have z1 := cells_frz (i := 1) g6
  have z2 := cells_frz (i := 2) g6
  clear g3 g4 g5 g6
  clear hb4
  have hfi : decide ((24 : Int) ≤ (t.ks.length : Int)) = decide (24 ≤ t.ks.length) := by rw [Bool.eq_iff_iff]; simp; omega
  cases em : empB D.es.length D.ks.length
  · cases fl : decide (24 ≤ t.ks.length)
    · have HE0 : Hid (updE t key D c = wrapE D key) := by unfold Hid updE; rw [hr, hq, kb, em, fl]; simp
      rw [fl] at hfi
      clear em fl
      clear hr hq kb
      go_wp2_with fail
      refine (twrap_any D key _ _ _ _ (HD.out _ (hB4.alloc (by omega) _)) (SlP.oneB (x := key) (cs := [.string key]) ⟨rfl, hkey⟩ rfl _ rfl (by simp)) (by omega)).mono ?_
      rintro e w5 ⟨v5, u5, rfl, hrd5, hb5⟩
      obtain ⟨A8, n8, A9, n9, rfl, rfl⟩ := rda_shape hrd5
      clear c0 c1 d0 e0 e1 e2 k0 k1 k2 z0 z1 z2 HG6
      have hb5' := hid (hb4'.out.trans ((((Below.refl w4.heap.size w4).alloc (Nat.le_refl _) _).trans (hb5.mono (show w4.heap.size ≤ _ by simp))).mono hs4))
      obtain ⟨hB5, hs5, g3, g4, g5, g6⟩ := HW.out _ hb5'.out
      have HG6 := hid g6
      have c0 : w5.cell? ⟨w.heap.size, 0, none⟩ = some (.slice A3 t.es.length n3) := cell_cells (i := 0) g3
      have c1 : w5.cell? ⟨w.heap.size, 1, none⟩ = some (.slice A4 t.ks.length n4) := cell_cells (i := 1) g3
      have d0 : w5.cell? ⟨w.heap.size + 1, 0, none⟩ = some (.string key) := cell_cells (i := 0) g4
      have e0 : w5.cell? ⟨w.heap.size + 2, 0, none⟩ = some (.slice A5 D.es.length n5) := cell_cells (i := 0) g5
      have e1 : w5.cell? ⟨w.heap.size + 2, 1, none⟩ = some (.slice A6 D.ks.length n6) := cell_cells (i := 1) g5
      have e2 : w5.cell? ⟨w.heap.size + 2, 2, none⟩ = some (.slice A7 c.length n7) := cell_cells (i := 2) g5
      have k0 : w5.cell? ⟨w.heap.size + 3, 0, none⟩ = some (.slice none 0 0) := cell_cells (i := 0) g6
      have k1 : w5.cell? ⟨w.heap.size + 3, 1, none⟩ = some (.slice none 0 0) := cell_cells (i := 1) g6
      have k2 : w5.cell? ⟨w.heap.size + 3, 2, none⟩ = some (.slice none 0 0) := cell_cells (i := 2) g6
      have z0 := cells_frz (i := 0) g6
      have z1 := cells_frz (i := 1) g6
      have z2 := cells_frz (i := 2) g6
      clear g3 g4 g5 g6
      have hs5' := hb5.size
      simp only [World.size_alloc] at hs5'
      clear hb5
      have hlt3 : w.heap.size + 3 < w5.heap.size := by omega
      have hne3 : w.heap.size + 3 ≠ w5.heap.size := by omega
      have hlt2 : w.heap.size + 2 < w5.heap.size := by omega
      have hne2 : w.heap.size + 2 ≠ w5.heap.size := by omega
      have hw3 : wrapE D key = 0 ∨ wrapE D key = 1 ∨ wrapE D key = 10 := by unfold wrapE; split <;> (try split) <;> simp
      have HTX : Hid (updT t key D c = if wrapE D key = 0 then wrapT D key else .mk [] []) := by unfold Hid updT; rw [HE0.out]
      have HCX : Hid (updC t key D c = if wrapE D key = 0 then c else []) := by unfold Hid updC; rw [HE0.out]
      rw [HE0.out]
      generalize wrapE D key = K at *
      generalize wrapT D key = T at *
      rcases hw3 with rfl | rfl | rfl
      · have HX : Hid (∀ w', Below (w5.heap.size + 1) (w5.alloc (.cells #[.slice A8 T.es.length n8, .slice A9 T.ks.length n9] 25)) w' → Below w5.heap.size w5 w' ∧ (w'.cell? ⟨w.heap.size + 2, 2, none⟩ = some (.slice A7 c.length n7) ∧ w'.cell? ⟨w5.heap.size, 0, none⟩ = some (.slice A8 T.es.length n8) ∧ w'.cell? ⟨w5.heap.size, 1, none⟩ = some (.slice A9 T.ks.length n9))) := fun w' hb => by
          have hB : Below w5.heap.size w5 w' := ((Below.refl _ w5).alloc (Nat.le_refl _) _).trans (hb.mono (by omega))
          refine ⟨hB, (hB.cell (p := ⟨w.heap.size + 2, 2, none⟩) (by show w.heap.size + 2 < _; omega)).trans e2, ?_, ?_⟩
          · rw [hb.cell (p := ⟨w5.heap.size, 0, none⟩) (by simp), World.cell?_alloc_new]; rfl
          · rw [hb.cell (p := ⟨w5.heap.size, 1, none⟩) (by simp), World.cell?_alloc_new]; rfl
        clear c0 c1 d0 e0 e1 k0 k1 k2 z0 z1 z2
        go_upto_region 9 with (fail)
        go_region_held3 (fun w' => w'.cell? ⟨w.heap.size + 2, 2, none⟩ = some (.slice A7 c.length n7) ∧ w'.cell? ⟨w5.heap.size, 0, none⟩ = some (.slice A8 T.es.length n8) ∧ w'.cell? ⟨w5.heap.size, 1, none⟩ = some (.slice A9 T.ks.length n9))
          (first | go_keep | exact (HX.out _ hbx.out).2 | exact ⟨cell_box3n (by simp) (HX.out _ hbx.out).2.1, cell_box3n (by show w.heap.size + 3 ≠ _; omega) (HX.out _ hbx.out).2.2.1, cell_box3n (by show w.heap.size + 3 ≠ _; omega) (HX.out _ hbx.out).2.2.2⟩)
          (first | (go_at_call 65; go_loud ((refine (cloneC_any c _ _ (HC.out _ ((hB5.alloc (by omega) _).drew)) (by unfold Few; omega)).mono ?_); rintro e w6 ⟨v6, rfl, ho6, hb6⟩; obtain ⟨A10, c10, hv6⟩ := ho6.shape; subst hv6; have HO6 := hid ho6; have hbx : Hid (Below (w5.heap.size + 1) (w5.alloc (.cells #[.slice A8 T.es.length n8, .slice A9 T.ks.length n9] 25)) w6) := (((Below.refl (w5.heap.size + 1) (w5.alloc (.cells #[.slice A8 T.es.length n8, .slice A9 T.ks.length n9] 25))).drew).trans (hb6.mono (by simp))); have hby := hid (HX.out _ hbx.out).1; have hs6 : w5.heap.size + 1 ≤ w6.heap.size := (by have := hbx.out.size; simpa using this); have HGx := hid ((hby.out.block (w.heap.size + 3) (by omega)).trans HG6.out); have k0 : w6.cell? ⟨w.heap.size + 3, 0, none⟩ = some (.slice none 0 0) := cell_cells (i := 0) HGx.out; have k1 : w6.cell? ⟨w.heap.size + 3, 1, none⟩ = some (.slice none 0 0) := cell_cells (i := 1) HGx.out; have k2 : w6.cell? ⟨w.heap.size + 3, 2, none⟩ = some (.slice none 0 0) := cell_cells (i := 2) HGx.out; have z0 := cells_frz (i := 0) HGx.out; have z1 := cells_frz (i := 1) HGx.out; have z2 := cells_frz (i := 2) HGx.out; have hlt6 : w.heap.size + 3 < w6.heap.size := (by omega); have hne6 : w.heap.size + 3 ≠ w6.heap.size := (by omega); clear ho6 hb6)))
        all_goals go_wp2_with fail
        obtain ⟨r0, r1, r2, hK, hS⟩ := box3 HGx.out (.slice A8 T.es.length n8) (.slice A9 T.ks.length n9) (.slice A10 c.length c10)
        have hBW : Below w.heap.size w (((w6.setCell ⟨w.heap.size + 3, 0, none⟩ (.slice A8 T.es.length n8)).setCell ⟨w.heap.size + 3, 1, none⟩ (.slice A9 T.ks.length n9)).setCell ⟨w.heap.size + 3, 2, none⟩ (.slice A10 c.length c10)) := (((hB5.trans (hby.out.mono (by omega))).setCell (by simp) _).setCell (by simp) _).setCell (by simp) _
        clear k0 k1 k2 z0 z1 z2
        generalize (((w6.setCell ⟨w.heap.size + 3, 0, none⟩ (.slice A8 T.es.length n8)).setCell ⟨w.heap.size + 3, 1, none⟩ (.slice A9 T.ks.length n9)).setCell ⟨w.heap.size + 3, 2, none⟩ (.slice A10 c.length c10)) = W at *
        refine bodyPost_ret (v := .tuple #[.agg #[.slice A8 T.es.length n8, .slice A9 T.ks.length n9, .slice A10 c.length c10], .int .i64 0]) (by simp [results, Tryz.results139, go_sem, r0, r1, r2]) rfl ⟨_, _, _, by rw [HE0.out], ?_, ?_, hBW⟩
        · rw [HTX.out, if_pos trivial]
          exact rda_up (fun b hb => (hK b (by have := hb.1; simp only [World.size_alloc] at this; omega)).trans (hby.out.block b hb.2)) (fun b hb => ⟨by have := hb.1; simp only [World.size_alloc] at this; omega, by have := hb.2; omega⟩) _ _ _ hrd5
        · rw [HCX.out, if_pos trivial]
          refine (HO6.out.sla (by unfold Big; omega)).up (fun b hb => hK b (by have := hb.1; simp only [World.size_alloc, World.size_drew] at this; omega)) (fun b hb => ⟨by have := hb.1; simp only [World.size_alloc, World.size_drew] at this; omega, by have := hb.2.1; omega⟩) (fun _ _ _ h => h)
      · go_wp2_with fail
        obtain ⟨r0, r1, r2, hK, hS⟩ := box3 HG6.out (.slice none 0 0) (.slice none 0 0) (.slice none 0 0)
        have hBW : Below w.heap.size w (((w5.setCell ⟨w.heap.size + 3, 0, none⟩ (.slice none 0 0)).setCell ⟨w.heap.size + 3, 1, none⟩ (.slice none 0 0)).setCell ⟨w.heap.size + 3, 2, none⟩ (.slice none 0 0)) := ((hB5.setCell (by simp) _).setCell (by simp) _).setCell (by simp) _
        clear c0 c1 d0 e0 e1 e2 k0 k1 k2 z0 z1 z2
        generalize (((w5.setCell ⟨w.heap.size + 3, 0, none⟩ (.slice none 0 0)).setCell ⟨w.heap.size + 3, 1, none⟩ (.slice none 0 0)).setCell ⟨w.heap.size + 3, 2, none⟩ (.slice none 0 0)) = W at *
        have q0 : (W.alloc (.cells #[.slice A8 T.es.length n8, .slice A9 T.ks.length n9] 25)).cell? ⟨w.heap.size + 1 + 1 + 1, 0, none⟩ = some (.slice none 0 0) := by rw [World.cell?_alloc_lt _ _ _ (by show w.heap.size + 3 < _; omega)]; exact r0
        have q1 : (W.alloc (.cells #[.slice A8 T.es.length n8, .slice A9 T.ks.length n9] 25)).cell? ⟨w.heap.size + 1 + 1 + 1, 1, none⟩ = some (.slice none 0 0) := by rw [World.cell?_alloc_lt _ _ _ (by show w.heap.size + 3 < _; omega)]; exact r1
        have q2 : (W.alloc (.cells #[.slice A8 T.es.length n8, .slice A9 T.ks.length n9] 25)).cell? ⟨w.heap.size + 1 + 1 + 1, 2, none⟩ = some (.slice none 0 0) := by rw [World.cell?_alloc_lt _ _ _ (by show w.heap.size + 3 < _; omega)]; exact r2
        refine bodyPost_ret (v := .tuple #[.agg #[.slice none 0 0, .slice none 0 0, .slice none 0 0], .int .i64 1]) (by simp [results, Tryz.results139, go_sem, q0, q1, q2]) rfl ⟨_, _, _, by rw [HE0.out], by rw [HTX.out, if_neg (by decide)]; exact rda_nil _ _, by rw [HCX.out, if_neg (by decide)]; exact SlA.nil, hBW.alloc (by omega) _⟩
      · go_wp2_with fail
        obtain ⟨r0, r1, r2, hK, hS⟩ := box3 HG6.out (.slice none 0 0) (.slice none 0 0) (.slice none 0 0)
        have hBW : Below w.heap.size w (((w5.setCell ⟨w.heap.size + 3, 0, none⟩ (.slice none 0 0)).setCell ⟨w.heap.size + 3, 1, none⟩ (.slice none 0 0)).setCell ⟨w.heap.size + 3, 2, none⟩ (.slice none 0 0)) := ((hB5.setCell (by simp) _).setCell (by simp) _).setCell (by simp) _
        clear c0 c1 d0 e0 e1 e2 k0 k1 k2 z0 z1 z2
        generalize (((w5.setCell ⟨w.heap.size + 3, 0, none⟩ (.slice none 0 0)).setCell ⟨w.heap.size + 3, 1, none⟩ (.slice none 0 0)).setCell ⟨w.heap.size + 3, 2, none⟩ (.slice none 0 0)) = W at *
        have q0 : (W.alloc (.cells #[.slice A8 T.es.length n8, .slice A9 T.ks.length n9] 25)).cell? ⟨w.heap.size + 1 + 1 + 1, 0, none⟩ = some (.slice none 0 0) := by rw [World.cell?_alloc_lt _ _ _ (by show w.heap.size + 3 < _; omega)]; exact r0
        have q1 : (W.alloc (.cells #[.slice A8 T.es.length n8, .slice A9 T.ks.length n9] 25)).cell? ⟨w.heap.size + 1 + 1 + 1, 1, none⟩ = some (.slice none 0 0) := by rw [World.cell?_alloc_lt _ _ _ (by show w.heap.size + 3 < _; omega)]; exact r1
        have q2 : (W.alloc (.cells #[.slice A8 T.es.length n8, .slice A9 T.ks.length n9] 25)).cell? ⟨w.heap.size + 1 + 1 + 1, 2, none⟩ = some (.slice none 0 0) := by rw [World.cell?_alloc_lt _ _ _ (by show w.heap.size + 3 < _; omega)]; exact r2
        refine bodyPost_ret (v := .tuple #[.agg #[.slice none 0 0, .slice none 0 0, .slice none 0 0], .int .i64 10]) (by simp [results, Tryz.results139, go_sem, q0, q1, q2]) rfl ⟨_, _, _, by rw [HE0.out], by rw [HTX.out, if_neg (by decide)]; exact rda_nil _ _, by rw [HCX.out, if_neg (by decide)]; exact SlA.nil, hBW.alloc (by omega) _⟩
    · rw [fl] at hfi
      cases an : (t.ks.any fun y => decide (y.1 = key))
      · have HE : Hid (updE t key D c = 4) := by unfold Hid updE; rw [hr, hq, kb, em, fl, an]; rfl
        have HTT : Hid (updT t key D c = .mk [] []) := by unfold Hid updT; rw [HE.out]; rfl
        have HCC : Hid (updC t key D c = []) := by unfold Hid updC; rw [HE.out]; rfl
        clear hr hq kb em fl an
        go_wp2_with fail
        obtain ⟨r0, r1, r2, hK, hS⟩ := box3 HG6.out (.slice none 0 0) (.slice none 0 0) (.slice none 0 0)
        have hBW := ((hB4.setCell (p := ⟨w.heap.size + 3, 0, none⟩) (by simp) (.slice none 0 0)).setCell (p := ⟨w.heap.size + 3, 1, none⟩) (by simp) (.slice none 0 0)).setCell (p := ⟨w.heap.size + 3, 2, none⟩) (by simp) (.slice none 0 0)
        refine bodyPost_ret (v := .tuple #[.agg #[.slice none 0 0, .slice none 0 0, .slice none 0 0], .int .i64 4]) (by simp [results, Tryz.results139, go_sem, r0, r1, r2]) rfl ⟨_, _, _, by rw [HE.out], by rw [HTT.out]; exact rda_nil _ _, by rw [HCC.out]; exact SlA.nil, hBW⟩
      · have HE0 : Hid (updE t key D c = wrapE D key) := by unfold Hid updE; rw [hr, hq, kb, em, fl, an]; simp
        clear em fl an
        clear hr hq kb
        go_wp2_with fail
        refine (twrap_any D key _ _ _ _ (HD.out _ (hB4.alloc (by omega) _)) (SlP.oneB (x := key) (cs := [.string key]) ⟨rfl, hkey⟩ rfl _ rfl (by simp)) (by omega)).mono ?_
        rintro e w5 ⟨v5, u5, rfl, hrd5, hb5⟩
        obtain ⟨A8, n8, A9, n9, rfl, rfl⟩ := rda_shape hrd5
        clear c0 c1 d0 e0 e1 e2 k0 k1 k2 z0 z1 z2 HG6
        have hb5' := hid (hb4'.out.trans ((((Below.refl w4.heap.size w4).alloc (Nat.le_refl _) _).trans (hb5.mono (show w4.heap.size ≤ _ by simp))).mono hs4))
        obtain ⟨hB5, hs5, g3, g4, g5, g6⟩ := HW.out _ hb5'.out
        have HG6 := hid g6
        have c0 : w5.cell? ⟨w.heap.size, 0, none⟩ = some (.slice A3 t.es.length n3) := cell_cells (i := 0) g3
        have c1 : w5.cell? ⟨w.heap.size, 1, none⟩ = some (.slice A4 t.ks.length n4) := cell_cells (i := 1) g3
        have d0 : w5.cell? ⟨w.heap.size + 1, 0, none⟩ = some (.string key) := cell_cells (i := 0) g4
        have e0 : w5.cell? ⟨w.heap.size + 2, 0, none⟩ = some (.slice A5 D.es.length n5) := cell_cells (i := 0) g5
        have e1 : w5.cell? ⟨w.heap.size + 2, 1, none⟩ = some (.slice A6 D.ks.length n6) := cell_cells (i := 1) g5
        have e2 : w5.cell? ⟨w.heap.size + 2, 2, none⟩ = some (.slice A7 c.length n7) := cell_cells (i := 2) g5
        have k0 : w5.cell? ⟨w.heap.size + 3, 0, none⟩ = some (.slice none 0 0) := cell_cells (i := 0) g6
        have k1 : w5.cell? ⟨w.heap.size + 3, 1, none⟩ = some (.slice none 0 0) := cell_cells (i := 1) g6
        have k2 : w5.cell? ⟨w.heap.size + 3, 2, none⟩ = some (.slice none 0 0) := cell_cells (i := 2) g6
        have z0 := cells_frz (i := 0) g6
        have z1 := cells_frz (i := 1) g6
        have z2 := cells_frz (i := 2) g6
        clear g3 g4 g5 g6
        have hs5' := hb5.size
        simp only [World.size_alloc] at hs5'
        clear hb5
        have hlt3 : w.heap.size + 3 < w5.heap.size := by omega
        have hne3 : w.heap.size + 3 ≠ w5.heap.size := by omega
        have hlt2 : w.heap.size + 2 < w5.heap.size := by omega
        have hne2 : w.heap.size + 2 ≠ w5.heap.size := by omega
        have hw3 : wrapE D key = 0 ∨ wrapE D key = 1 ∨ wrapE D key = 10 := by unfold wrapE; split <;> (try split) <;> simp
        have HTX : Hid (updT t key D c = if wrapE D key = 0 then wrapT D key else .mk [] []) := by unfold Hid updT; rw [HE0.out]
        have HCX : Hid (updC t key D c = if wrapE D key = 0 then c else []) := by unfold Hid updC; rw [HE0.out]
        rw [HE0.out]
        generalize wrapE D key = K at *
        generalize wrapT D key = T at *
        rcases hw3 with rfl | rfl | rfl
        · have HX : Hid (∀ w', Below (w5.heap.size + 1) (w5.alloc (.cells #[.slice A8 T.es.length n8, .slice A9 T.ks.length n9] 25)) w' → Below w5.heap.size w5 w' ∧ (w'.cell? ⟨w.heap.size + 2, 2, none⟩ = some (.slice A7 c.length n7) ∧ w'.cell? ⟨w5.heap.size, 0, none⟩ = some (.slice A8 T.es.length n8) ∧ w'.cell? ⟨w5.heap.size, 1, none⟩ = some (.slice A9 T.ks.length n9))) := fun w' hb => by
            have hB : Below w5.heap.size w5 w' := ((Below.refl _ w5).alloc (Nat.le_refl _) _).trans (hb.mono (by omega))
            refine ⟨hB, (hB.cell (p := ⟨w.heap.size + 2, 2, none⟩) (by show w.heap.size + 2 < _; omega)).trans e2, ?_, ?_⟩
            · rw [hb.cell (p := ⟨w5.heap.size, 0, none⟩) (by simp), World.cell?_alloc_new]; rfl
            · rw [hb.cell (p := ⟨w5.heap.size, 1, none⟩) (by simp), World.cell?_alloc_new]; rfl
          clear c0 c1 d0 e0 e1 k0 k1 k2 z0 z1 z2
          go_upto_region 9 with (fail)
          go_region_held3 (fun w' => w'.cell? ⟨w.heap.size + 2, 2, none⟩ = some (.slice A7 c.length n7) ∧ w'.cell? ⟨w5.heap.size, 0, none⟩ = some (.slice A8 T.es.length n8) ∧ w'.cell? ⟨w5.heap.size, 1, none⟩ = some (.slice A9 T.ks.length n9))
            (first | go_keep | exact (HX.out _ hbx.out).2 | exact ⟨cell_box3n (by simp) (HX.out _ hbx.out).2.1, cell_box3n (by show w.heap.size + 3 ≠ _; omega) (HX.out _ hbx.out).2.2.1, cell_box3n (by show w.heap.size + 3 ≠ _; omega) (HX.out _ hbx.out).2.2.2⟩)
            (first | (go_at_call 65; go_loud ((refine (cloneC_any c _ _ (HC.out _ ((hB5.alloc (by omega) _).drew)) (by unfold Few; omega)).mono ?_); rintro e w6 ⟨v6, rfl, ho6, hb6⟩; obtain ⟨A10, c10, hv6⟩ := ho6.shape; subst hv6; have HO6 := hid ho6; have hbx : Hid (Below (w5.heap.size + 1) (w5.alloc (.cells #[.slice A8 T.es.length n8, .slice A9 T.ks.length n9] 25)) w6) := (((Below.refl (w5.heap.size + 1) (w5.alloc (.cells #[.slice A8 T.es.length n8, .slice A9 T.ks.length n9] 25))).drew).trans (hb6.mono (by simp))); have hby := hid (HX.out _ hbx.out).1; have hs6 : w5.heap.size + 1 ≤ w6.heap.size := (by have := hbx.out.size; simpa using this); have HGx := hid ((hby.out.block (w.heap.size + 3) (by omega)).trans HG6.out); have k0 : w6.cell? ⟨w.heap.size + 3, 0, none⟩ = some (.slice none 0 0) := cell_cells (i := 0) HGx.out; have k1 : w6.cell? ⟨w.heap.size + 3, 1, none⟩ = some (.slice none 0 0) := cell_cells (i := 1) HGx.out; have k2 : w6.cell? ⟨w.heap.size + 3, 2, none⟩ = some (.slice none 0 0) := cell_cells (i := 2) HGx.out; have z0 := cells_frz (i := 0) HGx.out; have z1 := cells_frz (i := 1) HGx.out; have z2 := cells_frz (i := 2) HGx.out; have hlt6 : w.heap.size + 3 < w6.heap.size := (by omega); have hne6 : w.heap.size + 3 ≠ w6.heap.size := (by omega); clear ho6 hb6)))
          all_goals go_wp2_with fail
          obtain ⟨r0, r1, r2, hK, hS⟩ := box3 HGx.out (.slice A8 T.es.length n8) (.slice A9 T.ks.length n9) (.slice A10 c.length c10)
          have hBW : Below w.heap.size w (((w6.setCell ⟨w.heap.size + 3, 0, none⟩ (.slice A8 T.es.length n8)).setCell ⟨w.heap.size + 3, 1, none⟩ (.slice A9 T.ks.length n9)).setCell ⟨w.heap.size + 3, 2, none⟩ (.slice A10 c.length c10)) := (((hB5.trans (hby.out.mono (by omega))).setCell (by simp) _).setCell (by simp) _).setCell (by simp) _
          clear k0 k1 k2 z0 z1 z2
          generalize (((w6.setCell ⟨w.heap.size + 3, 0, none⟩ (.slice A8 T.es.length n8)).setCell ⟨w.heap.size + 3, 1, none⟩ (.slice A9 T.ks.length n9)).setCell ⟨w.heap.size + 3, 2, none⟩ (.slice A10 c.length c10)) = W at *
          refine bodyPost_ret (v := .tuple #[.agg #[.slice A8 T.es.length n8, .slice A9 T.ks.length n9, .slice A10 c.length c10], .int .i64 0]) (by simp [results, Tryz.results139, go_sem, r0, r1, r2]) rfl ⟨_, _, _, by rw [HE0.out], ?_, ?_, hBW⟩
          · rw [HTX.out, if_pos trivial]
            exact rda_up (fun b hb => (hK b (by have := hb.1; simp only [World.size_alloc] at this; omega)).trans (hby.out.block b hb.2)) (fun b hb => ⟨by have := hb.1; simp only [World.size_alloc] at this; omega, by have := hb.2; omega⟩) _ _ _ hrd5
          · rw [HCX.out, if_pos trivial]
            refine (HO6.out.sla (by unfold Big; omega)).up (fun b hb => hK b (by have := hb.1; simp only [World.size_alloc, World.size_drew] at this; omega)) (fun b hb => ⟨by have := hb.1; simp only [World.size_alloc, World.size_drew] at this; omega, by have := hb.2.1; omega⟩) (fun _ _ _ h => h)
        · go_wp2_with fail
          obtain ⟨r0, r1, r2, hK, hS⟩ := box3 HG6.out (.slice none 0 0) (.slice none 0 0) (.slice none 0 0)
          have hBW : Below w.heap.size w (((w5.setCell ⟨w.heap.size + 3, 0, none⟩ (.slice none 0 0)).setCell ⟨w.heap.size + 3, 1, none⟩ (.slice none 0 0)).setCell ⟨w.heap.size + 3, 2, none⟩ (.slice none 0 0)) := ((hB5.setCell (by simp) _).setCell (by simp) _).setCell (by simp) _
          clear c0 c1 d0 e0 e1 e2 k0 k1 k2 z0 z1 z2
          generalize (((w5.setCell ⟨w.heap.size + 3, 0, none⟩ (.slice none 0 0)).setCell ⟨w.heap.size + 3, 1, none⟩ (.slice none 0 0)).setCell ⟨w.heap.size + 3, 2, none⟩ (.slice none 0 0)) = W at *
          have q0 : (W.alloc (.cells #[.slice A8 T.es.length n8, .slice A9 T.ks.length n9] 25)).cell? ⟨w.heap.size + 1 + 1 + 1, 0, none⟩ = some (.slice none 0 0) := by rw [World.cell?_alloc_lt _ _ _ (by show w.heap.size + 3 < _; omega)]; exact r0
          have q1 : (W.alloc (.cells #[.slice A8 T.es.length n8, .slice A9 T.ks.length n9] 25)).cell? ⟨w.heap.size + 1 + 1 + 1, 1, none⟩ = some (.slice none 0 0) := by rw [World.cell?_alloc_lt _ _ _ (by show w.heap.size + 3 < _; omega)]; exact r1
          have q2 : (W.alloc (.cells #[.slice A8 T.es.length n8, .slice A9 T.ks.length n9] 25)).cell? ⟨w.heap.size + 1 + 1 + 1, 2, none⟩ = some (.slice none 0 0) := by rw [World.cell?_alloc_lt _ _ _ (by show w.heap.size + 3 < _; omega)]; exact r2
          refine bodyPost_ret (v := .tuple #[.agg #[.slice none 0 0, .slice none 0 0, .slice none 0 0], .int .i64 1]) (by simp [results, Tryz.results139, go_sem, q0, q1, q2]) rfl ⟨_, _, _, by rw [HE0.out], by rw [HTX.out, if_neg (by decide)]; exact rda_nil _ _, by rw [HCX.out, if_neg (by decide)]; exact SlA.nil, hBW.alloc (by omega) _⟩
        · go_wp2_with fail
          obtain ⟨r0, r1, r2, hK, hS⟩ := box3 HG6.out (.slice none 0 0) (.slice none 0 0) (.slice none 0 0)
          have hBW : Below w.heap.size w (((w5.setCell ⟨w.heap.size + 3, 0, none⟩ (.slice none 0 0)).setCell ⟨w.heap.size + 3, 1, none⟩ (.slice none 0 0)).setCell ⟨w.heap.size + 3, 2, none⟩ (.slice none 0 0)) := ((hB5.setCell (by simp) _).setCell (by simp) _).setCell (by simp) _
          clear c0 c1 d0 e0 e1 e2 k0 k1 k2 z0 z1 z2
          generalize (((w5.setCell ⟨w.heap.size + 3, 0, none⟩ (.slice none 0 0)).setCell ⟨w.heap.size + 3, 1, none⟩ (.slice none 0 0)).setCell ⟨w.heap.size + 3, 2, none⟩ (.slice none 0 0)) = W at *
          have q0 : (W.alloc (.cells #[.slice A8 T.es.length n8, .slice A9 T.ks.length n9] 25)).cell? ⟨w.heap.size + 1 + 1 + 1, 0, none⟩ = some (.slice none 0 0) := by rw [World.cell?_alloc_lt _ _ _ (by show w.heap.size + 3 < _; omega)]; exact r0
          have q1 : (W.alloc (.cells #[.slice A8 T.es.length n8, .slice A9 T.ks.length n9] 25)).cell? ⟨w.heap.size + 1 + 1 + 1, 1, none⟩ = some (.slice none 0 0) := by rw [World.cell?_alloc_lt _ _ _ (by show w.heap.size + 3 < _; omega)]; exact r1
          have q2 : (W.alloc (.cells #[.slice A8 T.es.length n8, .slice A9 T.ks.length n9] 25)).cell? ⟨w.heap.size + 1 + 1 + 1, 2, none⟩ = some (.slice none 0 0) := by rw [World.cell?_alloc_lt _ _ _ (by show w.heap.size + 3 < _; omega)]; exact r2
          refine bodyPost_ret (v := .tuple #[.agg #[.slice none 0 0, .slice none 0 0, .slice none 0 0], .int .i64 10]) (by simp [results, Tryz.results139, go_sem, q0, q1, q2]) rfl ⟨_, _, _, by rw [HE0.out], by rw [HTX.out, if_neg (by decide)]; exact rda_nil _ _, by rw [HCX.out, if_neg (by decide)]; exact SlA.nil, hBW.alloc (by omega) _⟩
  · have HE0 : Hid (updE t key D c = wrapE D key) := by unfold Hid updE; rw [hr, hq, kb, em]; simp
    clear em
    clear hr hq kb
    go_wp2_with fail
    refine (twrap_any D key _ _ _ _ (HD.out _ (hB4.alloc (by omega) _)) (SlP.oneB (x := key) (cs := [.string key]) ⟨rfl, hkey⟩ rfl _ rfl (by simp)) (by omega)).mono ?_
    rintro e w5 ⟨v5, u5, rfl, hrd5, hb5⟩
    obtain ⟨A8, n8, A9, n9, rfl, rfl⟩ := rda_shape hrd5
    clear c0 c1 d0 e0 e1 e2 k0 k1 k2 z0 z1 z2 HG6
    have hb5' := hid (hb4'.out.trans ((((Below.refl w4.heap.size w4).alloc (Nat.le_refl _) _).trans (hb5.mono (show w4.heap.size ≤ _ by simp))).mono hs4))
    obtain ⟨hB5, hs5, g3, g4, g5, g6⟩ := HW.out _ hb5'.out
    have HG6 := hid g6
    have c0 : w5.cell? ⟨w.heap.size, 0, none⟩ = some (.slice A3 t.es.length n3) := cell_cells (i := 0) g3
    have c1 : w5.cell? ⟨w.heap.size, 1, none⟩ = some (.slice A4 t.ks.length n4) := cell_cells (i := 1) g3
    have d0 : w5.cell? ⟨w.heap.size + 1, 0, none⟩ = some (.string key) := cell_cells (i := 0) g4
    have e0 : w5.cell? ⟨w.heap.size + 2, 0, none⟩ = some (.slice A5 D.es.length n5) := cell_cells (i := 0) g5
    have e1 : w5.cell? ⟨w.heap.size + 2, 1, none⟩ = some (.slice A6 D.ks.length n6) := cell_cells (i := 1) g5
    have e2 : w5.cell? ⟨w.heap.size + 2, 2, none⟩ = some (.slice A7 c.length n7) := cell_cells (i := 2) g5
    have k0 : w5.cell? ⟨w.heap.size + 3, 0, none⟩ = some (.slice none 0 0) := cell_cells (i := 0) g6
    have k1 : w5.cell? ⟨w.heap.size + 3, 1, none⟩ = some (.slice none 0 0) := cell_cells (i := 1) g6
    have k2 : w5.cell? ⟨w.heap.size + 3, 2, none⟩ = some (.slice none 0 0) := cell_cells (i := 2) g6
    have z0 := cells_frz (i := 0) g6
    have z1 := cells_frz (i := 1) g6
    have z2 := cells_frz (i := 2) g6
    clear g3 g4 g5 g6
    have hs5' := hb5.size
    simp only [World.size_alloc] at hs5'
    clear hb5
    have hlt3 : w.heap.size + 3 < w5.heap.size := by omega
    have hne3 : w.heap.size + 3 ≠ w5.heap.size := by omega
    have hlt2 : w.heap.size + 2 < w5.heap.size := by omega
    have hne2 : w.heap.size + 2 ≠ w5.heap.size := by omega
    have hw3 : wrapE D key = 0 ∨ wrapE D key = 1 ∨ wrapE D key = 10 := by unfold wrapE; split <;> (try split) <;> simp
    have HTX : Hid (updT t key D c = if wrapE D key = 0 then wrapT D key else .mk [] []) := by unfold Hid updT; rw [HE0.out]
    have HCX : Hid (updC t key D c = if wrapE D key = 0 then c else []) := by unfold Hid updC; rw [HE0.out]
    rw [HE0.out]
    generalize wrapE D key = K at *
    generalize wrapT D key = T at *
    rcases hw3 with rfl | rfl | rfl
    · have HX : Hid (∀ w', Below (w5.heap.size + 1) (w5.alloc (.cells #[.slice A8 T.es.length n8, .slice A9 T.ks.length n9] 25)) w' → Below w5.heap.size w5 w' ∧ (w'.cell? ⟨w.heap.size + 2, 2, none⟩ = some (.slice A7 c.length n7) ∧ w'.cell? ⟨w5.heap.size, 0, none⟩ = some (.slice A8 T.es.length n8) ∧ w'.cell? ⟨w5.heap.size, 1, none⟩ = some (.slice A9 T.ks.length n9))) := fun w' hb => by
        have hB : Below w5.heap.size w5 w' := ((Below.refl _ w5).alloc (Nat.le_refl _) _).trans (hb.mono (by omega))
        refine ⟨hB, (hB.cell (p := ⟨w.heap.size + 2, 2, none⟩) (by show w.heap.size + 2 < _; omega)).trans e2, ?_, ?_⟩
        · rw [hb.cell (p := ⟨w5.heap.size, 0, none⟩) (by simp), World.cell?_alloc_new]; rfl
        · rw [hb.cell (p := ⟨w5.heap.size, 1, none⟩) (by simp), World.cell?_alloc_new]; rfl
      clear c0 c1 d0 e0 e1 k0 k1 k2 z0 z1 z2
      go_upto_region 9 with (fail)
      go_region_held3 (fun w' => w'.cell? ⟨w.heap.size + 2, 2, none⟩ = some (.slice A7 c.length n7) ∧ w'.cell? ⟨w5.heap.size, 0, none⟩ = some (.slice A8 T.es.length n8) ∧ w'.cell? ⟨w5.heap.size, 1, none⟩ = some (.slice A9 T.ks.length n9))
        (first | go_keep | exact (HX.out _ hbx.out).2 | exact ⟨cell_box3n (by simp) (HX.out _ hbx.out).2.1, cell_box3n (by show w.heap.size + 3 ≠ _; omega) (HX.out _ hbx.out).2.2.1, cell_box3n (by show w.heap.size + 3 ≠ _; omega) (HX.out _ hbx.out).2.2.2⟩)
        (first | (go_at_call 65; go_loud ((refine (cloneC_any c _ _ (HC.out _ ((hB5.alloc (by omega) _).drew)) (by unfold Few; omega)).mono ?_); rintro e w6 ⟨v6, rfl, ho6, hb6⟩; obtain ⟨A10, c10, hv6⟩ := ho6.shape; subst hv6; have HO6 := hid ho6; have hbx : Hid (Below (w5.heap.size + 1) (w5.alloc (.cells #[.slice A8 T.es.length n8, .slice A9 T.ks.length n9] 25)) w6) := (((Below.refl (w5.heap.size + 1) (w5.alloc (.cells #[.slice A8 T.es.length n8, .slice A9 T.ks.length n9] 25))).drew).trans (hb6.mono (by simp))); have hby := hid (HX.out _ hbx.out).1; have hs6 : w5.heap.size + 1 ≤ w6.heap.size := (by have := hbx.out.size; simpa using this); have HGx := hid ((hby.out.block (w.heap.size + 3) (by omega)).trans HG6.out); have k0 : w6.cell? ⟨w.heap.size + 3, 0, none⟩ = some (.slice none 0 0) := cell_cells (i := 0) HGx.out; have k1 : w6.cell? ⟨w.heap.size + 3, 1, none⟩ = some (.slice none 0 0) := cell_cells (i := 1) HGx.out; have k2 : w6.cell? ⟨w.heap.size + 3, 2, none⟩ = some (.slice none 0 0) := cell_cells (i := 2) HGx.out; have z0 := cells_frz (i := 0) HGx.out; have z1 := cells_frz (i := 1) HGx.out; have z2 := cells_frz (i := 2) HGx.out; have hlt6 : w.heap.size + 3 < w6.heap.size := (by omega); have hne6 : w.heap.size + 3 ≠ w6.heap.size := (by omega); clear ho6 hb6)))
      all_goals go_wp2_with fail
      obtain ⟨r0, r1, r2, hK, hS⟩ := box3 HGx.out (.slice A8 T.es.length n8) (.slice A9 T.ks.length n9) (.slice A10 c.length c10)
      have hBW : Below w.heap.size w (((w6.setCell ⟨w.heap.size + 3, 0, none⟩ (.slice A8 T.es.length n8)).setCell ⟨w.heap.size + 3, 1, none⟩ (.slice A9 T.ks.length n9)).setCell ⟨w.heap.size + 3, 2, none⟩ (.slice A10 c.length c10)) := (((hB5.trans (hby.out.mono (by omega))).setCell (by simp) _).setCell (by simp) _).setCell (by simp) _
      clear k0 k1 k2 z0 z1 z2
      generalize (((w6.setCell ⟨w.heap.size + 3, 0, none⟩ (.slice A8 T.es.length n8)).setCell ⟨w.heap.size + 3, 1, none⟩ (.slice A9 T.ks.length n9)).setCell ⟨w.heap.size + 3, 2, none⟩ (.slice A10 c.length c10)) = W at *
      refine bodyPost_ret (v := .tuple #[.agg #[.slice A8 T.es.length n8, .slice A9 T.ks.length n9, .slice A10 c.length c10], .int .i64 0]) (by simp [results, Tryz.results139, go_sem, r0, r1, r2]) rfl ⟨_, _, _, by rw [HE0.out], ?_, ?_, hBW⟩
      · rw [HTX.out, if_pos trivial]
        exact rda_up (fun b hb => (hK b (by have := hb.1; simp only [World.size_alloc] at this; omega)).trans (hby.out.block b hb.2)) (fun b hb => ⟨by have := hb.1; simp only [World.size_alloc] at this; omega, by have := hb.2; omega⟩) _ _ _ hrd5
      · rw [HCX.out, if_pos trivial]
        refine (HO6.out.sla (by unfold Big; omega)).up (fun b hb => hK b (by have := hb.1; simp only [World.size_alloc, World.size_drew] at this; omega)) (fun b hb => ⟨by have := hb.1; simp only [World.size_alloc, World.size_drew] at this; omega, by have := hb.2.1; omega⟩) (fun _ _ _ h => h)
    · go_wp2_with fail
      obtain ⟨r0, r1, r2, hK, hS⟩ := box3 HG6.out (.slice none 0 0) (.slice none 0 0) (.slice none 0 0)
      have hBW : Below w.heap.size w (((w5.setCell ⟨w.heap.size + 3, 0, none⟩ (.slice none 0 0)).setCell ⟨w.heap.size + 3, 1, none⟩ (.slice none 0 0)).setCell ⟨w.heap.size + 3, 2, none⟩ (.slice none 0 0)) := ((hB5.setCell (by simp) _).setCell (by simp) _).setCell (by simp) _
      clear c0 c1 d0 e0 e1 e2 k0 k1 k2 z0 z1 z2
      generalize (((w5.setCell ⟨w.heap.size + 3, 0, none⟩ (.slice none 0 0)).setCell ⟨w.heap.size + 3, 1, none⟩ (.slice none 0 0)).setCell ⟨w.heap.size + 3, 2, none⟩ (.slice none 0 0)) = W at *
      have q0 : (W.alloc (.cells #[.slice A8 T.es.length n8, .slice A9 T.ks.length n9] 25)).cell? ⟨w.heap.size + 1 + 1 + 1, 0, none⟩ = some (.slice none 0 0) := by rw [World.cell?_alloc_lt _ _ _ (by show w.heap.size + 3 < _; omega)]; exact r0
      have q1 : (W.alloc (.cells #[.slice A8 T.es.length n8, .slice A9 T.ks.length n9] 25)).cell? ⟨w.heap.size + 1 + 1 + 1, 1, none⟩ = some (.slice none 0 0) := by rw [World.cell?_alloc_lt _ _ _ (by show w.heap.size + 3 < _; omega)]; exact r1
      have q2 : (W.alloc (.cells #[.slice A8 T.es.length n8, .slice A9 T.ks.length n9] 25)).cell? ⟨w.heap.size + 1 + 1 + 1, 2, none⟩ = some (.slice none 0 0) := by rw [World.cell?_alloc_lt _ _ _ (by show w.heap.size + 3 < _; omega)]; exact r2
      refine bodyPost_ret (v := .tuple #[.agg #[.slice none 0 0, .slice none 0 0, .slice none 0 0], .int .i64 1]) (by simp [results, Tryz.results139, go_sem, q0, q1, q2]) rfl ⟨_, _, _, by rw [HE0.out], by rw [HTX.out, if_neg (by decide)]; exact rda_nil _ _, by rw [HCX.out, if_neg (by decide)]; exact SlA.nil, hBW.alloc (by omega) _⟩
    · go_wp2_with fail
      obtain ⟨r0, r1, r2, hK, hS⟩ := box3 HG6.out (.slice none 0 0) (.slice none 0 0) (.slice none 0 0)
      have hBW : Below w.heap.size w (((w5.setCell ⟨w.heap.size + 3, 0, none⟩ (.slice none 0 0)).setCell ⟨w.heap.size + 3, 1, none⟩ (.slice none 0 0)).setCell ⟨w.heap.size + 3, 2, none⟩ (.slice none 0 0)) := ((hB5.setCell (by simp) _).setCell (by simp) _).setCell (by simp) _
      clear c0 c1 d0 e0 e1 e2 k0 k1 k2 z0 z1 z2
      generalize (((w5.setCell ⟨w.heap.size + 3, 0, none⟩ (.slice none 0 0)).setCell ⟨w.heap.size + 3, 1, none⟩ (.slice none 0 0)).setCell ⟨w.heap.size + 3, 2, none⟩ (.slice none 0 0)) = W at *
      have q0 : (W.alloc (.cells #[.slice A8 T.es.length n8, .slice A9 T.ks.length n9] 25)).cell? ⟨w.heap.size + 1 + 1 + 1, 0, none⟩ = some (.slice none 0 0) := by rw [World.cell?_alloc_lt _ _ _ (by show w.heap.size + 3 < _; omega)]; exact r0
      have q1 : (W.alloc (.cells #[.slice A8 T.es.length n8, .slice A9 T.ks.length n9] 25)).cell? ⟨w.heap.size + 1 + 1 + 1, 1, none⟩ = some (.slice none 0 0) := by rw [World.cell?_alloc_lt _ _ _ (by show w.heap.size + 3 < _; omega)]; exact r1
      have q2 : (W.alloc (.cells #[.slice A8 T.es.length n8, .slice A9 T.ks.length n9] 25)).cell? ⟨w.heap.size + 1 + 1 + 1, 2, none⟩ = some (.slice none 0 0) := by rw [World.cell?_alloc_lt _ _ _ (by show w.heap.size + 3 < _; omega)]; exact r2
      refine bodyPost_ret (v := .tuple #[.agg #[.slice none 0 0, .slice none 0 0, .slice none 0 0], .int .i64 10]) (by simp [results, Tryz.results139, go_sem, q0, q1, q2]) rfl ⟨_, _, _, by rw [HE0.out], by rw [HTX.out, if_neg (by decide)]; exact rda_nil _ _, by rw [HCX.out, if_neg (by decide)]; exact SlA.nil, hBW.alloc (by omega) _⟩
end Go.Proofs.YtlapdmgjfdelnaaGreat

namespace Go.Proofs.YtlapdmgjfdelnaaGreat
open Go.RowKit
set_option maxRecDepth 100000

/-- What flag.Enable makes. -/
def enT (t : Tr) (d : Dt) : Tr := if chkT t d then .mk [⟨d.dc, d.n, ByteArray.empty, 0⟩] [] else .mk [] []
theorem EnE.mk' {d : Dt} (hd : d.Ok) : EnE (⟨d.dc, d.n, ByteArray.empty, 0⟩ : En) [.int .i64 d.dc, .int .i64 d.n, .string ByteArray.empty, .int .i64 0] := ⟨rfl, En.Ok.mk' hd ⟨by decide, by decide⟩⟩
theorem cell_box3 {w3 : World} {b : Nat} {x0 x1 x2 : Value} {a : Addr} {v : Value} {o : Obj} (hne : b ≠ a.block) (hlt : a.block < w3.heap.size) (h : w3.cell? a = some v) :
    ((((w3.setCell ⟨b, 0, none⟩ x0).setCell ⟨b, 1, none⟩ x1).setCell ⟨b, 2, none⟩ x2).alloc o).cell? a = some v := by
  rw [World.cell?_alloc_lt _ _ _ (by simpa using hlt), World.cell?_setCell_far _ _ _ _ hne, World.cell?_setCell_far _ _ _ _ hne, World.cell?_setCell_far _ _ _ _ hne]; exact h
set_option maxHeartbeats 4000000 in
theorem fenable_any (t : Tr) (d : Dt) (ve vk : Value) (w : World) (h : t.rd w w.heap.size ve vk) (hN : t.sz ≤ 4000) (hd : d.Ok) :
    Calls Tryz.prog 184 #[.agg #[ve, vk], .agg #[.int .i64 d.dc, .int .i64 d.n]] w (RetCE w (enT t d) (disC t d) (chkI t d)) := by
  have HC : Hid (∀ w', Below w.heap.size w w' → t.rd w' w'.heap.size ve vk) := fun w' hb => rd_below hb hb.size _ _ _ h
  obtain ⟨A3, n3, A4, n4, rfl, rfl⟩ := rd_shape h
  have hb0 := (((Below.refl w.heap.size w).alloc (Nat.le_refl _) (.cells #[.slice A3 t.es.length n3, .slice A4 t.ks.length n4] 25)).alloc (by simp) (.cells #[.int .i64 d.dc, .int .i64 d.n] 52)).alloc (by simp; omega) (.cells #[.slice none 0 0, .slice none 0 0, .slice none 0 0] 29)
  clear h
  go_enter Tryz.func184, Tryz.ntmps184
  go_wp2_with fail
  refine (fcheck_any t d _ _ _ (HC.out _ hb0) (by omega)).mono ?_
  rintro e w1 ⟨rfl, hb1⟩
  have hs1 := hb1.size
  simp only [World.size_alloc] at hs1
  have hB1 : Below w.heap.size w w1 := hb0.trans (hb1.mono (by simp; omega))
  have c0 : w1.cell? ⟨w.heap.size, 0, none⟩ = some (.slice A3 t.es.length n3) := by
    rw [hb1.cell (p := ⟨w.heap.size, 0, none⟩) (by simp; omega)]
    rw [World.cell?_alloc_lt _ _ _ (by simp; omega), World.cell?_alloc_lt _ _ _ (by simp)]; simp
  have c1 : w1.cell? ⟨w.heap.size, 1, none⟩ = some (.slice A4 t.ks.length n4) := by
    rw [hb1.cell (p := ⟨w.heap.size, 1, none⟩) (by simp; omega)]
    rw [World.cell?_alloc_lt _ _ _ (by simp; omega), World.cell?_alloc_lt _ _ _ (by simp)]; simp
  have d0 : w1.cell? ⟨w.heap.size + 1, 0, none⟩ = some (.int .i64 d.dc) := by rw [hb1.cell (p := ⟨w.heap.size + 1, 0, none⟩) (by simp), World.cell?_alloc_lt _ _ _ (by simp)]; simp
  have d1 : w1.cell? ⟨w.heap.size + 1, 1, none⟩ = some (.int .i64 d.n) := by rw [hb1.cell (p := ⟨w.heap.size + 1, 1, none⟩) (by simp), World.cell?_alloc_lt _ _ _ (by simp)]; simp
  have hg : w1.heap[w.heap.size + 2]? = some (.cells #[.slice none 0 0, .slice none 0 0, .slice none 0 0] 29 (0, 0)) := (hb1.block (w.heap.size + 2) (by simp)).trans (heap_new (by simp))
  have HG := hid hg
  have k0 : w1.cell? ⟨w.heap.size + 2, 0, none⟩ = some (.slice none 0 0) := cell_cells (i := 0) hg
  have k1 : w1.cell? ⟨w.heap.size + 2, 1, none⟩ = some (.slice none 0 0) := cell_cells (i := 1) hg
  have k2 : w1.cell? ⟨w.heap.size + 2, 2, none⟩ = some (.slice none 0 0) := cell_cells (i := 2) hg
  have z0 := cells_frz (i := 0) hg
  have z1 := cells_frz (i := 1) hg
  have z2 := cells_frz (i := 2) hg
  clear hg hb1
  cases hc : chkT t d
  · have HE : Hid (chkI t d = 1) := by unfold Hid chkI; rw [hc]; rfl
    have HD : Hid (disC t d = []) := by unfold Hid disC; rw [hc]; rfl
    have HT : Hid (enT t d = .mk [] []) := by unfold Hid enT; rw [hc]; rfl
    rw [HE.out]
    clear hc
    go_wp2_with fail
    obtain ⟨r0, r1, r2, hK, hS⟩ := box3 HG.out (.slice none 0 0) (.slice none 0 0) (.slice none 0 0)
    have hBW := ((hB1.setCell (p := ⟨w.heap.size + 2, 0, none⟩) (by simp) (.slice none 0 0)).setCell (p := ⟨w.heap.size + 2, 1, none⟩) (by simp) (.slice none 0 0)).setCell (p := ⟨w.heap.size + 2, 2, none⟩) (by simp) (.slice none 0 0)
    refine bodyPost_ret (v := .tuple #[.agg #[.slice none 0 0, .slice none 0 0, .slice none 0 0], .int .i64 1]) (by simp [results, Tryz.results184, go_sem, r0, r1, r2]) rfl ⟨_, _, _, by rw [HE.out], ?_, ?_, hBW⟩
    · rw [HT.out]; exact rda_nil _ _
    · rw [HD.out]; exact SlA.nil
  · have HE : Hid (chkI t d = 0) := by unfold Hid chkI; rw [hc]; rfl
    have HD : Hid (disC t d = seenC t d) := by unfold Hid disC; rw [hc]; rfl
    have HT : Hid (enT t d = .mk [⟨d.dc, d.n, ByteArray.empty, 0⟩] []) := by unfold Hid enT; rw [hc]; rfl
    have HDR := hid (chkT_right hc)
    have HTR := hid (chkT_tree hc)
    have hsc := seenC_len t d
    have HK : Hid (∀ w', Below w1.heap.size w1 w' → w'.cell? ⟨w.heap.size + 1, 0, none⟩ = some (.int .i64 d.dc) ∧ w'.cell? ⟨w.heap.size + 1, 1, none⟩ = some (.int .i64 d.n) ∧ w'.cell? ⟨w.heap.size, 0, none⟩ = some (.slice A3 t.es.length n3) ∧ w'.cell? ⟨w.heap.size, 1, none⟩ = some (.slice A4 t.ks.length n4)) := fun w' hb =>
      ⟨(hb.cell (p := ⟨w.heap.size + 1, 0, none⟩) (by show w.heap.size + 1 < _; omega)).trans d0, (hb.cell (p := ⟨w.heap.size + 1, 1, none⟩) (by show w.heap.size + 1 < _; omega)).trans d1, (hb.cell (p := ⟨w.heap.size, 0, none⟩) (by show w.heap.size < _; omega)).trans c0, (hb.cell (p := ⟨w.heap.size, 1, none⟩) (by show w.heap.size < _; omega)).trans c1⟩
    rw [HE.out]
    have hne5 : w.heap.size + 1 + 1 ≠ w.heap.size := by omega
    have hne6 : w.heap.size ≠ w.heap.size + 1 + 1 := by omega
    clear hc k0 k1 k2 z0 z1 z2
    go_upto_region 4 with (fail)
    go_region_held3 (fun w' => w'.cell? ⟨w.heap.size + 1, 0, none⟩ = some (.int .i64 d.dc) ∧ w'.cell? ⟨w.heap.size + 1, 1, none⟩ = some (.int .i64 d.n) ∧ w'.cell? ⟨w.heap.size, 0, none⟩ = some (.slice A3 t.es.length n3) ∧ w'.cell? ⟨w.heap.size, 1, none⟩ = some (.slice A4 t.ks.length n4))
      (first | go_keep | exact HK.out _ hbx.out | exact ⟨cell_box3 (by simp) (by show w.heap.size + 1 < _; omega) (HK.out _ hbx.out).1, cell_box3 (by simp) (by show w.heap.size + 1 < _; omega) (HK.out _ hbx.out).2.1, cell_box3 (by show w.heap.size + 1 + 1 ≠ w.heap.size; omega) (by show w.heap.size < _; omega) (HK.out _ hbx.out).2.2.1, cell_box3 (by show w.heap.size + 1 + 1 ≠ w.heap.size; omega) (by show w.heap.size < _; omega) (HK.out _ hbx.out).2.2.2⟩)
      (first | (go_at_call 217; go_loud ((refine (seen_any t d _ _ _ (HC.out _ (by first | exact hB1.drew | exact (hB1.alloc (by omega) _).drew | exact hB1.drew.alloc (by show w.heap.size ≤ w1.heap.size; omega) _)) hN HTR.out HDR.out hd).mono ?_); rintro e w3 ⟨v3, rfl, ho3, hb3⟩; obtain ⟨A5, c5, hv3⟩ := ho3.shape; subst hv3; have HO3 := hid ho3; have HB3 := hid hb3; have hbx : Hid (Below w1.heap.size w1 w3) := (by first | exact ((Below.refl _ w1).drew).trans hb3 | exact (((Below.refl _ w1).alloc (Nat.le_refl _) _).drew).trans (hb3.mono (Nat.le_of_lt (by simp))) | exact (((Below.refl _ w1).drew).alloc (Nat.le_refl _) _).trans (hb3.mono (Nat.le_of_lt (by simp)))); have hs3 := hbx.out.size; have HG3 := hid ((hbx.out.block (w.heap.size + 2) (by omega)).trans HG.out); have k0 : w3.cell? ⟨w.heap.size + 2, 0, none⟩ = some (.slice none 0 0) := cell_cells (i := 0) HG3.out; have k1 : w3.cell? ⟨w.heap.size + 2, 1, none⟩ = some (.slice none 0 0) := cell_cells (i := 1) HG3.out; have k2 : w3.cell? ⟨w.heap.size + 2, 2, none⟩ = some (.slice none 0 0) := cell_cells (i := 2) HG3.out; have z0 := cells_frz (i := 0) HG3.out; have z1 := cells_frz (i := 1) HG3.out; have z2 := cells_frz (i := 2) HG3.out; have hlt3 : w.heap.size + 2 < w3.heap.size := (by omega); have hne3 : w.heap.size + 2 ≠ w3.heap.size := (by omega); clear ho3 hb3)))
    all_goals go_wp2_with fail
    · have hE3 : w3.heap[w1.heap.size]? = some (.cells #[.int .i64 d.dc, .int .i64 d.n, .string ⟨#[]⟩, .int .i64 0] 113 (0, 0)) := (HB3.out.block w1.heap.size (by simp)).trans (heap_new rfl)
      obtain ⟨r0, r1, r2, hK, hS⟩ := box3 HG3.out (.slice (some ⟨w1.heap.size, 0, none⟩) 1 1) (.slice none 0 0) (.slice A5 (seenC t d).length c5)
      have hBW : Below w.heap.size w (((w3.setCell ⟨w.heap.size + 2, 0, none⟩ (.slice (some ⟨w1.heap.size, 0, none⟩) 1 1)).setCell ⟨w.heap.size + 2, 1, none⟩ (.slice none 0 0)).setCell ⟨w.heap.size + 2, 2, none⟩ (.slice A5 (seenC t d).length c5)) := (((hB1.trans (hbx.out.mono (by omega))).setCell (by simp) _).setCell (by simp) _).setCell (by simp) _
      clear k0 k1 k2 z0 z1 z2
      generalize (((w3.setCell ⟨w.heap.size + 2, 0, none⟩ (.slice (some ⟨w1.heap.size, 0, none⟩) 1 1)).setCell ⟨w.heap.size + 2, 1, none⟩ (.slice none 0 0)).setCell ⟨w.heap.size + 2, 2, none⟩ (.slice A5 (seenC t d).length c5)) = W at *
      refine bodyPost_ret (v := .tuple #[.agg #[.slice (some ⟨w1.heap.size, 0, none⟩) 1 1, .slice none 0 0, .slice A5 (seenC t d).length c5], .int .i64 0]) (by simp [results, Tryz.results184, go_sem, r0, r1, r2]) rfl ⟨_, _, _, by rw [HE.out], ?_, ?_, hBW⟩
      · rw [HT.out, rda_iff]
        refine ⟨?_, SlA.nil⟩
        exact SlA.one (x := (⟨d.dc, d.n, ByteArray.empty, 0⟩ : En)) (cs := [.int .i64 d.dc, .int .i64 d.n, .string ByteArray.empty, .int .i64 0]) (e := 113) (z := (0, 0)) ⟨rfl, En.Ok.mk' hd ⟨by decide, by decide⟩⟩ rfl ((hK _ (by omega)).trans hE3) ⟨by omega, by have := HB3.out.size; simp at this; omega⟩
      · rw [HD.out]
        refine (HO3.out.sla (by unfold Big; omega)).up (fun b hb => hK b (by have := hb.1; simp only [World.size_alloc, World.size_drew] at this; omega)) (fun b hb => ⟨by have := hb.1; simp only [World.size_alloc, World.size_drew] at this; omega, by have := hb.2.1; omega⟩) (fun _ _ _ h => h)
    · obtain ⟨r0, r1, r2, hK, hS⟩ := box3 HG3.out (.slice (some ⟨w3.heap.size, 0, none⟩) 1 1) (.slice none 0 0) (.slice A5 (seenC t d).length c5)
      have hBW : Below w.heap.size w (((w3.setCell ⟨w.heap.size + 2, 0, none⟩ (.slice (some ⟨w3.heap.size, 0, none⟩) 1 1)).setCell ⟨w.heap.size + 2, 1, none⟩ (.slice none 0 0)).setCell ⟨w.heap.size + 2, 2, none⟩ (.slice A5 (seenC t d).length c5)) := (((hB1.trans (hbx.out.mono (by omega))).setCell (by simp) _).setCell (by simp) _).setCell (by simp) _
      clear k0 k1 k2 z0 z1 z2
      generalize (((w3.setCell ⟨w.heap.size + 2, 0, none⟩ (.slice (some ⟨w3.heap.size, 0, none⟩) 1 1)).setCell ⟨w.heap.size + 2, 1, none⟩ (.slice none 0 0)).setCell ⟨w.heap.size + 2, 2, none⟩ (.slice A5 (seenC t d).length c5)) = W at *
      have q0 : (W.alloc (.cells #[.int .i64 d.dc, .int .i64 d.n, .string ⟨#[]⟩, .int .i64 0] 113)).cell? ⟨w.heap.size + 1 + 1, 0, none⟩ = some (.slice (some ⟨w3.heap.size, 0, none⟩) 1 1) := by rw [World.cell?_alloc_lt _ _ _ (by show w.heap.size + 2 < _; omega)]; exact r0
      have q1 : (W.alloc (.cells #[.int .i64 d.dc, .int .i64 d.n, .string ⟨#[]⟩, .int .i64 0] 113)).cell? ⟨w.heap.size + 1 + 1, 1, none⟩ = some (.slice none 0 0) := by rw [World.cell?_alloc_lt _ _ _ (by show w.heap.size + 2 < _; omega)]; exact r1
      have q2 : (W.alloc (.cells #[.int .i64 d.dc, .int .i64 d.n, .string ⟨#[]⟩, .int .i64 0] 113)).cell? ⟨w.heap.size + 1 + 1, 2, none⟩ = some (.slice A5 (seenC t d).length c5) := by rw [World.cell?_alloc_lt _ _ _ (by show w.heap.size + 2 < _; omega)]; exact r2
      refine bodyPost_ret (v := .tuple #[.agg #[.slice (some ⟨w3.heap.size, 0, none⟩) 1 1, .slice none 0 0, .slice A5 (seenC t d).length c5], .int .i64 0]) (by simp [results, Tryz.results184, go_sem, q0, q1, q2]) rfl ⟨_, _, _, by rw [HE.out], ?_, ?_, hBW.alloc (by omega) _⟩
      · rw [HT.out, rda_iff]
        refine ⟨?_, SlA.nil⟩
        exact SlA.one (x := (⟨d.dc, d.n, ByteArray.empty, 0⟩ : En)) (cs := [.int .i64 d.dc, .int .i64 d.n, .string ByteArray.empty, .int .i64 0]) (e := 113) (z := (0, 0)) ⟨rfl, En.Ok.mk' hd ⟨by decide, by decide⟩⟩ rfl (heap_new hS.symm) ⟨by omega, by rw [World.size_alloc]; omega⟩
      · rw [HD.out]
        refine (HO3.out.sla (by unfold Big; omega)).up (fun b hb => (heap_old (by have := hb.2.1; omega)).trans (hK b (by have := hb.1; simp only [World.size_drew] at this; omega))) (fun b hb => ⟨by have := hb.1; simp only [World.size_drew] at this; omega, by rw [World.size_alloc]; have := hb.2.1; omega⟩) (fun _ _ _ h => h)
end Go.Proofs.YtlapdmgjfdelnaaGreat

namespace Go.Proofs.YtlapdmgjfdelnaaGreat
open Go.RowKit
set_option maxRecDepth 100000

set_option maxHeartbeats 4000000 in
theorem oreset_any (t : Tr) (d : Dt) (ve vk : Value) (w : World) (h : t.rd w w.heap.size ve vk) (hN : t.sz ≤ 4000) (hd : d.Ok) :
    Calls Tryz.prog 189 #[.agg #[ve, vk], .agg #[.int .i64 d.dc, .int .i64 d.n]] w (RetCE w (.mk [] []) (disC t d) (chkI t d)) := by
  have hdl := dots_len t
  have h2 := ctxOf_len t.dots
  have h3 := ctxOf_len [d]
  simp only [List.length_singleton] at h3
  have HC : Hid (∀ w', Below w.heap.size w w' → t.rd w' w'.heap.size ve vk) := fun w' hb => rd_below hb hb.size _ _ _ h
  obtain ⟨A3, n3, A4, n4, rfl, rfl⟩ := rd_shape h
  have hb0 := (((Below.refl w.heap.size w).alloc (Nat.le_refl _) (.cells #[.slice A3 t.es.length n3, .slice A4 t.ks.length n4] 25)).alloc (by simp) (.cells #[.int .i64 d.dc, .int .i64 d.n] 52)).alloc (by simp; omega) (.cells #[.slice none 0 0, .slice none 0 0, .slice none 0 0] 29)
  clear h
  go_enter Tryz.func189, Tryz.ntmps189
  go_wp2_with fail
  refine (fcheck_any t d _ _ _ (HC.out _ hb0) (by omega)).mono ?_
  rintro e w1 ⟨rfl, hb1⟩
  have hs1 := hb1.size
  simp only [World.size_alloc] at hs1
  have hB1 : Below w.heap.size w w1 := hb0.trans (hb1.mono (by simp; omega))
  have c0 : w1.cell? ⟨w.heap.size, 0, none⟩ = some (.slice A3 t.es.length n3) := by
    rw [hb1.cell (p := ⟨w.heap.size, 0, none⟩) (by simp; omega)]
    rw [World.cell?_alloc_lt _ _ _ (by simp; omega), World.cell?_alloc_lt _ _ _ (by simp)]; simp
  have c1 : w1.cell? ⟨w.heap.size, 1, none⟩ = some (.slice A4 t.ks.length n4) := by
    rw [hb1.cell (p := ⟨w.heap.size, 1, none⟩) (by simp; omega)]
    rw [World.cell?_alloc_lt _ _ _ (by simp; omega), World.cell?_alloc_lt _ _ _ (by simp)]; simp
  have d0 : w1.cell? ⟨w.heap.size + 1, 0, none⟩ = some (.int .i64 d.dc) := by rw [hb1.cell (p := ⟨w.heap.size + 1, 0, none⟩) (by simp), World.cell?_alloc_lt _ _ _ (by simp)]; simp
  have d1 : w1.cell? ⟨w.heap.size + 1, 1, none⟩ = some (.int .i64 d.n) := by rw [hb1.cell (p := ⟨w.heap.size + 1, 1, none⟩) (by simp), World.cell?_alloc_lt _ _ _ (by simp)]; simp
  have hg : w1.heap[w.heap.size + 2]? = some (.cells #[.slice none 0 0, .slice none 0 0, .slice none 0 0] 29 (0, 0)) := (hb1.block (w.heap.size + 2) (by simp)).trans (heap_new (by simp))
  have HG := hid hg
  have k0 : w1.cell? ⟨w.heap.size + 2, 0, none⟩ = some (.slice none 0 0) := cell_cells (i := 0) hg
  have k1 : w1.cell? ⟨w.heap.size + 2, 1, none⟩ = some (.slice none 0 0) := cell_cells (i := 1) hg
  have k2 : w1.cell? ⟨w.heap.size + 2, 2, none⟩ = some (.slice none 0 0) := cell_cells (i := 2) hg
  have z0 := cells_frz (i := 0) hg
  have z1 := cells_frz (i := 1) hg
  have z2 := cells_frz (i := 2) hg
  clear hg hb1
  cases hc : chkT t d
  · have HE : Hid (chkI t d = 1) := by unfold Hid chkI; rw [hc]; rfl
    have HD : Hid (disC t d = []) := by unfold Hid disC; rw [hc]; rfl
    rw [HE.out]
    clear hc
    go_wp2_with fail
    obtain ⟨r0, r1, r2, hK, hS⟩ := box3 HG.out (.slice none 0 0) (.slice none 0 0) (.slice none 0 0)
    have hBW := ((hB1.setCell (p := ⟨w.heap.size + 2, 0, none⟩) (by simp) (.slice none 0 0)).setCell (p := ⟨w.heap.size + 2, 1, none⟩) (by simp) (.slice none 0 0)).setCell (p := ⟨w.heap.size + 2, 2, none⟩) (by simp) (.slice none 0 0)
    refine bodyPost_ret (v := .tuple #[.agg #[.slice none 0 0, .slice none 0 0, .slice none 0 0], .int .i64 1]) (by simp [results, Tryz.results189, go_sem, r0, r1, r2]) rfl ⟨_, _, _, by rw [HE.out], ?_, ?_, hBW⟩
    · exact rda_nil _ _
    · rw [HD.out]; exact SlA.nil
  · have HE : Hid (chkI t d = 0) := by unfold Hid chkI; rw [hc]; rfl
    have HD : Hid (disC t d = ctxBy (ctxOf t.dots) (ctxOf [d]) 0) := by unfold Hid disC; rw [hc]; rfl
    have hdr := chkT_right hc
    have htr := chkT_tree hc
    have HAA := hid (apart_ctxOf (right_dots t 5 htr))
    have HAB := hid (apart_ctxOf (right_one hdr))
    have HDR := hid (right_one hdr)
    have HDO := hid hd
    rw [HE.out]
    clear hc
    go_wp2_with fail
    refine (tdots_any t _ _ w1 (HC.out _ hB1) (by omega)).mono ?_
    rintro e w2 ⟨v1, n1, rfl, hn1, ho1, hb2⟩
    rw [htr] at ho1 hn1
    obtain rfl : n1 = 0 := hn1
    rw [if_pos rfl] at ho1
    obtain ⟨A1, m1, rfl⟩ := ho1.shape
    have hs2 := hb2.size
    have hB2 : Below w.heap.size w w2 := hB1.trans (hb2.mono (by omega))
    have HO1 := hid ho1
    have e0 : w2.cell? ⟨w.heap.size + 1, 0, none⟩ = some (.int .i64 d.dc) := (hb2.cell (p := ⟨w.heap.size + 1, 0, none⟩) (by show w.heap.size + 1 < _; omega)).trans d0
    have e1 : w2.cell? ⟨w.heap.size + 1, 1, none⟩ = some (.int .i64 d.n) := (hb2.cell (p := ⟨w.heap.size + 1, 1, none⟩) (by show w.heap.size + 1 < _; omega)).trans d1
    clear ho1 hdr htr k0 k1 k2 z0 z1 z2 c0 c1 d0 d1
    go_wp2_with fail
    refine (cof_any [d] _ _ (SlP.oneB (E := DtE) (x := d) (cs := [.int .i64 d.dc, .int .i64 d.n]) ⟨rfl, HDO.out⟩ rfl _ rfl (by simp)) HDR.out (by simp)).mono ?_
    rintro e w3 ⟨v2, rfl, ho2, hb3⟩
    obtain ⟨A2, m2, rfl⟩ := ho2.shape
    have hs3 := hb3.size
    simp only [World.size_alloc] at hs3
    have hb3' : Below w2.heap.size w2 w3 := ((Below.refl _ w2).alloc (Nat.le_refl _) _).trans (hb3.mono (by simp))
    have H1 := hid ((HO1.out.grow hb3').sl (by unfold Big; omega))
    have H2 := hid (ho2.sl (by unfold Big; omega))
    clear ho2 hb3 e0 e1
    go_wp2_with fail
    refine (cunion_any (ctxOf t.dots) (ctxOf [d]) _ _ w3 H1.out H2.out HAA.out HAB.out (by omega) (by omega)).mono ?_
    rintro e w4 ⟨v3, rfl, ho3, hb4⟩
    obtain ⟨A5, c5, rfl⟩ := ho3.shape
    have hs4 := hb4.size
    have hB4 : Below w.heap.size w w4 := (hB2.trans (hb3'.mono (by omega))).trans (hb4.mono (by omega))
    have HG2 := hid ((hb4.block (w.heap.size + 2) (by omega)).trans ((hb3'.block (w.heap.size + 2) (by omega)).trans ((hb2.block (w.heap.size + 2) (by omega)).trans HG.out)))
    have k0 : w4.cell? ⟨w.heap.size + 2, 0, none⟩ = some (.slice none 0 0) := cell_cells (i := 0) HG2.out
    have k1 : w4.cell? ⟨w.heap.size + 2, 1, none⟩ = some (.slice none 0 0) := cell_cells (i := 1) HG2.out
    have k2 : w4.cell? ⟨w.heap.size + 2, 2, none⟩ = some (.slice none 0 0) := cell_cells (i := 2) HG2.out
    have z0 := cells_frz (i := 0) HG2.out
    have z1 := cells_frz (i := 1) HG2.out
    have z2 := cells_frz (i := 2) HG2.out
    have HO3 := hid ho3
    have hsc := ctxBy_len (ctxOf t.dots) (ctxOf [d]) 0
    clear ho3
    go_wp2_with fail
    obtain ⟨r0, r1, r2, hK, hS⟩ := box3 HG2.out (.slice none 0 0) (.slice none 0 0) (.slice A5 (ctxBy (ctxOf t.dots) (ctxOf [d]) 0).length c5)
    have hBW := ((hB4.setCell (p := ⟨w.heap.size + 2, 0, none⟩) (by simp) (.slice none 0 0)).setCell (p := ⟨w.heap.size + 2, 1, none⟩) (by simp) (.slice none 0 0)).setCell (p := ⟨w.heap.size + 2, 2, none⟩) (by simp) (.slice A5 (ctxBy (ctxOf t.dots) (ctxOf [d]) 0).length c5)
    refine bodyPost_ret (v := .tuple #[.agg #[.slice none 0 0, .slice none 0 0, .slice A5 (ctxBy (ctxOf t.dots) (ctxOf [d]) 0).length c5], .int .i64 0]) (by simp [results, Tryz.results189, go_sem, r0, r1, r2]) rfl ⟨_, _, _, by rw [HE.out], rda_nil _ _, ?_, hBW⟩
    rw [HD.out]
    refine (HO3.out.sla (by unfold Big; omega)).up (fun b hb => hK b (by have := hb.1; omega)) (fun b hb => ⟨by have := hb.1; omega, by rw [hS]; exact hb.2.1⟩) (fun _ _ _ h => h)
end Go.Proofs.YtlapdmgjfdelnaaGreat

namespace Go.Proofs.YtlapdmgjfdelnaaGreat
open Go.RowKit
set_option maxRecDepth 100000

theorem getK_right {t : Tr} (h : t.right 5 = true) : ∀ p : List ByteArray, (getK t p).right 5 = true := fun p => by
  unfold getK
  induction p generalizing t with
  | nil => exact h
  | cons k p ih => exact ih (kid_rightT h k)
theorem getK_dots {t : Tr} (h : t.right 5 = true) {x : Dt} : ∀ p : List ByteArray, x ∈ (getK t p).dots → x ∈ t.dots := fun p => by
  unfold getK
  induction p generalizing t with
  | nil => exact id
  | cons k p ih => exact fun hx => kid_dots (right_ord _ _ h) (ih (kid_rightT h k) hx)
theorem getK_app (t : Tr) (p q : List ByteArray) : getK t (p ++ q) = getK (getK t p) q := by unfold getK; rw [List.foldl_append]
theorem getK_szle (t : Tr) : ∀ p : List ByteArray, (getK t p).sz ≤ t.sz := fun p => by
  unfold getK
  induction p generalizing t with
  | nil => exact Nat.le_refl _
  | cons k p ih => exact Nat.le_trans (ih (kidT t k)) (kidT_sz t k)
theorem tgetT_eq {t : Tr} (h : t.right 5 = true) (p : List ByteArray) : tgetT t p = getK t p := by unfold tgetT; rw [h]; rfl
theorem chk_mk' {t : Tr} {d : Dt} (h : t.right 5 = true) (hd : d.right = true) (hn : d ∉ t.dots) : chkT t d = true := by
  unfold chkT
  have h1 : hasC (ctxOf t.dots) d = false := by
    cases h2 : hasC (ctxOf t.dots) d
    · rfl
    · exact absurd ((hasC_dots h).1 h2) hn
  rw [h, hd, h1]; rfl
theorem chk_sub {t : Tr} {d : Dt} (h : chkT t d = true) (p : List ByteArray) : chkT (getK t p) d = true := by
  obtain ⟨g1, g2, g3⟩ := chkT_dots h
  exact chk_mk' (getK_right g1 p) g2 fun hx => g3 (getK_dots g1 p hx)

theorem pathT_mem {e : En} : ∀ {q : List ByteArray} {x : Lf}, x ∈ (pathT q e).lvs [] ↔ x = (q, e)
  | [], x => by simp [pathT, Tr.lvs, Tr.lvsL]
  | k :: q, x => by
    rw [pathT, mem_lvs]
    constructor
    · rintro (⟨_, h⟩ | ⟨k', t, qs, hm, h1, h2⟩)
      · cases h
      · simp at hm
        obtain ⟨rfl, rfl⟩ := hm
        have h3 := pathT_mem.1 h2
        obtain ⟨p, y⟩ := x
        simp only [Prod.mk.injEq] at h3
        simp only at h1
        rw [h1, h3.1, h3.2]
    · rintro rfl
      exact .inr ⟨k, pathT q e, q, by simp, rfl, pathT_mem.2 rfl⟩
theorem pathT_ne {e : En} : ∀ q : List ByteArray, (pathT q e).empty = false
  | [] => rfl
  | _ :: _ => rfl
theorem pathT_ord {e : En} : ∀ {q : List ByteArray}, (∀ k ∈ q, keyB k = true) → (pathT q e).Ord
  | [], _ => Ord.mk' (List.pairwise_singleton _ _) .nil fun _ _ h => by cases h
  | k :: q, h => Ord.mk' .nil (List.pairwise_singleton _ _) fun k' t hm => by
    simp at hm
    obtain ⟨rfl, rfl⟩ := hm
    exact ⟨keyB_ne (h _ (by simp)), pathT_ne q, pathT_ord fun x hx => h x (by simp [hx])⟩
theorem pathT_dep {e : En} : ∀ q : List ByteArray, (pathT q e).dep = q.length + 1
  | [] => by simp [pathT, Tr.dep, Tr.depL]
  | k :: q => by rw [pathT, Tr.dep, Tr.depL, Tr.depL, pathT_dep q]; simp
theorem pathT_sz {e : En} : ∀ q : List ByteArray, (pathT q e).sz = q.length + 1
  | [] => by simp [pathT, Tr.sz, Tr.szL]
  | k :: q => by rw [pathT, Tr.sz, Tr.szL, Tr.szL, pathT_sz q]; simp; omega
theorem pathT_ok {e : En} {q : List ByteArray} {c : List Sp} (hq : ∀ k ∈ q, keyB k = true) (hl : q.length ≤ 4) (he : e.right = true) (hc : apartB c = true) (hh : hasC c e.dot = true) : CaOk (pathT q e) c :=
  ⟨pathT_ord hq, fun x hx => by rw [pathT_mem.1 hx]; exact ⟨by simp only; omega, hq, he⟩, hc, fun x hx => by rw [pathT_mem.1 hx]; exact hh⟩
theorem pathT_st {e : En} {q : List ByteArray} (hq : ∀ k ∈ q, keyB k = true) (p : List ByteArray) (d : Dt) : stE (pathT q e) p d = if p = q ∧ d = e.dot then some e else none := by
  split
  · rename_i h
    obtain ⟨rfl, rfl⟩ := h
    exact (stE_some (pathT_ord hq)).2 ⟨pathT_mem.2 rfl, rfl⟩
  · rename_i h
    refine (stE_none (pathT_ord hq)).2 fun y hy hd => h ?_
    have := pathT_mem.1 hy
    cases this
    exact ⟨rfl, hd.symm⟩

/-- What op.leaf tells: a tree, a context, an error. -/
def leafX (u : Tr) (o : Opr) (d : Dt) : Tr × List Sp × Int :=
  if o.act = 1 then (enT u d, disC u d, chkI u d) else if o.act = 2 then (.mk [] [], disC u d, chkI u d) else if o.act = 3 then (addT u o.s d, addC u o.s d, addE u o.s d)
  else if o.act = 4 then (.mk [] [], delC u o.s d, sckI u o.s d) else if o.act = 5 then (incT u o.n d, incC u o.n d, incE u o.n d) else if o.act = 6 then (wrtT u o.s d, wrtC u o.s d, wrtE u o.s d)
  else (.mk [] [], disC u d, chkI u d)
def updX (t : Tr) (p : List ByteArray) (i : Nat) (x : Tr × List Sp × Int) : Tr × List Sp × Int :=
  (updT (tgetT t (p.take i)) ((p[i]?).getD ByteArray.empty) x.1 x.2.1, updC (tgetT t (p.take i)) ((p[i]?).getD ByteArray.empty) x.1 x.2.1, updE (tgetT t (p.take i)) ((p[i]?).getD ByteArray.empty) x.1 x.2.1)
/-- What the loop of op.Apply makes. -/
def upLoop (t : Tr) (p : List ByteArray) : Nat → Tr × List Sp × Int → Tr × List Sp × Int
  | 0, x => x
  | i + 1, x => if x.2.2 = 0 then upLoop t p i (updX t p i x) else x
theorem upLoop_err {t : Tr} {p : List ByteArray} {x : Tr × List Sp × Int} (h : x.2.2 ≠ 0) : ∀ i, upLoop t p i x = x
  | 0 => rfl
  | i + 1 => by rw [upLoop, if_neg h]
theorem upLoop_put {t : Tr} {p tl : List ByteArray} {e : En} {c : List Sp} (hr : t.right 5 = true) (hp : ∀ k ∈ p, keyB k = true) (ht : ∀ k ∈ tl, keyB k = true) (hl : p.length + tl.length ≤ 4) (he : e.right = true) (hc : apartB c = true) (hh : hasC c e.dot = true) :
    ∀ i, i ≤ p.length → (if (List.range i).any (fullAt t p) then (upLoop t p i (pathT (p.drop i ++ tl) e, c, 0)).2.2 = 4 else upLoop t p i (pathT (p.drop i ++ tl) e, c, 0) = (pathT (p ++ tl) e, c, 0))
  | 0, _ => by simp [upLoop]
  | i + 1, hi => by
    have hlt : i < p.length := by omega
    have hx := List.getElem?_eq_getElem hlt
    have hmem := List.mem_of_getElem? hx
    have hq : ∀ k ∈ p.drop (i + 1) ++ tl, keyB k = true := fun k hk => by
      rcases List.mem_append.1 hk with hk | hk
      · exact hp k (List.mem_of_mem_drop hk)
      · exact ht k hk
    have hql : (p.drop (i + 1) ++ tl).length ≤ 3 := by rw [List.length_append, List.length_drop]; omega
    have hok := pathT_ok (c := c) hq (by omega) he hc hh
    have hDr : (pathT (p.drop (i + 1) ++ tl) e).right 5 = true := (right_iff hok.ord).2 hok.leaf
    have hkey := hp _ hmem
    have hem : empB (pathT (p.drop (i + 1) ++ tl) e).es.length (pathT (p.drop (i + 1) ++ tl) e).ks.length = false := by rw [empB_empty, pathT_ne]
    have hwE : wrapE (pathT (p.drop (i + 1) ++ tl) e) p[i] = 0 := by
      unfold wrapE
      rw [hDr, hkey, hem, pathT_dep]
      have : ¬ 5 < (p.drop (i + 1) ++ tl).length + 1 + 1 := by omega
      simp only [Bool.not_true, Bool.or_self, Bool.false_eq_true, if_false, Bool.not_false, Bool.true_and, decide_eq_true_eq, this]
    have hwT : wrapT (pathT (p.drop (i + 1) ++ tl) e) p[i] = pathT (p.drop i ++ tl) e := by
      unfold wrapT
      rw [if_pos hwE, hem, if_neg (by simp), List.drop_eq_getElem_cons hlt, List.cons_append, pathT]
    have hUE : updE (tgetT t (p.take i)) p[i] (pathT (p.drop (i + 1) ++ tl) e) c = if fullAt t p i then 4 else 0 := by
      unfold updE fullAt
      rw [tgetT_eq hr, getK_right hr, caR_iff.2 hok, hkey, hem, hwE, hx]
      simp only [Bool.not_true, Bool.or_self, Bool.false_eq_true, if_false, Bool.not_false, Bool.true_and, Option.getD_some]
      rfl
    rw [List.range_succ, List.any_append]
    simp only [List.any_cons, List.any_nil, Bool.or_false]
    rw [upLoop, if_pos rfl]
    cases hf : fullAt t p i
    · have hUE0 : updE (tgetT t (p.take i)) p[i] (pathT (p.drop (i + 1) ++ tl) e) c = 0 := by rw [hUE, hf]; rfl
      have hX : updX t p i (pathT (p.drop (i + 1) ++ tl) e, c, 0) = (pathT (p.drop i ++ tl) e, c, 0) := by
        unfold updX updT updC
        rw [hx]
        simp only [Option.getD_some]
        rw [hUE0, if_pos rfl, if_pos rfl, hwT]
      rw [hX, Bool.or_false]
      exact upLoop_put hr hp ht hl he hc hh i (by omega)
    · rw [Bool.or_true, if_pos rfl]
      have hX : (updX t p i (pathT (p.drop (i + 1) ++ tl) e, c, 0)).2.2 = 4 := by
        unfold updX
        rw [hx]
        simp only [Option.getD_some]
        rw [hUE, hf, if_pos rfl]
      rw [upLoop_err (by rw [hX]; decide), hX]
theorem upLoop_gone {t : Tr} {p : List ByteArray} {c : List Sp} (hr : t.right 5 = true) (hp : ∀ k ∈ p, keyB k = true) (hc : apartB c = true) : ∀ i, i ≤ p.length → upLoop t p i (.mk [] [], c, 0) = (.mk [] [], c, 0)
  | 0, _ => rfl
  | i + 1, hi => by
    have hlt : i < p.length := by omega
    have hx := List.getElem?_eq_getElem hlt
    have hkey := hp _ (List.mem_of_getElem? hx)
    have hok : CaOk (.mk [] []) c := nil_ok hc
    have hDr : (Tr.mk [] []).right 5 = true := (right_iff hok.ord).2 hok.leaf
    have hem : empB (Tr.mk [] []).es.length (Tr.mk [] []).ks.length = true := rfl
    have hwE : wrapE (.mk [] []) p[i] = 0 := by unfold wrapE; rw [hDr, hkey, hem]; rfl
    have hwT : wrapT (.mk [] []) p[i] = .mk [] [] := by unfold wrapT; rw [if_pos hwE, hem, if_pos rfl]
    have hUE : updE (tgetT t (p.take i)) p[i] (.mk [] []) c = 0 := by
      unfold updE
      rw [tgetT_eq hr, getK_right hr, caR_iff.2 hok, hkey, hem, hwE]; rfl
    have hX : updX t p i (.mk [] [], c, 0) = (.mk [] [], c, 0) := by
      unfold updX updT updC
      rw [hx]
      simp only [Option.getD_some]
      rw [hUE, if_pos rfl, if_pos rfl, hwT]
    rw [upLoop, if_pos rfl, hX]
    exact upLoop_gone hr hp hc i (by omega)
end Go.Proofs.YtlapdmgjfdelnaaGreat

namespace Go.Proofs.YtlapdmgjfdelnaaGreat
open Go.RowKit
set_option maxRecDepth 100000

theorem ctxOf_has {l : List Dt} (hr : ∀ x ∈ l, x.right = true) (x : Dt) : hasC (ctxOf l) x = decide (x ∈ l) := by
  rw [Bool.eq_iff_iff, decide_eq_true_eq]
  constructor
  · intro h; rw [hasC_ctxOf hr (hasC_right h)] at h; simpa using h
  · intro h; rw [hasC_ctxOf hr (hr x h)]; simpa using h
theorem cons_right {u : Tr} {d : Dt} (hu : u.right 5 = true) (hd : d.right = true) : ∀ x ∈ d :: u.dots, x.right = true := fun x hx => by
  rcases List.mem_cons.1 hx with rfl | hx
  · exact hd
  · exact dots_right hu x hx
theorem seenC_eq {u : Tr} {d : Dt} (hu : u.right 5 = true) (hd : d.right = true) : seenC u d = ctxOf (d :: u.dots) :=
  ctx_ext (seen_apart hu hd) (apart_ctxOf (cons_right hu hd)) fun x => by
    rw [seen_hasB hu hd, ctxOf_has (cons_right hu hd)]
    by_cases h1 : x ∈ u.dots <;> by_cases h2 : x = d <;> simp [h1, h2]
theorem ownD_dots {t : Tr} {x : Dt} (h : x ∈ ownD t) : x ∈ t.dots := by
  unfold ownD at h
  obtain ⟨e, he, rfl⟩ := List.mem_map.1 h
  exact (mem_dots t _).2 ⟨[], e, mem_es.2 he, rfl⟩
theorem key_of_kind {k : ByteArray} (h : badKey k = false) : keyB k = true := by
  unfold badKey at h
  rw [Bool.or_eq_false_iff] at h
  obtain ⟨h1, h2⟩ := h
  have h1 : k.size ≤ 30 := by simpa using h1
  have h3 : kindB k ≠ 0 := by simpa using h2
  have h4 : 1 ≤ k.size := by
    rcases Nat.eq_zero_or_pos k.size with h0 | h0
    · exfalso
      have : k.data.toList = [] := by
        have h5 : k.data = #[] := Array.eq_empty_of_size_eq_zero h0
        rw [h5]
      exact h3 (by unfold kindB; rw [this])
    · exact h0
  unfold keyB
  simp; omega
theorem path_ok {p : List ByteArray} (h : pathI p = 0) : 1 ≤ p.length ∧ p.length ≤ 3 ∧ (∀ k ∈ p, badKey k = false) ∧ p.dropLast.any noMap = false := by
  unfold pathI at h
  split at h
  · cases h
  · rename_i h1
    split at h
    · cases h
    · rename_i h2
      have h3 : p.any badKey = false := by
        cases h4 : p.any badKey
        · rfl
        · exact absurd (.inr (.inr h4)) h1
      exact ⟨by omega, by omega, fun k hk => by rw [List.any_eq_false] at h3; simpa using h3 k hk, by simpa using h2⟩
theorem last_at {p : List ByteArray} (h : 1 ≤ p.length) : p[p.length - 1]? = some (lastK p) := by
  unfold lastK
  rw [List.getElem?_eq_getElem (by omega)]; rfl
structure OpOk (o : Opr) : Prop where
  path : pathI o.path = 0
  act : actB o.act (kindB (lastK o.path)) = true
  txt : opTxt o = true
  num : opNum o = true
theorem op_ok {o : Opr} (h : opI o = 0) : OpOk o := by
  unfold opI at h
  split at h
  · rename_i h1; exact absurd h h1
  · rename_i h1
    split at h
    · cases h
    · rename_i h2
      split at h
      · rename_i h3
        rw [Bool.and_eq_true] at h3
        exact ⟨by simpa using h1, by simpa using h2, h3.1, h3.2⟩
      · cases h
theorem act_cases {o : Opr} (h : OpOk o) : o.act = 1 ∨ o.act = 2 ∨ o.act = 3 ∨ o.act = 4 ∨ o.act = 5 ∨ o.act = 6 ∨ o.act = 7 := by
  have := h.act
  unfold actB at this
  split at this
  · omega
  · split at this
    · omega
    · split at this
      · omega
      · split at this
        · omega
        · have := of_decide_eq_true this; omega
theorem any_congr' {α : Type} {f g : α → Bool} : ∀ {l : List α}, (∀ x ∈ l, f x = g x) → l.any f = l.any g
  | [], _ => rfl
  | x :: l, h => by rw [List.any_cons, List.any_cons, h x (by simp), any_congr' fun y hy => h y (by simp [hy])]
theorem fullAt_app (t : Tr) (p q : List ByteArray) {j : Nat} (h : j < p.length) : fullAt t (p ++ q) j = fullAt t p j := by
  unfold fullAt
  rw [List.take_append_of_le_length (by omega), List.getElem?_append_left h]
theorem fullP_one (t : Tr) (p : List ByteArray) (s : ByteArray) : fullP t (p ++ [s]) = ((List.range p.length).any (fullAt t p) || (decide (24 ≤ (getK t p).ks.length) && !hasK (getK t p) s)) := by
  unfold fullP
  rw [List.length_append, List.length_singleton, List.range_succ, List.any_append]
  simp only [List.any_cons, List.any_nil, Bool.or_false]
  congr 1
  · exact any_congr' fun j hj => fullAt_app t p [s] (List.mem_range.1 hj)
  · unfold fullAt
    rw [List.take_append_of_le_length (Nat.le_refl _), List.take_of_length_le (Nat.le_refl _), List.getElem?_append_right (Nat.le_refl _)]
    simp
theorem ent_right {o : Opr} {d : Dt} (h : OpOk o) (hd : d.right = true) : (entE o d).right = true := by
  have hdot : (entE o d).dot = d := rfl
  have h1 := h.num
  have h2 := h.txt
  have hc := act_cases h
  unfold En.right
  rw [hdot, hd]
  unfold entE
  unfold opNum at h1
  unfold opTxt at h2
  have hs : (if o.act = 6 then o.s else ByteArray.empty).size ≤ 30 := by
    split
    · rename_i h6
      rw [if_neg (by omega), if_pos h6] at h2
      simpa using h2
    · decide
  have hn : -1099511627776 ≤ o.n ∧ o.n ≤ 1099511627776 := by
    split at h1
    · simpa using h1
    · have := of_decide_eq_true h1; omega
  simp; omega
theorem sees_right {t : Tr} {o : Opr} (hr : t.right 5 = true) : ∀ x ∈ seesD t o, x ∈ t.dots := fun x hx => by
  unfold seesD at hx
  split at hx
  · exact getK_dots hr _ hx
  · split at hx
    · cases hx
    · split at hx
      · exact getK_dots hr _ (ownD_dots hx)
      · exact getK_dots hr _ hx
theorem appC_ok {t : Tr} {o : Opr} {d : Dt} (hr : t.right 5 = true) (hd : d.right = true) : ∀ x ∈ d :: seesD t o, x.right = true := fun x hx => by
  rcases List.mem_cons.1 hx with rfl | hx
  · exact hd
  · exact dots_right hr x (sees_right hr x hx)
theorem end_keys {o : Opr} (h : OpOk o) : (∀ k ∈ o.path, keyB k = true) ∧ (∀ k ∈ endP o, keyB k = true) ∧ (endP o).length ≤ 4 ∧ o.path.length + (if o.act = 3 then [o.s] else []).length ≤ 4 := by
  obtain ⟨h1, h2, h3, _⟩ := path_ok h.path
  have hk : ∀ k ∈ o.path, keyB k = true := fun k hk => key_of_kind (h3 k hk)
  have h4 := h.txt
  unfold opTxt at h4
  refine ⟨hk, fun k hm => ?_, ?_, ?_⟩
  · unfold endP at hm
    rcases List.mem_append.1 hm with hm | hm
    · exact hk k hm
    · split at hm
      · rename_i h5
        rw [if_pos (.inl h5)] at h4
        simp at hm; subst hm; exact h4
      · cases hm
  · unfold endP; rw [List.length_append]; split <;> simp <;> omega
  · split <;> simp <;> omega
theorem leafX_1 {u : Tr} {o : Opr} {d : Dt} (ha : o.act = 1) : leafX u o d = (enT u d, disC u d, chkI u d) := by simp [leafX, ha]
theorem leafX_2 {u : Tr} {o : Opr} {d : Dt} (ha : o.act = 2) : leafX u o d = (.mk [] [], disC u d, chkI u d) := by simp [leafX, ha]
theorem leafX_3 {u : Tr} {o : Opr} {d : Dt} (ha : o.act = 3) : leafX u o d = (addT u o.s d, addC u o.s d, addE u o.s d) := by simp [leafX, ha]
theorem leafX_4 {u : Tr} {o : Opr} {d : Dt} (ha : o.act = 4) : leafX u o d = (.mk [] [], delC u o.s d, sckI u o.s d) := by simp [leafX, ha]
theorem leafX_5 {u : Tr} {o : Opr} {d : Dt} (ha : o.act = 5) : leafX u o d = (incT u o.n d, incC u o.n d, incE u o.n d) := by simp [leafX, ha]
theorem leafX_6 {u : Tr} {o : Opr} {d : Dt} (ha : o.act = 6) : leafX u o d = (wrtT u o.s d, wrtC u o.s d, wrtE u o.s d) := by simp [leafX, ha]
theorem leafX_7 {u : Tr} {o : Opr} {d : Dt} (ha : o.act = 7) : leafX u o d = (.mk [] [], disC u d, chkI u d) := by simp [leafX, ha]
theorem sees_sub {t : Tr} {o : Opr} (ha : o.act = 1 ∨ o.act = 2 ∨ o.act = 7) : seesD t o = (getK t o.path).dots := by
  unfold seesD; rw [if_neg (by omega), if_neg (by omega), if_neg (by omega)]
theorem sees_el {t : Tr} {o : Opr} (ha : o.act = 3 ∨ o.act = 4) : seesD t o = (getK t (o.path ++ [o.s])).dots := by unfold seesD; rw [if_pos ha]
theorem sees_inc {t : Tr} {o : Opr} (ha : o.act = 5) : seesD t o = [] := by unfold seesD; rw [if_neg (by omega), if_pos ha]
theorem sees_wrt {t : Tr} {o : Opr} (ha : o.act = 6) : seesD t o = ownD (getK t o.path) := by unfold seesD; rw [if_neg (by omega), if_neg (by omega), if_pos ha]
set_option maxHeartbeats 2000000 in
theorem leaf_law {t : Tr} {o : Opr} {d : Dt} (h : OpOk o) (hc : chkT t d = true) :
    if fullB t o then (upLoop t o.path o.path.length (leafX (getK t o.path) o d)).2.2 = 4 else upLoop t o.path o.path.length (leafX (getK t o.path) o d) = (if entryB o.act then pathT (endP o) (entE o d) else .mk [] [], ctxOf (d :: seesD t o), 0) := by
  obtain ⟨g1, g2, g3⟩ := chkT_dots hc
  have hcu := chk_sub hc o.path
  have hur := getK_right g1 o.path
  obtain ⟨k1, k2, k3, k4⟩ := end_keys h
  have he := ent_right (d := d) h g2
  have hdot : (entE o d).dot = d := rfl
  have hap := apart_ctxOf (appC_ok (o := o) g1 g2)
  have hh : hasC (ctxOf (d :: seesD t o)) d = true := by rw [ctxOf_has (appC_ok g1 g2)]; simp
  have hlen : (List.range o.path.length).any (fullAt t (o.path ++ [])) = (List.range o.path.length).any (fullAt t o.path) := by rw [List.append_nil]
  have hdrop : o.path.drop o.path.length = [] := List.drop_length
  have hn := h.num
  have htx := h.txt
  unfold opNum at hn
  unfold opTxt at htx
  rcases act_cases h with ha | ha | ha | ha | ha | ha | ha
  · -- enable
    have hE : entE o d = ⟨d.dc, d.n, ByteArray.empty, 0⟩ := by unfold entE; rw [if_neg (by omega)]; rw [if_neg (by omega)] at hn; rw [of_decide_eq_true hn]
    have hX : leafX (getK t o.path) o d = (pathT (o.path.drop o.path.length ++ []) (entE o d), ctxOf (d :: seesD t o), 0) := by
      rw [leafX_1 ha, sees_sub (.inl ha), hE, hdrop]
      unfold enT disC chkI
      rw [hcu, if_pos rfl, if_pos rfl, if_pos rfl, seenC_eq hur g2]; rfl
    have hf : fullB t o = (List.range o.path.length).any (fullAt t o.path) := by unfold fullB entryB endP fullP; rw [if_neg (by omega), List.append_nil]; simp [ha]
    have hend : endP o = o.path ++ [] := by unfold endP; rw [if_neg (by omega)]
    rw [hX, hf, show entryB o.act = true by unfold entryB; simp [ha], if_pos rfl, hend]
    exact upLoop_put g1 k1 (by simp) (by simp; have := (path_ok h.path).2.1; omega) he hap (by rw [hdot]; exact hh) _ (Nat.le_refl _)
  · -- disable
    have hX : leafX (getK t o.path) o d = (.mk [] [], ctxOf (d :: seesD t o), 0) := by
      rw [leafX_2 ha, sees_sub (.inr (.inl ha))]
      unfold disC chkI
      rw [hcu, if_pos rfl, if_pos rfl, seenC_eq hur g2]
    have hf : fullB t o = false := by unfold fullB entryB; simp [ha]
    rw [hX, hf, show entryB o.act = false by unfold entryB; simp [ha], upLoop_gone g1 k1 hap _ (Nat.le_refl _)]; simp
  · -- add
    rw [if_pos (.inl ha)] at htx
    have hE : entE o d = ⟨d.dc, d.n, ByteArray.empty, 0⟩ := by unfold entE; rw [if_neg (by omega)]; rw [if_neg (by omega)] at hn; rw [of_decide_eq_true hn]
    have hsk : sckB (getK t o.path) o.s d = true := by unfold sckB; rw [hcu, htx]; rfl
    have hend : endP o = o.path ++ [o.s] := by unfold endP; rw [if_pos ha]
    have hf : fullB t o = ((List.range o.path.length).any (fullAt t o.path) || (decide (24 ≤ (getK t o.path).ks.length) && !hasK (getK t o.path) o.s)) := by
      unfold fullB entryB; rw [hend, fullP_one]; simp [ha]
    have hgo : leafX (getK t o.path) o d = (addT (getK t o.path) o.s d, addC (getK t o.path) o.s d, addE (getK t o.path) o.s d) := leafX_3 ha
    have haE : addE (getK t o.path) o.s d = if (decide (24 ≤ (getK t o.path).ks.length) && !hasK (getK t o.path) o.s) = true then 4 else 0 := by unfold addE; rw [hsk]; rfl
    rw [hgo, hf]
    cases hfl : (decide (24 ≤ (getK t o.path).ks.length) && !hasK (getK t o.path) o.s)
    · rw [hfl, if_neg (by simp)] at haE
      have hX : (addT (getK t o.path) o.s d, addC (getK t o.path) o.s d, addE (getK t o.path) o.s d) = (pathT (o.path.drop o.path.length ++ [o.s]) (entE o d), ctxOf (d :: seesD t o), 0) := by
        have hks : kidT (getK t o.path) o.s = getK t (o.path ++ [o.s]) := by rw [getK_app]; rfl
        rw [sees_el (.inl ha), hE, hdrop]
        unfold addT addC
        rw [haE, if_pos rfl, if_pos rfl, hks, seenC_eq (getK_right g1 _) g2]; rfl
      rw [hX, Bool.or_false, show entryB o.act = true by unfold entryB; simp [ha], if_pos rfl, hend]
      exact upLoop_put g1 k1 (fun k hk => by simp at hk; subst hk; exact htx) (by simp; have := (path_ok h.path).2.1; omega) he hap (by rw [hdot]; exact hh) _ (Nat.le_refl _)
    · rw [hfl, if_pos rfl] at haE
      rw [Bool.or_true, if_pos rfl, upLoop_err (by rw [haE]; exact (by decide : (4 : Int) ≠ 0)), haE]
  · -- del
    rw [if_pos (.inr ha)] at htx
    have hsk : sckB (getK t o.path) o.s d = true := by unfold sckB; rw [hcu, htx]; rfl
    have hks : kidT (getK t o.path) o.s = getK t (o.path ++ [o.s]) := by rw [getK_app]; rfl
    have hX : leafX (getK t o.path) o d = (.mk [] [], ctxOf (d :: seesD t o), 0) := by
      rw [leafX_4 ha, sees_el (.inr ha)]
      unfold delC sckI
      rw [hsk, if_pos rfl, if_pos rfl, hks, seenC_eq (getK_right g1 _) g2]
    have hf : fullB t o = false := by unfold fullB entryB; simp [ha]
    rw [hX, hf, show entryB o.act = false by unfold entryB; simp [ha], upLoop_gone g1 k1 hap _ (Nat.le_refl _)]; simp
  · -- inc
    rw [if_pos ha] at hn
    have hn := of_decide_eq_true hn
    have hE : entE o d = ⟨d.dc, d.n, ByteArray.empty, o.n⟩ := by unfold entE; rw [if_neg (by omega)]
    have hend : endP o = o.path ++ [] := by unfold endP; rw [if_neg (by omega)]
    have hf : fullB t o = ((List.range o.path.length).any (fullAt t o.path) || decide (24 ≤ (getK t o.path).es.length)) := by
      unfold fullB entryB fullP; rw [hend, List.append_nil]; simp [ha]
    have hgo : leafX (getK t o.path) o d = (incT (getK t o.path) o.n d, incC (getK t o.path) o.n d, incE (getK t o.path) o.n d) := leafX_5 ha
    have haE : incE (getK t o.path) o.n d = if 24 ≤ (getK t o.path).es.length then 4 else 0 := by
      unfold incE
      rw [hcu, if_neg (by simp; omega)]
    rw [hgo, hf]
    cases hfl : decide (24 ≤ (getK t o.path).es.length)
    · rw [if_neg (of_decide_eq_false hfl)] at haE
      have hX : (incT (getK t o.path) o.n d, incC (getK t o.path) o.n d, incE (getK t o.path) o.n d) = (pathT (o.path.drop o.path.length ++ []) (entE o d), ctxOf (d :: seesD t o), 0) := by
        rw [sees_inc ha, hE, hdrop]
        unfold incT incC
        rw [haE, if_pos rfl, if_pos rfl]; rfl
      rw [hX, Bool.or_false, show entryB o.act = true by unfold entryB; simp [ha], if_pos rfl, hend]
      exact upLoop_put g1 k1 (by simp) (by simp; have := (path_ok h.path).2.1; omega) he hap (by rw [hdot]; exact hh) _ (Nat.le_refl _)
    · rw [if_pos (of_decide_eq_true hfl)] at haE
      rw [Bool.or_true, if_pos rfl, upLoop_err (by rw [haE]; exact (by decide : (4 : Int) ≠ 0)), haE]
  · -- write
    rw [if_neg (by omega), if_pos ha] at htx
    rw [if_neg (by omega)] at hn
    have hwb : wrtB (getK t o.path) o.s d = true := by unfold wrtB; rw [hcu, htx]; rfl
    have hE : entE o d = ⟨d.dc, d.n, o.s, 0⟩ := by unfold entE; rw [if_pos ha, of_decide_eq_true hn]
    have hX : leafX (getK t o.path) o d = (pathT (o.path.drop o.path.length ++ []) (entE o d), ctxOf (d :: seesD t o), 0) := by
      rw [leafX_6 ha, sees_wrt ha, hE, hdrop]
      unfold wrtT wrtC wrtE
      rw [hwb, if_pos rfl, if_pos rfl, if_pos rfl]; rfl
    have hf : fullB t o = (List.range o.path.length).any (fullAt t o.path) := by unfold fullB entryB endP fullP; rw [if_neg (by omega), List.append_nil]; simp [ha]
    have hend : endP o = o.path ++ [] := by unfold endP; rw [if_neg (by omega)]
    rw [hX, hf, show entryB o.act = true by unfold entryB; simp [ha], if_pos rfl, hend]
    exact upLoop_put g1 k1 (by simp) (by simp; have := (path_ok h.path).2.1; omega) he hap (by rw [hdot]; exact hh) _ (Nat.le_refl _)
  · -- reset
    have hX : leafX (getK t o.path) o d = (.mk [] [], ctxOf (d :: seesD t o), 0) := by
      rw [leafX_7 ha, sees_sub (.inr (.inr ha))]
      unfold disC chkI
      rw [hcu, if_pos rfl, if_pos rfl, seenC_eq hur g2]
    have hf : fullB t o = false := by unfold fullB entryB; simp [ha]
    rw [hX, hf, show entryB o.act = false by unfold entryB; simp [ha], upLoop_gone g1 k1 hap _ (Nat.le_refl _)]; simp
end Go.Proofs.YtlapdmgjfdelnaaGreat

namespace Go.Proofs.YtlapdmgjfdelnaaGreat
open Go.RowKit
set_option maxRecDepth 100000

/-- What is read of a tree that stands at a path of a kind. -/
def viewK (k : Int) (x : Tr) : Vw := ⟨k, if k = 1 then onB x else false, if k = 3 then valT x else 0, if k = 2 then elemsOf x else if k = 4 then valsOf x else if k = 5 then keysOf x else []⟩
def readI (t : Tr) (p : List ByteArray) : Int := if !t.right 5 then 1 else pathI p
def vw0 : Vw := ⟨0, false, 0, []⟩
def readV (t : Tr) (p : List ByteArray) : Vw := if readI t p = 0 then viewK (kindB (lastK p)) (getK t p) else vw0
theorem mem_getP : ∀ (p : List ByteArray) {t : Tr}, t.Ord → ∀ {qs : List ByteArray} {e : En}, ((qs, e) : Lf) ∈ (getK t p).lvs [] ↔ ((p ++ qs, e) : Lf) ∈ t.lvs []
  | [], _, _, _, _ => Iff.rfl
  | k :: p, t, h, qs, e => by
    show ((qs, e) : Lf) ∈ (getK (kidT t k) p).lvs [] ↔ _
    rw [mem_getP p (kidT_ord h k), mem_kidT h]; rfl
theorem getP_ord {t : Tr} (h : t.Ord) : ∀ p : List ByteArray, (getK t p).Ord := fun p => by
  unfold getK
  induction p generalizing t with
  | nil => exact h
  | cons k p ih => exact ih (kidT_ord h k)
theorem getP_dots {t : Tr} (h : t.Ord) {p : List ByteArray} {x : Dt} : x ∈ (getK t p).dots ↔ ∃ q e, ((p ++ q, e) : Lf) ∈ t.lvs [] ∧ e.dot = x := by
  rw [mem_dots]
  exact ⟨fun ⟨q, e, h1, h2⟩ => ⟨q, e, (mem_getP p h).1 h1, h2⟩, fun ⟨q, e, h1, h2⟩ => ⟨q, e, (mem_getP p h).2 h1, h2⟩⟩
theorem own_at {t : Tr} (h : t.Ord) {p : List ByteArray} {x : Dt} : x ∈ ownD (getK t p) ↔ ∃ e, ((p, e) : Lf) ∈ t.lvs [] ∧ e.dot = x := by
  unfold ownD
  rw [List.mem_map]
  constructor
  · rintro ⟨e, h1, h2⟩
    have := (mem_getP p h).1 (mem_es.2 h1)
    rw [List.append_nil] at this
    exact ⟨e, this, h2⟩
  · rintro ⟨e, h1, h2⟩
    exact ⟨e, mem_es.1 ((mem_getP p h).2 (by rw [List.append_nil]; exact h1)), h2⟩
/-- What a change has seen stands below its path. -/
theorem sees_at {t : Tr} (h : t.Ord) {o : Opr} {x : Dt} (hx : x ∈ seesD t o) : ∃ q e, ((o.path ++ q, e) : Lf) ∈ t.lvs [] ∧ e.dot = x := by
  unfold seesD at hx
  split at hx
  · obtain ⟨q, e, h1, h2⟩ := (getP_dots h).1 hx
    exact ⟨o.s :: q, e, by rw [List.append_assoc] at h1; exact h1, h2⟩
  · split at hx
    · cases hx
    · split at hx
      · obtain ⟨e, h1, h2⟩ := (own_at h).1 hx
        exact ⟨[], e, by rw [List.append_nil]; exact h1, h2⟩
      · exact (getP_dots h).1 hx
theorem sees_len (t : Tr) (o : Opr) : (seesD t o).length ≤ t.sz := by
  have h1 := fun p => Nat.le_trans (dots_len (getK t p)) (getK_szle t p)
  unfold seesD
  split
  · exact h1 _
  · split
    · exact Nat.zero_le _
    · split
      · have h2 := es_sz (getK t o.path)
        have h3 := getK_szle t o.path
        unfold ownD
        rw [List.length_map]; omega
      · exact h1 _
theorem app_ok {t : Tr} {o : Opr} {d : Dt} (h : appI t o d = 0) : t.right 5 = true ∧ OpOk o ∧ chkT t d = true ∧ fullB t o = false := by
  unfold appI at h
  split at h
  · cases h
  · rename_i h1
    split at h
    · rename_i h2; exact absurd h h2
    · rename_i h2
      split at h
      · cases h
      · rename_i h3
        split at h
        · cases h
        · rename_i h4
          exact ⟨by simpa using h1, op_ok (by simpa using h2), by simpa using h3, by simpa using h4⟩
/-- What is made of a tree is right. -/
theorem app_right {t : Tr} {o : Opr} {d : Dt} (h : appI t o d = 0) : CaOk (appT t o d) (appC t o d) ∧ (appT t o d).sz ≤ 5 := by
  obtain ⟨h1, h2, h3, _⟩ := app_ok h
  obtain ⟨g1, g2, g3⟩ := chkT_dots h3
  obtain ⟨_, k2, k3, _⟩ := end_keys h2
  have hap := apart_ctxOf (appC_ok (o := o) g1 g2)
  have hC : appC t o d = ctxOf (d :: seesD t o) := by unfold appC; rw [if_pos h]
  rw [hC]
  unfold appT
  cases he : entryB o.act
  · rw [if_neg (by simp)]
    exact ⟨nil_ok hap, by simp [Tr.sz, Tr.szL]⟩
  · rw [if_pos ⟨h, rfl⟩]
    refine ⟨pathT_ok k2 k3 (ent_right h2 g2) hap ?_, by rw [pathT_sz]; omega⟩
    show hasC (ctxOf (d :: seesD t o)) d = true
    rw [ctxOf_has (appC_ok g1 g2)]; simp
theorem app_has {t : Tr} {o : Opr} {d : Dt} (h : appI t o d = 0) (x : Dt) : hasC (appC t o d) x = decide (x = d ∨ x ∈ seesD t o) := by
  obtain ⟨_, h2, h3, _⟩ := app_ok h
  obtain ⟨g1, g2, g3⟩ := chkT_dots h3
  unfold appC
  rw [if_pos h, ctxOf_has (appC_ok g1 g2)]
  simp [List.mem_cons]
theorem app_st {t : Tr} {o : Opr} {d : Dt} (h : appI t o d = 0) (p : List ByteArray) (x : Dt) : stE (appT t o d) p x = if entryB o.act = true ∧ p = endP o ∧ x = d then some (entE o d) else none := by
  obtain ⟨_, h2, h3, _⟩ := app_ok h
  obtain ⟨_, k2, _, _⟩ := end_keys h2
  unfold appT
  cases he : entryB o.act
  · rw [if_neg (by simp), if_neg (by simp), stE_nil]
  · rw [if_pos ⟨h, rfl⟩, pathT_st k2]
    have hd : (entE o d).dot = d := rfl
    rw [hd]
    simp
theorem kind_le (k : ByteArray) : 0 ≤ kindB k ∧ kindB k ≤ 5 := by
  unfold kindB
  split
  · omega
  · repeat' split
    all_goals omega
theorem path_kind {p : List ByteArray} (h : pathI p = 0) : 1 ≤ kindB (lastK p) ∧ kindB (lastK p) ≤ 5 := by
  obtain ⟨h1, _, h3, _⟩ := path_ok h
  have h4 := h3 _ (List.mem_of_getElem? (last_at h1))
  unfold badKey at h4
  rw [Bool.or_eq_false_iff] at h4
  have h5 := of_decide_eq_false h4.2
  have h6 := kind_le (lastK p)
  omega
end Go.Proofs.YtlapdmgjfdelnaaGreat

namespace Go.Proofs.YtlapdmgjfdelnaaGreat
open Go.RowKit
set_option maxRecDepth 100000

/-- Does a path begin with another one? -/
def begB (p w : List ByteArray) : Bool := decide (p.take w.length = w)
/-- Does a change take another one's entry away, if it has seen it? -/
def undoB (x e : Opr) : Bool := begB e.path x.path && (decide (x.act = 7) || (decide (e.path.length = x.path.length) && (if x.act = 1 ∨ x.act = 2 then decide (e.act = 1) else if x.act = 3 ∨ x.act = 4 then decide (e.act = 3) && decide (e.s = x.s) else if x.act = 6 then decide (e.act = 6) else false)))
theorem beg_iff {p w : List ByteArray} : begB p w = true ↔ ∃ q, p = w ++ q := by
  unfold begB
  rw [decide_eq_true_eq]
  constructor
  · intro h
    have h1 := List.take_append_drop w.length p
    rw [h] at h1
    exact ⟨_, h1.symm⟩
  · rintro ⟨q, rfl⟩; simp
theorem kind_mid {p : List ByteArray} (h : pathI p = 0) {j : Nat} {k : ByteArray} (hj : p[j]? = some k) (hl : j + 1 < p.length) : kindB k = 5 := by
  have h1 := (path_ok h).2.2.2
  rw [List.any_eq_false] at h1
  have h2 : p.dropLast[j]? = some k := by rw [List.dropLast_eq_take, List.getElem?_take, if_pos (by omega)]; exact hj
  have h3 := h1 k (List.mem_of_getElem? h2)
  unfold noMap at h3
  simpa using h3
theorem act_kind {o : Opr} (h : OpOk o) : (o.act = 1 ∨ o.act = 2 → kindB (lastK o.path) = 1) ∧ (o.act = 3 ∨ o.act = 4 → kindB (lastK o.path) = 2) ∧ (o.act = 5 → kindB (lastK o.path) = 3) ∧ (o.act = 6 → kindB (lastK o.path) = 4) := by
  have h1 := h.act
  unfold actB at h1
  refine ⟨fun ha => ?_, fun ha => ?_, fun ha => ?_, fun ha => ?_⟩
  · rw [if_pos ha] at h1; exact of_decide_eq_true h1
  · rw [if_neg (by omega), if_pos ha] at h1; exact of_decide_eq_true h1
  · rw [if_neg (by omega), if_neg (by omega), if_pos ha] at h1; exact of_decide_eq_true h1
  · rw [if_neg (by omega), if_neg (by omega), if_neg (by omega), if_pos ha] at h1; exact of_decide_eq_true h1
theorem ent_kind {o : Opr} (h : OpOk o) (he : entryB o.act = true) : (kindB (lastK o.path) = 1 → o.act = 1) ∧ (kindB (lastK o.path) = 2 → o.act = 3) ∧ (kindB (lastK o.path) = 3 → o.act = 5) ∧ (kindB (lastK o.path) = 4 → o.act = 6) ∧ kindB (lastK o.path) ≠ 5 := by
  obtain ⟨k1, k2, k3, k4⟩ := act_kind h
  have he := of_decide_eq_true (show decide (o.act = 1 ∨ o.act = 3 ∨ o.act = 5 ∨ o.act = 6) = true from he)
  rcases he with ha | ha | ha | ha
  · have := k1 (.inl ha); exact ⟨fun _ => ha, fun h => by omega, fun h => by omega, fun h => by omega, by omega⟩
  · have := k2 (.inl ha); exact ⟨fun h => by omega, fun _ => ha, fun h => by omega, fun h => by omega, by omega⟩
  · have := k3 ha; exact ⟨fun h => by omega, fun h => by omega, fun _ => ha, fun h => by omega, by omega⟩
  · have := k4 ha; exact ⟨fun h => by omega, fun h => by omega, fun h => by omega, fun _ => ha, by omega⟩
/-- A right path that an entry's keys begin with is one that the change's path begins with. -/
theorem end_beg {w : List ByteArray} {e : Opr} (hw : pathI w = 0) (he : OpOk e) {q : List ByteArray} (h : endP e = w ++ q) : ∃ r, e.path = w ++ r := by
  have hp := (path_ok he.path).1
  by_cases hl : w.length ≤ e.path.length
  · refine ⟨e.path.drop w.length, ?_⟩
    have h1 : (endP e).take w.length = w := by rw [h]; simp
    unfold endP at h1
    rw [List.take_append_of_le_length hl] at h1
    have h2 := List.take_append_drop w.length e.path
    rw [h1] at h2
    exact h2.symm
  · exfalso
    unfold endP at h
    split at h
    · rename_i ha
      have hlen := congrArg List.length h
      simp only [List.length_append, List.length_singleton] at hlen
      have h3 : w[e.path.length - 1]? = some (lastK e.path) := by
        have h4 : (w ++ q)[e.path.length - 1]? = some (lastK e.path) := by rw [← h, List.getElem?_append_left (by omega)]; exact last_at hp
        rwa [List.getElem?_append_left (by omega)] at h4
      have h5 := kind_mid hw h3 (by omega)
      have h6 := (act_kind he).2.1 (.inl ha)
      omega
    · have hlen := congrArg List.length h
      simp only [List.length_append, List.append_nil] at hlen
      omega
theorem beg_end {w : List ByteArray} {e : Opr} {r : List ByteArray} (h : e.path = w ++ r) : ∃ q, endP e = w ++ q := ⟨r ++ (if e.act = 3 then [e.s] else []), by unfold endP; rw [h, List.append_assoc]⟩
/-- A right path that doesn't lead to a map goes no further. -/
theorem beg_same {w p : List ByteArray} (hw : 1 ≤ w.length) (hp : pathI p = 0) (hk : kindB (lastK w) ≠ 5) {r : List ByteArray} (h : p = w ++ r) : p = w := by
  cases r with
  | nil => rw [h, List.append_nil]
  | cons a r =>
    exfalso
    have h1 : p[w.length - 1]? = some (lastK w) := by rw [h, List.getElem?_append_left (by omega)]; exact last_at hw
    exact hk (kind_mid hp h1 (by rw [h]; simp; omega))
theorem undo_7 {o e : Opr} (ho : OpOk o) (he : OpOk e) (ha : o.act = 7) : (∃ q, endP e = o.path ++ q) ↔ undoB o e = true := by
  have hu : undoB o e = begB e.path o.path := by unfold undoB; simp [ha]
  rw [hu, beg_iff]
  exact ⟨fun ⟨q, h⟩ => end_beg ho.path he h, fun ⟨r, h⟩ => beg_end h⟩
theorem undo_12 {o e : Opr} (ho : OpOk o) (he : OpOk e) (hent : entryB e.act = true) (ha : o.act = 1 ∨ o.act = 2) : (∃ q, endP e = o.path ++ q) ↔ undoB o e = true := by
  have hu : undoB o e = (begB e.path o.path && (decide (e.path.length = o.path.length) && decide (e.act = 1))) := by unfold undoB; rw [if_pos ha, decide_eq_false (show ¬ o.act = 7 by omega), Bool.false_or]
  rw [hu, Bool.and_eq_true, Bool.and_eq_true, beg_iff, decide_eq_true_eq, decide_eq_true_eq]
  have hk := (act_kind ho).1 ha
  constructor
  · rintro ⟨q, h⟩
    obtain ⟨r, h1⟩ := end_beg ho.path he h
    have h2 := beg_same (path_ok ho.path).1 he.path (by omega) h1
    exact ⟨⟨r, h1⟩, by rw [h2], (ent_kind he hent).1 (by rw [h2]; exact hk)⟩
  · rintro ⟨⟨r, h⟩, _⟩; exact beg_end h
theorem undo_34 {o e : Opr} (ho : OpOk o) (he : OpOk e) (ha : o.act = 3 ∨ o.act = 4) : (∃ q, endP e = o.path ++ [o.s] ++ q) ↔ undoB o e = true := by
  have hu : undoB o e = (begB e.path o.path && (decide (e.path.length = o.path.length) && (decide (e.act = 3) && decide (e.s = o.s)))) := by unfold undoB; rw [if_neg (by omega), if_pos ha, decide_eq_false (show ¬ o.act = 7 by omega), Bool.false_or]
  rw [hu, Bool.and_eq_true, Bool.and_eq_true, Bool.and_eq_true, beg_iff, decide_eq_true_eq, decide_eq_true_eq, decide_eq_true_eq]
  have hk := (act_kind ho).2.1 ha
  constructor
  · rintro ⟨q, h⟩
    rw [List.append_assoc] at h
    obtain ⟨r, h1⟩ := end_beg ho.path he h
    have h2 := beg_same (path_ok ho.path).1 he.path (by omega) h1
    refine ⟨⟨r, h1⟩, by rw [h2], ?_⟩
    unfold endP at h
    rw [h2] at h
    have h3 := List.append_cancel_left h
    split at h3
    · rename_i h4; simp at h3; exact ⟨h4, h3.1⟩
    · simp at h3
  · rintro ⟨⟨r, h⟩, hl, h3, hs⟩
    have h4 : r = [] := by rw [h] at hl; simp at hl; exact hl
    rw [h4, List.append_nil] at h
    exact ⟨[], by unfold endP; rw [h, if_pos h3, hs]; simp⟩
theorem undo_5 {o e : Opr} (ha : o.act = 5) : undoB o e = false := by
  unfold undoB; rw [if_neg (by omega), if_neg (by omega), if_neg (by omega), decide_eq_false (show ¬ o.act = 7 by omega)]; simp
theorem undo_6 {o e : Opr} (ho : OpOk o) (he : OpOk e) (hent : entryB e.act = true) (ha : o.act = 6) : endP e = o.path ↔ undoB o e = true := by
  have hu : undoB o e = (begB e.path o.path && (decide (e.path.length = o.path.length) && decide (e.act = 6))) := by unfold undoB; rw [if_neg (by omega), if_neg (by omega), if_pos ha, decide_eq_false (show ¬ o.act = 7 by omega), Bool.false_or]
  rw [hu, Bool.and_eq_true, Bool.and_eq_true, beg_iff, decide_eq_true_eq, decide_eq_true_eq]
  have hk := (act_kind ho).2.2.2 ha
  constructor
  · intro h
    obtain ⟨r, h1⟩ := end_beg ho.path he (q := []) (by rw [List.append_nil]; exact h)
    have h2 := beg_same (path_ok ho.path).1 he.path (by omega) h1
    exact ⟨⟨r, h1⟩, by rw [h2], (ent_kind he hent).2.2.2.1 (by rw [h2]; exact hk)⟩
  · rintro ⟨⟨r, h⟩, hl, h6⟩
    have h4 : r = [] := by rw [h] at hl; simp at hl; exact hl
    rw [h4, List.append_nil] at h
    unfold endP; rw [if_neg (by omega), h, List.append_nil]
/-- What a change has seen of what it changes is what it takes away. -/
theorem sees_undo {t : Tr} (ht : t.Ord) {o e : Opr} (ho : OpOk o) (he : OpOk e) (hent : entryB e.act = true) {x : Dt} {y : En} (hx : ((endP e, y) : Lf) ∈ t.lvs []) (hd : y.dot = x) (hone : ∀ p z, ((p, z) : Lf) ∈ t.lvs [] → z.dot = x → p = endP e) :
    x ∈ seesD t o ↔ undoB o e = true := by
  have hpre : ∀ w : List ByteArray, x ∈ (getK t w).dots ↔ ∃ q, endP e = w ++ q := fun w => by
    rw [getP_dots ht]
    exact ⟨fun ⟨q, z, h1, h2⟩ => ⟨q, (hone _ _ h1 h2).symm⟩, fun ⟨q, h⟩ => ⟨q, y, h ▸ hx, hd⟩⟩
  rcases act_cases ho with ha | ha | ha | ha | ha | ha | ha
  · rw [sees_sub (.inl ha), hpre, undo_12 ho he hent (.inl ha)]
  · rw [sees_sub (.inr (.inl ha)), hpre, undo_12 ho he hent (.inr ha)]
  · rw [sees_el (.inl ha), hpre, undo_34 ho he (.inl ha)]
  · rw [sees_el (.inr ha), hpre, undo_34 ho he (.inr ha)]
  · rw [sees_inc ha, undo_5 ha]; simp
  · rw [sees_wrt ha, own_at ht, ← undo_6 ho he hent ha]
    exact ⟨fun ⟨z, h1, h2⟩ => (hone _ _ h1 h2).symm, fun h => ⟨y, h ▸ hx, hd⟩⟩
  · rw [sees_sub (.inr (.inr ha)), hpre, undo_7 ho he ha]
end Go.Proofs.YtlapdmgjfdelnaaGreat

namespace Go.Proofs.YtlapdmgjfdelnaaGreat
open Go.RowKit
set_option maxRecDepth 100000

/-- A change that was made: its name, and all the names that were known to who made it. -/
structure Ev where
  d : Dt
  o : Opr
  seen : List Sp
  deriving DecidableEq, Inhabited
def visL (l : List Ev) (c : List Sp) : List Ev := l.filter fun x => hasC c x.d
def undB (d : Dt) (o : Opr) (x : Ev) : Bool := !(hasC x.seen d && undoB x.o o)
def standB (l : List Ev) (e : Ev) : Bool := entryB e.o.act && l.all (undB e.d e.o)
/-- The changes. -/
structure Lw (l : List Ev) : Prop where
  op : ∀ e ∈ l, OpOk e.o
  nd : (l.map (·.d)).Nodup
  rt : ∀ e ∈ l, e.d.right = true
  seen : ∀ e ∈ l, ∀ d, hasC e.seen d = true → ∃ x ∈ l, x.d = d
/-- What somebody knows. -/
structure Kw (l : List Ev) (x : Kn) : Prop where
  ok : KOk x
  inn : ∀ d, hasC x.2 d = true → ∃ e ∈ l, e.d = d
  clo : ∀ e ∈ l, hasC x.2 e.d = true → ∀ d, hasC e.seen d = true → hasC x.2 d = true
  st : ∀ e ∈ l, ∀ p, stE x.1 p e.d = if hasC x.2 e.d = true ∧ standB (visL l x.2) e = true ∧ p = endP e.o then some (entE e.o e.d) else none
theorem Lw.nil : Lw [] := ⟨fun _ h => (by cases h), .nil, fun _ h => (by cases h), fun _ h => (by cases h)⟩
theorem Kw.nil : Kw [] kn0 := ⟨kn0_ok, fun d h => (by rw [show kn0.2 = [] from rfl, hasC_nil] at h; cases h), fun _ h => (by cases h), fun _ h => (by cases h)⟩
theorem Lw.one {l : List Ev} (h : Lw l) {e f : Ev} (he : e ∈ l) (hf : f ∈ l) (hd : e.d = f.d) : e = f := nd_inj h.nd e he f hf hd
theorem stand_ent {l : List Ev} {e : Ev} (h : standB l e = true) : entryB e.o.act = true := by unfold standB at h; rw [Bool.and_eq_true] at h; exact h.1
theorem Kw.none' {l : List Ev} {x : Kn} (h : Kw l x) {d : Dt} (hd : hasC x.2 d = false) (p : List ByteArray) : stE x.1 p d = none := by
  cases hs : stE x.1 p d with
  | none => rfl
  | some y => have h1 : hasC x.2 d = true := (stE_has h.ok hs).1; rw [h1] at hd; cases hd
theorem Kw.some' {l : List Ev} {x : Kn} (h : Kw l x) {p : List ByteArray} {d : Dt} {y : En} (hs : stE x.1 p d = some y) : ∃ e ∈ l, e.d = d ∧ hasC x.2 e.d = true ∧ standB (visL l x.2) e = true ∧ p = endP e.o ∧ y = entE e.o e.d := by
  have hh := (stE_has h.ok hs).1
  obtain ⟨e, he, rfl⟩ := h.inn d hh
  rw [h.st e he] at hs
  split at hs
  · rename_i hc
    cases hs
    exact ⟨e, he, rfl, hc.1, hc.2.1, hc.2.2, rfl⟩
  · cases hs
theorem all_filter' {α : Type} (p q : α → Bool) : ∀ l : List α, (l.filter p).all q = l.all fun x => !p x || q x
  | [] => rfl
  | x :: l => by
    rw [List.filter_cons, List.all_cons]
    cases h : p x
    · simp [all_filter' p q l]
    · simp [all_filter' p q l]
theorem all_and' {α : Type} (p q : α → Bool) : ∀ l : List α, (l.all fun x => p x && q x) = (l.all p && l.all q)
  | [] => rfl
  | x :: l => by
    rw [List.all_cons, List.all_cons, List.all_cons, all_and' p q l]
    cases p x <;> cases q x <;> cases l.all p <;> cases l.all q <;> rfl
theorem all_congr' {α : Type} {p q : α → Bool} : ∀ {l : List α}, (∀ x ∈ l, p x = q x) → l.all p = l.all q
  | [], _ => rfl
  | x :: l, h => by rw [List.all_cons, List.all_cons, h x (by simp), all_congr' fun y hy => h y (by simp [hy])]
theorem stand_or {l : List Ev} {a b c : List Sp} {e : Ev} (hc : ∀ x ∈ l, hasC c x.d = (hasC a x.d || hasC b x.d)) : standB (visL l c) e = (standB (visL l a) e && standB (visL l b) e) := by
  unfold standB visL
  rw [all_filter', all_filter', all_filter']
  have h1 : (l.all fun x => !hasC c x.d || undB e.d e.o x) = ((l.all fun x => !hasC a x.d || undB e.d e.o x) && (l.all fun x => !hasC b x.d || undB e.d e.o x)) := by
    rw [← all_and']
    exact all_congr' fun x hx => by rw [hc x hx]; cases hasC a x.d <;> cases hasC b x.d <;> cases undB e.d e.o x <;> rfl
  rw [h1]
  cases entryB e.o.act <;> cases (l.all fun x => !hasC a x.d || undB e.d e.o x) <;> rfl
theorem Kw.stand_no {l : List Ev} {x : Kn} (h : Kw l x) {e : Ev} (hd : hasC x.2 e.d = false) : standB (visL l x.2) e = entryB e.o.act := by
  unfold standB
  have h1 : (visL l x.2).all (undB e.d e.o) = true := by
    rw [List.all_eq_true]
    intro y hy
    obtain ⟨hy1, hy2⟩ := List.mem_filter.1 hy
    unfold undB
    cases hs : hasC y.seen e.d
    · rfl
    · have := h.clo y hy1 hy2 _ hs
      rw [this] at hd; cases hd
  rw [h1, Bool.and_true]
/-- What two know is joined. -/
theorem Kw.join {l : List Ev} {a b : Kn} (ha : Kw l a) (hb : Kw l b) : Kw l (jn a b) := by
  have hhas : ∀ d, hasC (jn a b).2 d = (hasC a.2 d || hasC b.2 d) := jn_has ha.ok hb.ok
  refine ⟨jn_okK ha.ok hb.ok, fun d hd => ?_, fun e he hd d hs => ?_, fun e he p => ?_⟩
  · rw [hhas, Bool.or_eq_true] at hd
    exact hd.elim (ha.inn d) (hb.inn d)
  · rw [hhas, Bool.or_eq_true] at hd ⊢
    exact hd.elim (fun h => .inl (ha.clo e he h d hs)) (fun h => .inr (hb.clo e he h d hs))
  · have hst := stand_or (l := l) (e := e) (c := (jn a b).2) fun x _ => hhas x.d
    rw [jn_st ha.ok hb.ok, hst, hhas, ha.st e he, hb.st e he]
    cases h1 : hasC a.2 e.d
    · have n1 := ha.stand_no h1
      cases h2 : hasC b.2 e.d
      · simp [jnO]
      · rw [n1]
        cases h3 : standB (visL l b.2) e
        · simp [jnO]
        · have h4 := stand_ent h3
          rw [h4]
          by_cases hp : p = endP e.o
          · simp [jnO, hp]
          · simp [jnO, hp]
    · cases h2 : hasC b.2 e.d
      · rw [hb.stand_no h2]
        cases h3 : standB (visL l a.2) e
        · simp [jnO]
        · have h4 := stand_ent h3
          rw [h4]
          by_cases hp : p = endP e.o
          · simp [jnO, hp]
          · simp [jnO, hp]
      · cases h3 : standB (visL l a.2) e <;> cases h4 : standB (visL l b.2) e
        · simp [jnO]
        · by_cases hp : p = endP e.o <;> simp [jnO, hp]
        · by_cases hp : p = endP e.o <;> simp [jnO, hp]
        · by_cases hp : p = endP e.o
          · simp [jnO, hp, grt_self]
          · simp [jnO, hp]
theorem Kw.seesIn {l : List Ev} {x : Kn} (h : Kw l x) {o : Opr} {d : Dt} (hd : d ∈ seesD x.1 o) : hasC x.2 d = true := by
  obtain ⟨q, e, h1, rfl⟩ := sees_at h.ok.ord hd
  exact h.ok.has _ h1
/-- A change is made: among all changes there is one more. -/
theorem Lw.more {l : List Ev} {x : Kn} (hl : Lw l) (h : Kw l x) {o : Opr} {d : Dt} (ha : appI x.1 o d = 0) (hf : ∀ e ∈ l, e.d ≠ d) : Lw (l ++ [⟨d, o, x.2⟩]) := by
  obtain ⟨_, h2, h3, _⟩ := app_ok ha
  obtain ⟨_, g2, _⟩ := chkT_dots h3
  refine ⟨fun e he => ?_, ?_, fun e he => ?_, fun e he z hz => ?_⟩
  · rcases List.mem_append.1 he with he | he
    · exact hl.op e he
    · simp at he; subst he; exact h2
  · rw [List.map_append, List.nodup_append]
    refine ⟨hl.nd, by simp, fun a ha' b hb => ?_⟩
    obtain ⟨e, he, rfl⟩ := List.mem_map.1 ha'
    simp at hb
    subst hb
    exact hf e he
  · rcases List.mem_append.1 he with he | he
    · exact hl.rt e he
    · simp at he; subst he; exact g2
  · rcases List.mem_append.1 he with he | he
    · obtain ⟨y, hy, e1⟩ := hl.seen e he z hz
      exact ⟨y, by simp [hy], e1⟩
    · simp at he; subst he
      obtain ⟨y, hy, e1⟩ := h.inn z hz
      exact ⟨y, by simp [hy], e1⟩
theorem vis_more {l : List Ev} {c : List Sp} {e : Ev} (h : hasC c e.d = false) : visL (l ++ [e]) c = visL l c := by unfold visL; rw [List.filter_append]; simp [h]
/-- Who hasn't heard of it knows what was known. -/
theorem Kw.other {l : List Ev} {x : Kn} (h : Kw l x) {e : Ev} (hf : ∀ y ∈ l, y.d ≠ e.d) : Kw (l ++ [e]) x := by
  have hno : hasC x.2 e.d = false := by
    cases hh : hasC x.2 e.d
    · rfl
    · obtain ⟨y, hy, e1⟩ := h.inn _ hh; exact absurd e1 (hf y hy)
  refine ⟨h.ok, fun d hd => ?_, fun y hy hd d hs => ?_, fun y hy p => ?_⟩
  · obtain ⟨y, hy, e1⟩ := h.inn d hd; exact ⟨y, by simp [hy], e1⟩
  · rcases List.mem_append.1 hy with hy | hy
    · exact h.clo y hy hd d hs
    · simp at hy; subst hy; rw [hno] at hd; cases hd
  · rw [vis_more hno]
    rcases List.mem_append.1 hy with hy | hy
    · exact h.st y hy p
    · simp at hy; subst hy
      rw [h.none' hno, hno]; simp
/-- Who made it knows it. -/
theorem Kw.made {l : List Ev} {x : Kn} (hl : Lw l) (h : Kw l x) {o : Opr} {d : Dt} (ha : appI x.1 o d = 0) (hf : ∀ e ∈ l, e.d ≠ d) : Kw (l ++ [⟨d, o, x.2⟩]) (jn x (appT x.1 o d, appC x.1 o d)) := by
  obtain ⟨h1, h2, h3, _⟩ := app_ok ha
  obtain ⟨g1, g2, g3⟩ := chkT_dots h3
  have hX : KOk (appT x.1 o d, appC x.1 o d) := (app_right ha).1
  have hno : hasC x.2 d = false := by
    cases hh : hasC x.2 d
    · rfl
    · obtain ⟨y, hy, e1⟩ := h.inn _ hh; exact absurd e1 (hf y hy)
  have hhas : ∀ z, hasC (jn x (appT x.1 o d, appC x.1 o d)).2 z = (hasC x.2 z || decide (z = d)) := fun z => by
    rw [jn_has h.ok hX]
    simp only
    rw [app_has ha]
    by_cases h4 : z ∈ seesD x.1 o
    · rw [h.seesIn h4]; simp
    · simp [h4]
  refine ⟨jn_okK h.ok hX, fun z hz => ?_, fun e he hd z hs => ?_, fun e he p => ?_⟩
  · rw [hhas, Bool.or_eq_true, decide_eq_true_eq] at hz
    rcases hz with hz | rfl
    · obtain ⟨y, hy, e1⟩ := h.inn z hz; exact ⟨y, by simp [hy], e1⟩
    · exact ⟨⟨z, o, x.2⟩, by simp, rfl⟩
  · rw [hhas, Bool.or_eq_true]
    rcases List.mem_append.1 he with he | he
    · rw [hhas, decide_eq_false (hf e he), Bool.or_false] at hd
      exact .inl (h.clo e he hd z hs)
    · simp at he; subst he; exact .inl hs
  · have hvis : visL (l ++ [⟨d, o, x.2⟩]) (jn x (appT x.1 o d, appC x.1 o d)).2 = visL l x.2 ++ [⟨d, o, x.2⟩] := by
      unfold visL
      rw [List.filter_append]
      congr 1
      · exact List.filter_congr fun y hy => by rw [hhas, decide_eq_false (hf y hy), Bool.or_false]
      · simp [hhas]
    have hstd : standB (visL l x.2 ++ [⟨d, o, x.2⟩]) e = (standB (visL l x.2) e && undB e.d e.o ⟨d, o, x.2⟩) := by
      unfold standB
      rw [List.all_append]
      simp [Bool.and_assoc]
    rw [hvis, hstd, jn_st h.ok hX, hhas]
    simp only
    rw [app_st ha]
    rcases List.mem_append.1 he with he | he
    · have hne := hf e he
      rw [if_neg (by rintro ⟨_, _, e1⟩; exact hne e1), decide_eq_false hne, Bool.or_false, h.st e he]
      have hu : undB e.d e.o ⟨d, o, x.2⟩ = !(hasC x.2 e.d && undoB o e.o) := rfl
      rw [hu]
      by_cases hc : hasC x.2 e.d = true ∧ standB (visL l x.2) e = true ∧ p = endP e.o
      · have hs := h.st e he p
        rw [if_pos hc] at hs
        obtain ⟨m1, m2⟩ := (stE_some h.ok.ord).1 hs
        have hsu : e.d ∈ seesD x.1 o ↔ undoB o e.o = true := by
          refine sees_undo h.ok.ord h2 (hl.op e he) (stand_ent hc.2.1) (y := entE e.o e.d) (by rw [← hc.2.2]; exact m1) rfl fun p' z hz hzd => ?_
          have h5 : stE x.1 p' e.d = some z := (stE_some h.ok.ord).2 ⟨hz, hzd⟩
          rw [h.st e he] at h5
          split at h5
          · rename_i h6; exact h6.2.2
          · cases h5
        rw [if_pos hc, hc.1, hc.2.1]
        have hC : hasC (appC x.1 o d) e.d = undoB o e.o := by
          rw [app_has ha, Bool.eq_iff_iff, decide_eq_true_eq, ← hsu]
          exact ⟨fun h => h.resolve_left hne, .inr⟩
        rw [hC]
        cases hub : undoB o e.o
        · simp [jnO, hc.2.2]
        · simp [jnO]
      · rw [if_neg hc, if_neg (fun ⟨q1, q2, q3⟩ => hc ⟨q1, by rw [Bool.and_eq_true] at q2; exact q2.1, q3⟩)]
        simp [jnO]
    · simp at he
      subst he
      rw [h.none' hno, hno]
      have hall : standB (visL l x.2) ⟨d, o, x.2⟩ = entryB o.act := h.stand_no hno
      have hu : undB d o ⟨d, o, x.2⟩ = true := by unfold undB; simp [hno]
      simp only [hall, hu]
      by_cases ha' : entryB o.act = true <;> by_cases hp' : p = endP o <;> simp [ha', hp', jnO]

/-- How much there may be. -/
theorem lvs_nodup : ∀ t : Tr, t.Ord → (t.lvs []).Nodup := by
  intro t
  induction t using Tr.ind with
  | h es ks ih =>
    intro ho
    obtain ⟨o1, o2, o3⟩ := ord_iff.1 ho
    rw [Tr.lvs, List.nodup_append]
    refine ⟨?_, ?_, ?_⟩
    · exact List.pairwise_map.2 (o1.imp fun {a b} h e => by
        have := (Prod.mk.inj e).2
        rw [this, ltD_irrefl] at h; cases h)
    · clear ho o1
      induction ks with
      | nil => simp [Tr.lvsL]
      | cons x ks ih2 =>
        obtain ⟨k, u⟩ := x
        rw [Tr.lvsL, List.nodup_append]
        obtain ⟨q1, q2⟩ := List.pairwise_cons.1 o2
        refine ⟨?_, ih2 (fun k' t' h => ih k' t' (by simp [h])) q2 (fun k' t' h => o3 k' t' (by simp [h])), ?_⟩
        · rw [lvs_at]
          have := ih k u (by simp) (o3 k u (by simp)).2.2
          exact List.pairwise_map.2 (this.imp fun {a b} h e => h (by
            simp only [List.nil_append, Prod.mk.injEq, List.append_cancel_left_eq] at e
            exact Prod.ext e.1 e.2))
        · intro a ha b hb e
          subst e
          rw [lvs_at, List.mem_map] at ha
          obtain ⟨a', _, rfl⟩ := ha
          obtain ⟨k', t', h1, h2⟩ := mem_lvsL.1 hb
          rw [lvs_at, List.mem_map] at h2
          obtain ⟨b', _, e2⟩ := h2
          have h3 := q1 _ h1
          simp only [List.nil_append, List.singleton_append, Prod.mk.injEq, List.cons.injEq] at e2
          rw [e2.1.1, ltS_irrefl] at h3; cases h3
    · intro a ha b hb e
      subst e
      obtain ⟨x, _, rfl⟩ := List.mem_map.1 ha
      obtain ⟨k', t', h1, h2⟩ := mem_lvsL.1 hb
      rw [lvs_at, List.mem_map] at h2
      obtain ⟨b', _, e2⟩ := h2
      simp at e2
theorem sz_leaves : ∀ t : Tr, t.Ord → ∀ p : List ByteArray, t.sz + (t.lvs p).length * p.length ≤ ((t.lvs p).map fun x => x.1.length + 1).sum := by
  intro t
  induction t using Tr.ind with
  | h es ks ih =>
    intro ho p
    obtain ⟨o1, o2, o3⟩ := ord_iff.1 ho
    have h1 : ∀ es : List En, (es.map fun e => ((p, e) : Lf)).map (fun x => x.1.length + 1) = es.map fun _ => p.length + 1 := fun es => by simp
    have h2 : ∀ es : List En, (es.map fun _ => p.length + 1).sum = es.length * (p.length + 1) := fun es => by
      induction es with
      | nil => simp
      | cons e es ih => simp only [List.map_cons, List.sum_cons, ih, List.length_cons, Nat.add_mul]; omega
    have h3 : Tr.szL ks + (Tr.lvsL ks p).length * p.length ≤ ((Tr.lvsL ks p).map fun x => x.1.length + 1).sum := by
      clear ho o1 o2 h1 h2
      induction ks with
      | nil => simp [Tr.szL, Tr.lvsL]
      | cons x ks ih2 =>
        obtain ⟨k, u⟩ := x
        obtain ⟨c1, c2, c3⟩ := o3 k u (by simp)
        have e1 := ih k u (by simp) c3 (p ++ [k])
        have e2 := ih2 (fun k' t' h => ih k' t' (by simp [h])) fun k' t' h => o3 k' t' (by simp [h])
        obtain ⟨y, hy⟩ := ord_leaf u c3 c2
        have e3 : 1 ≤ (u.lvs (p ++ [k])).length := by
          rw [lvs_at, List.length_map]; exact List.length_pos_of_mem hy
        rw [Tr.szL, Tr.lvsL, List.map_append, List.sum_append, List.length_append]
        rw [List.length_append, List.length_singleton, Nat.mul_add, Nat.mul_one] at e1
        rw [Nat.add_mul]
        omega
    rw [Tr.sz, Tr.lvs, List.map_append, List.sum_append, List.length_append, h1, h2, List.length_map, Nat.add_mul]
    have : es.length * (p.length + 1) = es.length * p.length + es.length := by rw [Nat.mul_add, Nat.mul_one]
    omega
theorem sum_bd {α : Type} (f : α → Nat) (c : Nat) : ∀ (l : List α), (∀ x ∈ l, f x ≤ c) → (l.map f).sum ≤ l.length * c
  | [], _ => by simp
  | x :: l, h => by
    have h1 := sum_bd f c l fun y hy => h y (by simp [hy])
    have h2 := h x (by simp)
    simp only [List.map_cons, List.sum_cons, List.length_cons, Nat.add_mul]; omega
theorem runs_lt : ∀ (l : List (Int × Int)) (p : Option Int), runsR p l = true → (l.Pairwise fun a b => a.1 < b.1) ∧ ∀ q, p = some q → ∀ r ∈ l, q < r.1
  | [], _, _ => ⟨.nil, fun _ _ _ h => by cases h⟩
  | r :: l, p, h => by
    obtain ⟨h1, h2, h3⟩ := (runsR_iff p r l).1 h
    obtain ⟨i1, i2⟩ := runs_lt l _ h3
    have h4 := h1.2.1
    refine ⟨List.pairwise_cons.2 ⟨fun b hb => by have := i2 _ rfl b hb; omega, i1⟩, fun q hq x hx => ?_⟩
    subst hq
    have h5 := of_decide_eq_true (show decide (q + 1 < r.1) = true from h2)
    rcases List.mem_cons.1 hx with rfl | hx
    · omega
    · have := i2 _ rfl x hx; omega
theorem ctx_len {c : List Sp} (h : apartB c = true) {D : List Dt} (hD : ∀ d, hasC c d = true → d ∈ D) : c.length ≤ D.length := by
  have hd := apart_dcs c 0 (by unfold apartB at h; simp at h; exact h.1)
  have h1 : (c.map fun s => (⟨s.dc, s.fr⟩ : Dt)).Nodup := by
    refine List.pairwise_map.2 (List.pairwise_iff_getElem.2 fun i j hi hj hij e => ?_)
    simp only [Dt.mk.injEq] at e
    obtain ⟨d1, d2⟩ := hd _ (List.getElem_mem hi)
    obtain ⟨m, hm⟩ : ∃ m : Nat, (m : Int) = c[i].dc := ⟨c[i].dc.toNat, by omega⟩
    have h2 := (runs_lt _ _ (apart_part h (i := m) (by omega))).1
    unfold partL at h2
    rw [List.pairwise_map, List.pairwise_filter] at h2
    have h3 := List.pairwise_iff_getElem.1 h2 i j hi hj hij (by simp [hm]) (by simp [hm, e.1])
    simp only at h3
    omega
  have h2 := List.Nodup.length_le_of_subset h1 (l₂ := D) fun x hx => by
    obtain ⟨s, hs, rfl⟩ := List.mem_map.1 hx
    refine hD _ ?_
    obtain ⟨d1, d2⟩ := hd s hs
    obtain ⟨m, hm⟩ : ∃ m : Nat, (m : Int) = s.dc := ⟨s.dc.toNat, by omega⟩
    have hr : (s.fr, s.hi) ∈ partL c s.dc := by unfold partL; exact List.mem_map.2 ⟨s, List.mem_filter.2 ⟨hs, by simp⟩, rfl⟩
    have h3 := apart_ok h (i := m) (by omega) (s.fr, s.hi) (by rw [hm]; exact hr)
    unfold runOk at h3
    simp only at h3
    unfold hasC
    have h4 : (⟨s.dc, s.fr⟩ : Dt).right = true := by rw [← hm]; exact dt_right (by omega) (by omega)
    rw [h4, Bool.true_and]
    unfold hasL
    rw [List.any_eq_true]
    exact ⟨_, hr, by unfold inR; simp; omega⟩
  rwa [List.length_map] at h2
theorem Kw.size {l : List Ev} {x : Kn} (h : Kw l x) : x.1.sz ≤ 5 * l.length ∧ x.2.length ≤ l.length := by
  constructor
  · have h1 := sz_leaves x.1 h.ok.ord []
    have h2 : ((x.1.lvs []).map fun x => x.1.length + 1).sum ≤ (x.1.lvs []).length * 5 := sum_bd _ 5 _ fun y hy => by
      have := (h.ok.leaf y hy).1; omega
    have h3 : ((x.1.lvs []).map fun x => x.2.dot).length ≤ (l.map (·.d)).length := by
      refine List.Nodup.length_le_of_subset ?_ fun z hz => ?_
      · refine List.pairwise_map.2 ((lvs_nodup x.1 h.ok.ord).imp_of_mem fun {a b} ha hb hn e => hn ?_)
        have s1 : stE x.1 a.1 a.2.dot = some a.2 := (stE_some h.ok.ord).2 ⟨ha, rfl⟩
        have s2 : stE x.1 b.1 a.2.dot = some b.2 := (stE_some h.ok.ord).2 ⟨hb, e.symm⟩
        obtain ⟨e1, m1, n1, _, _, p1, q1⟩ := h.some' s1
        rw [← n1, h.st e1 m1] at s2
        split at s2
        · rename_i hc
          have e3 := Option.some.inj s2
          exact Prod.ext (by rw [p1, hc.2.2]) (by rw [q1, e3])
        · cases s2
      · obtain ⟨y, hy, rfl⟩ := List.mem_map.1 hz
        obtain ⟨e, he, hd⟩ := h.inn _ (h.ok.has y hy)
        exact List.mem_map.2 ⟨e, he, hd⟩
    rw [List.length_map, List.length_map] at h3
    simp only [List.length_nil, Nat.mul_zero, Nat.add_zero] at h1
    omega
  · have := ctx_len h.ok.ap (D := l.map (·.d)) fun d hd => by
      obtain ⟨e, he, e1⟩ := h.inn d hd
      exact List.mem_map.2 ⟨e, he, e1⟩
    rwa [List.length_map] at this
end Go.Proofs.YtlapdmgjfdelnaaGreat

namespace Go.Proofs.YtlapdmgjfdelnaaGreat
open Go.RowKit
set_option maxRecDepth 100000

/-- A change that was made lies in cells. -/
def EvA (w : World) (ok : Nat → Prop) (e : Ev) (cs : List Value) : Prop :=
  ∃ A c A' c', cs = [.int .i64 e.d.dc, .int .i64 e.d.n, .slice A e.o.path.length c, .int .i64 e.o.act, .string e.o.s, .int .i64 e.o.n, .slice A' e.seen.length c'] ∧ SlA w ok 1 StE (.slice A e.o.path.length c) e.o.path ∧ SlA w ok 3 SpE (.slice A' e.seen.length c') e.seen ∧ e.d.Ok ∧ e.o.Ok
theorem EvA.mon : Emon EvA where
  up := fun hk ho ⟨A, c, A', c', h1, h2, h3, h4⟩ => ⟨A, c, A', c', h1, h2.up hk ho fun _ _ _ h => h, h3.up hk ho fun _ _ _ h => h, h4⟩
  one := by rintro w ok x cs ⟨A, c, A', c', rfl, _⟩; simp [Value.oneCell']
/-- A list of changes that were made lies in memory. -/
def EvL (w : World) (v : Value) (l : List Ev) : Prop := SlP w w.heap.size 7 (EvA w (fun b => b < w.heap.size)) v l
theorem EvL.up {w w' : World} {v : Value} {l : List Ev} (h : EvL w v l) (hb : Below w.heap.size w w') : EvL w' v l :=
  SlP.imp h hb hb.size fun _ _ _ hx => EvA.mon.up (fun b hb' => hb.block b hb') (fun _ hb' => Nat.lt_of_lt_of_le hb' hb.size) hx
/-- One change of the list, in its cells. -/
theorem EvL.at {w : World} {A : Option Addr} {n : Nat} {l : List Ev} (h : EvL w (.slice A l.length n) l) {k : Nat} {x : Ev} (hx : l[k]? = some x) :
    ∃ b off A5 c5 A6 c6, A = some ⟨b, off, none⟩ ∧ b < w.heap.size ∧ SlP w w.heap.size 1 StE (.slice A5 x.o.path.length c5) x.o.path ∧ SlP w w.heap.size 3 SpE (.slice A6 x.seen.length c6) x.seen ∧ x.d.Ok ∧ x.o.Ok ∧
      ∀ W, Below w.heap.size w W → (W.cell? ⟨b, off + k * 7, none⟩ = some (.int .i64 x.d.dc) ∧ W.cell? ⟨b, off + k * 7 + 1, none⟩ = some (.int .i64 x.d.n) ∧ W.cell? ⟨b, off + k * 7 + 2, none⟩ = some (.slice A5 x.o.path.length c5) ∧ W.cell? ⟨b, off + k * 7 + 3, none⟩ = some (.int .i64 x.o.act) ∧ W.cell? ⟨b, off + k * 7 + 4, none⟩ = some (.string x.o.s) ∧ W.cell? ⟨b, off + k * 7 + 5, none⟩ = some (.int .i64 x.o.n) ∧ W.cell? ⟨b, off + k * 7 + 6, none⟩ = some (.slice A6 x.seen.length c6)) := by
  obtain ⟨A', n', hv, _, _, h3⟩ := h
  cases hv
  obtain ⟨b, off, rfl, hb, hc⟩ := h3 (by rintro rfl; simp at hx)
  obtain ⟨cs, ⟨A5, c5, A6, c6, rfl, hp, hs, hd, ho⟩, _, hu⟩ := hc k x hx
  exact ⟨b, off, A5, c5, A6, c6, rfl, hb, hp, hs, hd, ho, fun W hW => ⟨(hW.cell hb).trans (hu 0 _ rfl), (hW.cell hb).trans (hu 1 _ rfl), (hW.cell hb).trans (hu 2 _ rfl), (hW.cell hb).trans (hu 3 _ rfl), (hW.cell hb).trans (hu 4 _ rfl), (hW.cell hb).trans (hu 5 _ rfl), (hW.cell hb).trans (hu 6 _ rfl)⟩⟩
end Go.Proofs.YtlapdmgjfdelnaaGreat

namespace Go.Proofs.YtlapdmgjfdelnaaGreat
open Go.RowKit
set_option maxRecDepth 100000

/-- What context.Same tells. -/
def cSame (a b : List Sp) : Bool := apartB a && (apartB b && decide (a = b))
end Go.Proofs.YtlapdmgjfdelnaaGreat

namespace Go.Proofs.YtlapdmgjfdelnaaGreat
open Go.RowKit
set_option maxRecDepth 100000

end Go.Proofs.YtlapdmgjfdelnaaGreat

namespace Go.Proofs.YtlapdmgjfdelnaaGreat
open Go.RowKit
set_option maxRecDepth 100000

def sumP (es : List En) : Int := (es.map (·.v)).sum
theorem sumE_go : ∀ (es : List En) (s : Int) (m : Nat), (∀ e ∈ es, -1099511627776 ≤ e.v ∧ e.v ≤ 1099511627776) → -(1099511627776 * (m : Int)) ≤ s → s ≤ 1099511627776 * (m : Int) → m + es.length ≤ 1000 →
    es.foldl (fun s e => wrap64 (s + e.v)) s = s + sumP es ∧ -(1099511627776 * ((m + es.length : Nat) : Int)) ≤ s + sumP es ∧ s + sumP es ≤ 1099511627776 * ((m + es.length : Nat) : Int)
  | [], s, m, _, h1, h2, _ => by simp [sumP]; omega
  | e :: es, s, m, he, h1, h2, h3 => by
    have hv := he e (by simp)
    rw [List.length_cons] at h3
    have hw : wrap64 (s + e.v) = s + e.v := by unfold wrap64; omega
    have h4 := sumE_go es (s + e.v) (m + 1) (fun x hx => he x (by simp [hx])) (by push_cast; omega) (by push_cast; omega) (by omega)
    have hs : sumP (e :: es) = e.v + sumP es := by simp [sumP]
    rw [List.foldl_cons, hw, h4.1, hs, List.length_cons]
    have e1 : m + 1 + es.length = m + (es.length + 1) := by omega
    rw [e1] at h4
    refine ⟨by omega, ?_, ?_⟩
    · have := h4.2.1; omega
    · have := h4.2.2; omega
theorem sumE_P {es : List En} (he : ∀ e ∈ es, -1099511627776 ≤ e.v ∧ e.v ≤ 1099511627776) (hl : es.length ≤ 100) : sumE es = sumP es ∧ -109951162777600 ≤ sumP es ∧ sumP es ≤ 109951162777600 := by
  have h := sumE_go es 0 0 he (by omega) (by omega) (by omega)
  unfold sumE
  refine ⟨by rw [h.1]; omega, ?_, ?_⟩
  · have := h.2.1; omega
  · have := h.2.2; omega
theorem sumP_cons (x : En) (es : List En) : sumP (x :: es) = x.v + sumP es := by simp [sumP]
def dd (k : Nat) : Dt := ⟨((k % 4 : Nat) : Int), 1099511627776 - (k : Int)⟩
/-- What the k-th center tells. -/
def cntX (k : Nat) (n : Int) : Kn := (tOne ⟨((k % 4 : Nat) : Int), 1099511627776 - (k : Int), ByteArray.empty, n⟩, ctxOf [dd k])
def cntL (l : List Int) : List Kn := l.mapIdx cntX
def SmallI (n : Int) : Prop := -2147483648 ≤ n ∧ n ≤ 2147483647
end Go.Proofs.YtlapdmgjfdelnaaGreat

namespace Go.Proofs.YtlapdmgjfdelnaaGreat
open Go.RowKit
set_option maxRecDepth 100000

/-- One more change that stands and is read: on, number, texts. -/
def stepS (k : Int) (path : List ByteArray) (s : Bool × Int × List ByteArray) (e : Ev) : Bool × Int × List ByteArray :=
  if path.length < e.o.path.length then (s.1, s.2.1, s.2.2 ++ [(e.o.path[path.length]?).getD ByteArray.empty])
  else if k = 1 then (true, s.2.1, s.2.2) else if k = 2 ∨ k = 4 then (s.1, s.2.1, s.2.2 ++ [e.o.s]) else if k = 3 then (s.1, wrap64 (s.2.1 + e.o.n), s.2.2) else s
def takB (l : List Ev) (path : List ByteArray) (e : Ev) : Bool := begB e.o.path path && standB l e
def specF (l : List Ev) (path : List ByteArray) : Bool × Int × List ByteArray := l.foldl (fun s e => if takB l path e then stepS (kindB (lastK path)) path s e else s) (false, 0, [])
/-- What tributaryref15.Spec tells. -/
def specV (l : List Ev) (path : List ByteArray) : Vw := ⟨kindB (lastK path), (specF l path).1, (specF l path).2.1, sdL (specF l path).2.2⟩
theorem valsR {A : Tr} (h : A.right 5 = true) : valsOf A = sdL (txtL A) := by
  unfold valsOf
  rw [if_pos h, sd_eq]
theorem sdExt {l m : List ByteArray} (h : ∀ x, x ∈ l ↔ x ∈ m) : sdL l = sdL m :=
  sorted_ext ltS_irrefl (fun _ _ _ h k => ltS_trans h k) (sdL_spec l).1 (sdL_spec m).1 fun x => by rw [(sdL_spec l).2, (sdL_spec m).2, h]
theorem sumP_perm {l m : List En} (h : l.Perm m) : sumP l = sumP m := by
  induction h with
  | nil => rfl
  | cons x _ ih => rw [sumP_cons, sumP_cons, ih]
  | swap x y l => rw [sumP_cons, sumP_cons, sumP_cons, sumP_cons]; omega
  | trans _ _ i1 i2 => rw [i1, i2]
theorem keys_leaf {u : Tr} (ho : u.Ord) {k : ByteArray} : k ∈ u.ks.map (·.1) ↔ ∃ q y, ((k :: q, y) : Lf) ∈ u.lvs [] := by
  obtain ⟨es, ks⟩ := u
  rw [List.mem_map]
  constructor
  · rintro ⟨⟨k', t⟩, hm, rfl⟩
    obtain ⟨_, h2, h3⟩ := (ord_iff.1 ho).2.2 k' t hm
    obtain ⟨⟨q, y⟩, hy⟩ := ord_leaf t h3 h2
    exact ⟨q, y, mem_cons'.2 ⟨t, hm, hy⟩⟩
  · rintro ⟨q, y, h⟩
    obtain ⟨t, hm, _⟩ := mem_cons'.1 h
    exact ⟨(k, t), hm, rfl⟩
end Go.Proofs.YtlapdmgjfdelnaaGreat

namespace Go.Proofs.YtlapdmgjfdelnaaGreat
open Go.RowKit
set_option maxRecDepth 100000

structure SInv (l : List Ev) (n : Nat → Int) (K : Nat → Kn) : Prop where
  lw : Lw l
  kw : ∀ i, i < 3 → Kw l (K i)
  nn : ∀ i, i < 3 → 0 ≤ n i ∧ n i ≤ l.length
  nm : ∀ e ∈ l, ∃ i : Nat, i < 3 ∧ e.d.dc = (i : Int) ∧ e.d.n ≤ n i
  some : ∀ e ∈ l, ∃ i, i < 3 ∧ hasC (K i).2 e.d = true
def setK {α : Type} (K : Nat → α) (i : Nat) (x : α) : Nat → α := fun j => if j = i then x else K j
theorem setK_same {α : Type} (K : Nat → α) (i : Nat) (x : α) : setK K i x i = x := if_pos rfl
theorem SInv.nil : SInv [] (fun _ => 0) (fun _ => kn0) := ⟨Lw.nil, fun _ _ => Kw.nil, fun _ _ => (by simp), fun _ h => (by cases h), fun _ h => (by cases h)⟩
theorem SInv.hear {l : List Ev} {n : Nat → Int} {K : Nat → Kn} (h : SInv l n K) {i j : Nat} (hi : i < 3) (hj : j < 3) : SInv l n (setK K i (jn (K i) (K j))) := by
  refine ⟨h.lw, fun k hk => ?_, h.nn, h.nm, fun e he => ?_⟩
  · unfold setK; split
    · exact (h.kw i hi).join (h.kw j hj)
    · exact h.kw k hk
  · obtain ⟨k, hk, hh⟩ := h.some e he
    refine ⟨k, hk, ?_⟩
    unfold setK; split
    · rename_i e1
      subst e1
      rw [jn_has (h.kw k hi).ok (h.kw j hj).ok, hh]; rfl
    · exact hh
theorem SInv.fresh {l : List Ev} {n : Nat → Int} {K : Nat → Kn} (h : SInv l n K) {i : Nat} (hi : i < 3) : ∀ e ∈ l, e.d ≠ ⟨(i : Int), n i + 1⟩ := fun e he e1 => by
  obtain ⟨k, hk, h1, h2⟩ := h.nm e he
  rw [e1] at h1 h2
  simp only at h1 h2
  have : k = i := by omega
  subst this
  omega
theorem SInv.make {l : List Ev} {n : Nat → Int} {K : Nat → Kn} (h : SInv l n K) {i : Nat} (hi : i < 3) {o : Opr} (ha : appI (K i).1 o ⟨(i : Int), n i + 1⟩ = 0) :
    SInv (l ++ [⟨⟨(i : Int), n i + 1⟩, o, (K i).2⟩]) (setK n i (n i + 1)) (setK K i (jn (K i) (appT (K i).1 o ⟨(i : Int), n i + 1⟩, appC (K i).1 o ⟨(i : Int), n i + 1⟩))) := by
  have hf := h.fresh hi
  refine ⟨h.lw.more (h.kw i hi) ha hf, fun k hk => ?_, fun k hk => ?_, fun e he => ?_, fun e he => ?_⟩
  · unfold setK; split
    · exact (h.kw i hi).made h.lw ha hf
    · exact (h.kw k hk).other hf
  · have h1 := h.nn k hk
    have h2 := h.nn i hi
    unfold setK
    rw [List.length_append, List.length_singleton]
    split
    · push_cast; omega
    · push_cast; omega
  · rcases List.mem_append.1 he with he | he
    · obtain ⟨k, hk, h1, h2⟩ := h.nm e he
      refine ⟨k, hk, h1, ?_⟩
      unfold setK; split
      · rename_i e1; subst e1; omega
      · exact h2
    · simp at he; subst he
      exact ⟨i, hi, rfl, by rw [setK_same]; exact Int.le_refl _⟩
  · have hX : KOk (appT (K i).1 o ⟨(i : Int), n i + 1⟩, appC (K i).1 o ⟨(i : Int), n i + 1⟩) := (app_right ha).1
    rcases List.mem_append.1 he with he | he
    · obtain ⟨k, hk, hh⟩ := h.some e he
      refine ⟨k, hk, ?_⟩
      unfold setK; split
      · rename_i e1
        subst e1
        rw [jn_has (h.kw k hi).ok hX, hh]; rfl
      · exact hh
    · simp at he; subst he
      refine ⟨i, hi, ?_⟩
      rw [setK_same, jn_has (h.kw i hi).ok hX]
      simp only
      rw [app_has ha]; simp
/-- Who has seen the same has the same. -/
theorem Kw.same {l : List Ev} {a b : Kn} (ha : Kw l a) (hb : Kw l b) (hc : a.2 = b.2) : a = b := by
  obtain ⟨a1, a2⟩ := a
  obtain ⟨b1, b2⟩ := b
  simp only at hc
  subst hc
  have h := CaOk.ext2 ha.ok hb.ok (fun p d => ?_) fun _ => rfl
  · exact Prod.ext h.1 h.2
  · cases hd : hasC a2 d
    · rw [ha.none' hd, hb.none' hd]
    · obtain ⟨e, he, rfl⟩ := ha.inn d hd
      rw [ha.st e he, hb.st e he]
/-- All joined is all that was made. -/
theorem SInv.all {l : List Ev} {n : Nat → Int} {K : Nat → Kn} (h : SInv l n K) : Kw l (jnL [K 0, K 1, K 2]) ∧ jnL [K 2, K 0, K 1] = jnL [K 0, K 1, K 2] ∧ visL l (jnL [K 0, K 1, K 2]).2 = l := by
  have h0 := h.kw 0 (by omega)
  have h1 := h.kw 1 (by omega)
  have h2 := h.kw 2 (by omega)
  have e1 : jnL [K 0, K 1, K 2] = jn (jn (K 0) (K 1)) (K 2) := jnL_three h0.ok
  have hok : ∀ x ∈ [K 2, K 0, K 1], KOk x := fun x hx => by
    simp at hx
    rcases hx with rfl | rfl | rfl
    · exact h2.ok
    · exact h0.ok
    · exact h1.ok
  refine ⟨by rw [e1]; exact (h0.join h1).join h2, jnL_perm (by
    refine List.Perm.trans (List.Perm.swap (K 0) (K 2) [K 1]) ?_
    exact List.Perm.cons _ (List.Perm.swap (K 1) (K 2) [])) hok, ?_⟩
  unfold visL
  rw [List.filter_eq_self]
  intro e he
  obtain ⟨k, hk, hh⟩ := h.some e he
  rw [e1, jn_has (h0.join h1).ok h2.ok, jn_has h0.ok h1.ok]
  rcases (show k = 0 ∨ k = 1 ∨ k = 2 by omega) with rfl | rfl | rfl <;> simp [hh]
end Go.Proofs.YtlapdmgjfdelnaaGreat

namespace Go.Proofs.YtlapdmgjfdelnaaGreat
open Go.RowKit
set_option maxRecDepth 100000

/-- A box of three cells that holds what is known, in a world come of V above m. -/
def Box3 (m : Nat) (V : World) (e : TypeId) (T : Tr) (c : List Sp) (s : Value) (wx : World) : Prop :=
  ∃ g u v x, s = .pointer (some ⟨g, 0, none⟩) ∧ wx.heap[g]? = some (.cells #[u, v, x] e (0, 0)) ∧ T.rd wx wx.heap.size u v ∧ SlP wx wx.heap.size 3 SpE x c ∧ Below m V wx
theorem z_new {w1 w7 : World} {a : Array Value} {e : TypeId} (hb : Below (w1.alloc (.cells a e (0, 0))).heap.size (w1.alloc (.cells a e (0, 0))) w7) : w7.heap[w1.heap.size]? = some (.cells a e (0, 0)) := (hb.block _ (by simp)).trans (heap_new rfl)
theorem z_new2 {w1 w7 : World} {o : Obj} {a : Array Value} {e : TypeId} (hb : Below ((w1.alloc o).alloc (.cells a e (0, 0))).heap.size ((w1.alloc o).alloc (.cells a e (0, 0))) w7) : w7.heap[w1.heap.size + 1]? = some (.cells a e (0, 0)) := (hb.block _ (by simp)).trans (heap_new (by simp))
theorem z_newD {w1 w7 : World} {a : Array Value} {e : TypeId} (hb : Below (w1.alloc (.cells a e (0, 0))).drew.heap.size (w1.alloc (.cells a e (0, 0))).drew w7) : w7.heap[w1.heap.size]? = some (.cells a e (0, 0)) := (hb.block _ (by simp)).trans (heap_new (w := w1) rfl)
theorem z_new2D {w1 w7 : World} {o : Obj} {a : Array Value} {e : TypeId} (hb : Below ((w1.alloc o).alloc (.cells a e (0, 0))).drew.heap.size ((w1.alloc o).alloc (.cells a e (0, 0))).drew w7) : w7.heap[w1.heap.size + 1]? = some (.cells a e (0, 0)) := (hb.block _ (by simp)).trans (heap_new (w := w1.alloc o) (by simp))
end Go.Proofs.YtlapdmgjfdelnaaGreat

namespace Go.Proofs.YtlapdmgjfdelnaaGreat
open Go.RowKit
set_option maxRecDepth 100000

abbrev V3 := Value × Value × Value
def stCells (v : Nat → V3) (n : Nat → Int) (va : Value) : Array Value := #[(v 0).1, (v 0).2.1, (v 0).2.2, (v 1).1, (v 1).2.1, (v 1).2.2, (v 2).1, (v 2).2.1, (v 2).2.2, .int .i64 (n 0), .int .i64 (n 1), .int .i64 (n 2), va]
/-- Blocks that a step of the state leaves as they are. -/
def okS (w : World) (g : Nat) (va : Value) (b : Nat) : Prop := b ≠ g ∧ b < w.heap.size ∧ va.ownBlock ≠ some b
/-- The state's box. -/
structure StB (w : World) (g : Nat) (v : Nat → V3) (n : Nat → Int) (va : Value) (l : List Ev) (K : Nat → Kn) : Prop where
  box : w.heap[g]? = some (.cells (stCells v n va) 64 (0, 0))
  tree : ∀ i, i < 3 → (K i).1.rda w (okS w g va) (v i).1 (v i).2.1
  ctx : ∀ i, i < 3 → SlA w (okS w g va) 3 SpE (v i).2.2 (K i).2
  own : OwnD w (g + 1) 80 7 EvA (fun b => b ≠ g) va l
section
variable {w w' : World} {g : Nat} {v : Nat → V3} {n : Nat → Int} {va : Value} {l : List Ev} {K : Nat → Kn}
theorem StB.lt (h : StB w g v n va l K) : g < w.heap.size := lt_of_block h.box
theorem StB.grow (h : StB w g v n va l K) (hb : Below w.heap.size w w') : StB w' g v n va l K where
  box := (hb.block g h.lt).trans h.box
  tree := fun i hi => rda_up (fun b hq => hb.block b hq.2.1) (fun _ hq => ⟨hq.1, Nat.lt_of_lt_of_le hq.2.1 hb.size, hq.2.2⟩) _ _ _ (h.tree i hi)
  ctx := fun i hi => (h.ctx i hi).up (fun b hq => hb.block b hq.2.1) (fun _ hq => ⟨hq.1, Nat.lt_of_lt_of_le hq.2.1 hb.size, hq.2.2⟩) fun _ _ _ h => h
  own := h.own.grow EvA.mon hb
theorem StB.rd (h : StB w g v n va l K) {i : Nat} (hi : i < 3) : (K i).1.rd w w.heap.size (v i).1 (v i).2.1 := rda_rd (h.tree i hi) (fun _ hb => hb.2.1) (Below.refl _ _)
theorem StB.slp (h : StB w g v n va l K) {i : Nat} (hi : i < 3) : SlP w w.heap.size 3 SpE (v i).2.2 (K i).2 := (h.ctx i hi).slp (fun _ hb => hb.2.1) (Below.refl _ _)
theorem StB.cells (h : StB w g v n va l K) {i : Nat} (hi : i < 3) : w.cell? ⟨g, i * 3, none⟩ = some (v i).1 ∧ w.cell? ⟨g, i * 3 + 1, none⟩ = some (v i).2.1 ∧ w.cell? ⟨g, i * 3 + 2, none⟩ = some (v i).2.2 ∧ w.cell? ⟨g, 9 + i, none⟩ = some (.int .i64 (n i)) ∧ w.cell? ⟨g, 12, none⟩ = some va := by
  have hb := h.box
  have c0 := cell_cells (i := 0) hb
  have c1 := cell_cells (i := 1) hb
  have c2 := cell_cells (i := 2) hb
  have c3 := cell_cells (i := 3) hb
  have c4 := cell_cells (i := 4) hb
  have c5 := cell_cells (i := 5) hb
  have c6 := cell_cells (i := 6) hb
  have c7 := cell_cells (i := 7) hb
  have c8 := cell_cells (i := 8) hb
  have c9 := cell_cells (i := 9) hb
  have c10 := cell_cells (i := 10) hb
  have c11 := cell_cells (i := 11) hb
  have c12 := cell_cells (i := 12) hb
  rcases (show i = 0 ∨ i = 1 ∨ i = 2 by omega) with rfl | rfl | rfl
  · exact ⟨c0, c1, c2, c9, c12⟩
  · exact ⟨c3, c4, c5, c10, c12⟩
  · exact ⟨c6, c7, c8, c11, c12⟩
theorem StB.frz (h : StB w g v n va l K) (o : Nat) : w.frozen? ⟨g, o, none⟩ = false := cells_frz h.box
theorem st_setK {e : TypeId} (h : w.heap[g]? = some (.cells (stCells v n va) e (0, 0))) {i : Nat} (hi : i < 3) (a b c : Value) :
    (((w.setCell ⟨g, i * 3, none⟩ a).setCell ⟨g, i * 3 + 1, none⟩ b).setCell ⟨g, i * 3 + 2, none⟩ c).heap[g]? = some (.cells (stCells (setK v i (a, b, c)) n va) e (0, 0)) := by
  have hW := cells_set (i := i * 3 + 2) (cells_set (i := i * 3 + 1) (cells_set (i := i * 3) h a) b) c
  rw [hW]
  rcases (show i = 0 ∨ i = 1 ∨ i = 2 by omega) with rfl | rfl | rfl <;> simp [stCells, setK]
/-- What one knows is laid into the state. -/
theorem StB.setK (h : StB w g v n va l K) {i : Nat} (hi : i < 3) {a b c : Value} {X : Kn} {ok : Nat → Prop} (ho : ∀ b, ok b → okS w g va b) (hr : X.1.rda w ok a b) (hc : SlA w ok 3 SpE c X.2) :
    StB (((w.setCell ⟨g, i * 3, none⟩ a).setCell ⟨g, i * 3 + 1, none⟩ b).setCell ⟨g, i * 3 + 2, none⟩ c) g (Proofs.YtlapdmgjfdelnaaGreat.setK v i (a, b, c)) n va l (Proofs.YtlapdmgjfdelnaaGreat.setK K i X) := by
  have hK : ∀ k, k ≠ g → (((w.setCell ⟨g, i * 3, none⟩ a).setCell ⟨g, i * 3 + 1, none⟩ b).setCell ⟨g, i * 3 + 2, none⟩ c).heap[k]? = w.heap[k]? := fun k hk => (Below.heap_setCell _ _ _ _ hk).trans ((Below.heap_setCell _ _ _ _ hk).trans (Below.heap_setCell _ _ _ _ hk))
  have hS : (((w.setCell ⟨g, i * 3, none⟩ a).setCell ⟨g, i * 3 + 1, none⟩ b).setCell ⟨g, i * 3 + 2, none⟩ c).heap.size = w.heap.size := by simp [World.setCell]
  have hk1 : ∀ k, okS w g va k → (((w.setCell ⟨g, i * 3, none⟩ a).setCell ⟨g, i * 3 + 1, none⟩ b).setCell ⟨g, i * 3 + 2, none⟩ c).heap[k]? = w.heap[k]? := fun k hk => hK k hk.1
  have hk2 : ∀ k, okS w g va k → okS (((w.setCell ⟨g, i * 3, none⟩ a).setCell ⟨g, i * 3 + 1, none⟩ b).setCell ⟨g, i * 3 + 2, none⟩ c) g va k := fun k hk => ⟨hk.1, by rw [hS]; exact hk.2.1, hk.2.2⟩
  refine ⟨st_setK h.box hi a b c, fun j hj => ?_, fun j hj => ?_, ?_⟩
  · unfold Proofs.YtlapdmgjfdelnaaGreat.setK
    split
    · exact rda_up (fun k hk => hk1 k (ho k hk)) (fun k hk => hk2 k (ho k hk)) _ _ _ hr
    · exact rda_up hk1 hk2 _ _ _ (h.tree j hj)
  · unfold Proofs.YtlapdmgjfdelnaaGreat.setK
    split
    · exact hc.up (fun k hk => hk1 k (ho k hk)) (fun k hk => hk2 k (ho k hk)) fun _ _ _ h => h
    · exact (h.ctx j hj).up hk1 hk2 fun _ _ _ h => h
  · have h1 := OwnP.keep (w' := (((w.setCell ⟨g, i * 3, none⟩ a).setCell ⟨g, i * 3 + 1, none⟩ b).setCell ⟨g, i * 3 + 2, none⟩ c)) h.own fun q hq => hK q (by have := (h.own.lt q hq).1; omega)
    exact h1.imp fun x _ cs hx => EvA.mon.up (fun k hk => hK k hk.1) (fun k hk => ⟨hk.1, by rw [hS]; exact hk.2.1, hk.2.2⟩) hx
/-- The state at the beginning. -/
theorem StB.start {w1 : World} : StB (w1.alloc (.cells #[.slice none 0 0, .slice none 0 0, .slice none 0 0, .slice none 0 0, .slice none 0 0, .slice none 0 0, .slice none 0 0, .slice none 0 0, .slice none 0 0, .int .i64 0, .int .i64 0, .int .i64 0, .slice none 0 0] 64)) w1.heap.size (fun _ => (.slice none 0 0, .slice none 0 0, .slice none 0 0)) (fun _ => 0) (.slice none 0 0) [] (fun _ => kn0) where
  box := heap_new rfl
  tree := fun _ _ => rda_nil _ _
  ctx := fun _ _ => SlA.nil
  own := OwnD.nil
end
end Go.Proofs.YtlapdmgjfdelnaaGreat
