/- What the laws need, part 1: tributarylaw14.small. No condition. The closure of ormap.Update: is a kid's key this one? No condition. ormap.Update. No condition but that there is not too much. tributarylaw14.awake answers true. No condition. ormap.Reset. No condition but that there are not too many entries. The law OrmapKeeps answers true. No condition. Four arguments, each read by itself. No condition. -/
import Derived.Test.YtkjijbogbelilaaGreatTc1
namespace Go.Proofs.YtkjijbogbelilaaGreat
open Go.RowKit
set_option maxRecDepth 100000

theorem small14_any (t : Tr) (w : World) (ve vk : Value) (h : t.rd w w.heap.size ve vk) :
    Calls Tryz.prog 75 #[.agg #[ve, vk]] w fun e w' => e = .returned (.bool (smlB t 60)) ∧ Below w.heap.size w w' := by
  have HC : Hid (∀ w', Below w.heap.size w w' → t.rd w' w'.heap.size ve vk) := fun w' hb => rd_below hb hb.size _ _ _ h
  obtain ⟨A3, n3, A4, n4, rfl, rfl⟩ := rd_shape h
  have hb0 := (Below.refl w.heap.size w).alloc (Nat.le_refl _) (.cells #[.slice A3 t.es.length n3, .slice A4 t.ks.length n4] 25)
  clear h
  go_enter Tryz.func75, Tryz.ntmps75
  go_wp2_with fail
  refine (r08small_any t _ _ _ 60 (HC.out _ hb0) (by omega) (by omega)).mono ?_
  rintro e w1 ⟨rfl, hb1⟩
  rw [show decide (0 ≤ t.room 60 8) = smlB t 60 from rfl]
  go_wp2_with fail
  go_ret
  exact ⟨rfl, hb0.trans (hb1.mono (by simp))⟩
theorem ks_sz (t : Tr) : t.ks.length ≤ t.sz := by
  obtain ⟨es, ks⟩ := t
  have := szL_len ks
  rw [Tr.sz]; simp only [Tr.ks]; omega
end Go.Proofs.YtkjijbogbelilaaGreat

namespace Go.Proofs.YtkjijbogbelilaaGreat
open Go.RowKit
set_option maxRecDepth 100000

theorem updClo_any (key x : ByteArray) (A A' : Option Addr) (n c n' c' : Nat) (B : Nat) (w : World) (hc : w.cell? ⟨B, 0, none⟩ = some (.string key)) (hB : B < w.heap.size) :
    Calls Tryz.prog 118 #[.agg #[.string x, .slice A n c, .slice A' n' c'], .pointer (some ⟨B, 0, none⟩)] w fun e w' => e = .returned (.bool (decide (x = key))) ∧ Below w.heap.size w w' := by
  have hne : B ≠ w.heap.size := by omega
  have HE : Hid ((x.toList == key.toList) = decide (x = key)) := by
    unfold Hid; rw [Bool.eq_iff_iff]; simp [bytes_inj]
  go_enter Tryz.func118, Tryz.ntmps118
  go_wp2_with fail
  go_ret
  exact ⟨ret_bool HE.out, by go_grown⟩
theorem updTest {key : ByteArray} {B : Nat} {w : World} (hc : w.cell? ⟨B, 0, none⟩ = some (.string key)) (hB : B < w.heap.size) : TestKid 118 #[.pointer (some ⟨B, 0, none⟩)] (fun x => decide (x = key)) w :=
  ⟨enters_of Tryz.func118 (by kernel_rfl) rfl, fun x A A' n c n' c' W _ hW => updClo_any key x A A' n c n' c' B W ((hW.cell (p := ⟨B, 0, none⟩) hB).trans hc) (by have := hW.size; omega)⟩
end Go.Proofs.YtkjijbogbelilaaGreat

namespace Go.Proofs.YtkjijbogbelilaaGreat
open Go.RowKit
set_option maxRecDepth 100000

/-- What ormap.Update tells: the error's number, the tree, the context. -/
def updE (t : Tr) (key : ByteArray) (D : Tr) (c : List Sp) : Int :=
  if !(t.right 5) || !caR D c || !keyB key then 1 else if !empB D.es.length D.ks.length && decide (24 ≤ t.ks.length) && !(t.ks.any fun y => decide (y.1 = key)) then 4 else wrapE D key
def updT (t : Tr) (key : ByteArray) (D : Tr) (c : List Sp) : Tr := if updE t key D c = 0 then wrapT D key else .mk [] []
def updC (t : Tr) (key : ByteArray) (D : Tr) (c : List Sp) : List Sp := if updE t key D c = 0 then c else []

theorem cell_box3n {w3 : World} {b : Nat} {x0 x1 x2 : Value} {a : Addr} {v : Value} (hne : b ≠ a.block) (h : w3.cell? a = some v) :
    (((w3.setCell ⟨b, 0, none⟩ x0).setCell ⟨b, 1, none⟩ x1).setCell ⟨b, 2, none⟩ x2).cell? a = some v := by
  rw [World.cell?_setCell_far _ _ _ _ hne, World.cell?_setCell_far _ _ _ _ hne, World.cell?_setCell_far _ _ _ _ hne]; exact h
set_option maxHeartbeats 4000000 in
theorem oupdate_any (t D : Tr) (c : List Sp) (key : ByteArray) (ve vk xe xk xc : Value) (w : World) (h : t.rd w w.heap.size ve vk) (hD : D.rd w w.heap.size xe xk) (hc : SlP w w.heap.size 3 SpE xc c) (hkey : key.size ≤ Big) (hN : t.sz ≤ 4000) (hN' : D.sz ≤ 4000) (hN2 : c.length ≤ 20000) :
    Calls Tryz.prog 77 #[.agg #[ve, vk], .string key, .agg #[xe, xk, xc]] w (RetCE w (updT t key D c) (updC t key D c) (updE t key D c)) := by
  have HT : Hid (∀ w', Below w.heap.size w w' → t.rd w' w'.heap.size ve vk) := fun w' hb => rd_below hb hb.size _ _ _ h
  have HD : Hid (∀ w', Below w.heap.size w w' → D.rd w' w'.heap.size xe xk) := fun w' hb => rd_below hb hb.size _ _ _ hD
  have HC : Hid (∀ w', Below w.heap.size w w' → SlP w' w'.heap.size 3 SpE xc c) := fun w' hb => hc.imp hb hb.size fun _ _ _ h => h
  have HKS : Hid (∀ w', Below w.heap.size w w' → SlP w' w'.heap.size 3 (KdE w' w'.heap.size) vk t.ks) := fun w' hb => by
    have := HT.out w' hb; obtain ⟨es, ks⟩ := t; exact (rd_iff.1 this).2
  obtain ⟨A3, n3, A4, n4, rfl, rfl⟩ := rd_shape h
  obtain ⟨A5, n5, A6, n6, rfl, rfl⟩ := rd_shape hD
  obtain ⟨A7, n7, rfl, _⟩ := hc
  have hkb : key.size ≤ 140737488355328 := hkey
  clear h hD
  have hb0 : Below w.heap.size w ((((w.alloc (.cells #[.slice A3 t.es.length n3, .slice A4 t.ks.length n4] 25)).alloc (.cells #[.string key] 9)).alloc (.cells #[.slice A5 D.es.length n5, .slice A6 D.ks.length n6, .slice A7 c.length n7] 29)).alloc (.cells #[.slice none 0 0, .slice none 0 0, .slice none 0 0] 29)) :=
    ((((Below.refl _ w).alloc (Nat.le_refl _) _).alloc (by simp) _).alloc (by simp <;> omega) _).alloc (by simp <;> omega) _
  have HW : Hid (∀ w', Below (w.heap.size + 4) ((((w.alloc (.cells #[.slice A3 t.es.length n3, .slice A4 t.ks.length n4] 25)).alloc (.cells #[.string key] 9)).alloc (.cells #[.slice A5 D.es.length n5, .slice A6 D.ks.length n6, .slice A7 c.length n7] 29)).alloc (.cells #[.slice none 0 0, .slice none 0 0, .slice none 0 0] 29)) w' →
      Below w.heap.size w w' ∧ w.heap.size + 4 ≤ w'.heap.size ∧ w'.heap[w.heap.size]? = some (.cells #[.slice A3 t.es.length n3, .slice A4 t.ks.length n4] 25 (0, 0)) ∧ w'.heap[w.heap.size + 1]? = some (.cells #[.string key] 9 (0, 0)) ∧
      w'.heap[w.heap.size + 2]? = some (.cells #[.slice A5 D.es.length n5, .slice A6 D.ks.length n6, .slice A7 c.length n7] 29 (0, 0)) ∧ w'.heap[w.heap.size + 3]? = some (.cells #[.slice none 0 0, .slice none 0 0, .slice none 0 0] 29 (0, 0))) := fun w' hb =>
    ⟨hb0.trans (hb.mono (by omega)), by have := hb.size; simpa using this, (hb.block _ (by omega)).trans ((heap_old (by simp <;> omega)).trans ((heap_old (by simp <;> omega)).trans ((heap_old (by simp)).trans (heap_new rfl)))), (hb.block _ (by omega)).trans ((heap_old (by simp <;> omega)).trans ((heap_old (by simp)).trans (heap_new (by simp)))), (hb.block _ (by omega)).trans ((heap_old (by simp)).trans (heap_new (by simp))), (hb.block _ (by omega)).trans (heap_new (by simp))⟩
  go_enter Tryz.func77, Tryz.ntmps77
  go_wp2_with fail
  refine (tRight_any t _ _ _ (HT.out _ hb0)).mono ?_
  rintro e w1 ⟨rfl, hb1⟩
  have hb1' := hid (hb1.mono (show w.heap.size + 4 ≤ _ by simp))
  obtain ⟨hB1, hs1, g3, g4, g5, g6⟩ := HW.out _ hb1'.out
  have HG6 := hid g6
  have c0 : w1.cell? ⟨w.heap.size, 0, none⟩ = some (.slice A3 t.es.length n3) := cell_cells (i := 0) g3
  have c1 : w1.cell? ⟨w.heap.size, 1, none⟩ = some (.slice A4 t.ks.length n4) := cell_cells (i := 1) g3
  have d0 : w1.cell? ⟨w.heap.size + 1, 0, none⟩ = some (.string key) := cell_cells (i := 0) g4
  have e0 : w1.cell? ⟨w.heap.size + 2, 0, none⟩ = some (.slice A5 D.es.length n5) := cell_cells (i := 0) g5
  have e1 : w1.cell? ⟨w.heap.size + 2, 1, none⟩ = some (.slice A6 D.ks.length n6) := cell_cells (i := 1) g5
  have e2 : w1.cell? ⟨w.heap.size + 2, 2, none⟩ = some (.slice A7 c.length n7) := cell_cells (i := 2) g5
  have k0 : w1.cell? ⟨w.heap.size + 3, 0, none⟩ = some (.slice none 0 0) := cell_cells (i := 0) g6
  have k1 : w1.cell? ⟨w.heap.size + 3, 1, none⟩ = some (.slice none 0 0) := cell_cells (i := 1) g6
  have k2 : w1.cell? ⟨w.heap.size + 3, 2, none⟩ = some (.slice none 0 0) := cell_cells (i := 2) g6
  have z0 := cells_frz (i := 0) g6
  have z1 := cells_frz (i := 1) g6
  have z2 := cells_frz (i := 2) g6
  clear g3 g4 g5 g6
  clear hb1
  cases hr : t.right 5
  · have HE : Hid (updE t key D c = 1) := by unfold Hid updE; rw [hr]; rfl
    have HTT : Hid (updT t key D c = .mk [] []) := by unfold Hid updT; rw [HE.out]; rfl
    have HCC : Hid (updC t key D c = []) := by unfold Hid updC; rw [HE.out]; rfl
    clear hr
    go_wp2_with fail
    obtain ⟨r0, r1, r2, hK, hS⟩ := box3 HG6.out (.slice none 0 0) (.slice none 0 0) (.slice none 0 0)
    have hBW := ((hB1.setCell (p := ⟨w.heap.size + 3, 0, none⟩) (by simp) (.slice none 0 0)).setCell (p := ⟨w.heap.size + 3, 1, none⟩) (by simp) (.slice none 0 0)).setCell (p := ⟨w.heap.size + 3, 2, none⟩) (by simp) (.slice none 0 0)
    refine bodyPost_ret (v := .tuple #[.agg #[.slice none 0 0, .slice none 0 0, .slice none 0 0], .int .i64 1]) (by simp [results, Tryz.results77, go_sem, r0, r1, r2]) rfl ⟨_, _, _, by rw [HE.out], by rw [HTT.out]; exact rda_nil _ _, by rw [HCC.out]; exact SlA.nil, hBW⟩
  go_wp2_with fail
  refine (caright_any D c _ _ _ w1 (HD.out _ hB1) (HC.out _ hB1) hN' hN2).mono ?_
  rintro e w2 ⟨rfl, hb2⟩
  clear c0 c1 d0 e0 e1 e2 k0 k1 k2 z0 z1 z2 HG6
  have hb2' := hid (hb1'.out.trans (hb2.mono hs1))
  obtain ⟨hB2, hs2, g3, g4, g5, g6⟩ := HW.out _ hb2'.out
  have HG6 := hid g6
  have c0 : w2.cell? ⟨w.heap.size, 0, none⟩ = some (.slice A3 t.es.length n3) := cell_cells (i := 0) g3
  have c1 : w2.cell? ⟨w.heap.size, 1, none⟩ = some (.slice A4 t.ks.length n4) := cell_cells (i := 1) g3
  have d0 : w2.cell? ⟨w.heap.size + 1, 0, none⟩ = some (.string key) := cell_cells (i := 0) g4
  have e0 : w2.cell? ⟨w.heap.size + 2, 0, none⟩ = some (.slice A5 D.es.length n5) := cell_cells (i := 0) g5
  have e1 : w2.cell? ⟨w.heap.size + 2, 1, none⟩ = some (.slice A6 D.ks.length n6) := cell_cells (i := 1) g5
  have e2 : w2.cell? ⟨w.heap.size + 2, 2, none⟩ = some (.slice A7 c.length n7) := cell_cells (i := 2) g5
  have k0 : w2.cell? ⟨w.heap.size + 3, 0, none⟩ = some (.slice none 0 0) := cell_cells (i := 0) g6
  have k1 : w2.cell? ⟨w.heap.size + 3, 1, none⟩ = some (.slice none 0 0) := cell_cells (i := 1) g6
  have k2 : w2.cell? ⟨w.heap.size + 3, 2, none⟩ = some (.slice none 0 0) := cell_cells (i := 2) g6
  have z0 := cells_frz (i := 0) g6
  have z1 := cells_frz (i := 1) g6
  have z2 := cells_frz (i := 2) g6
  clear g3 g4 g5 g6
  clear hb2
  cases hq : caR D c
  · have HE : Hid (updE t key D c = 1) := by unfold Hid updE; rw [hr, hq]; rfl
    have HTT : Hid (updT t key D c = .mk [] []) := by unfold Hid updT; rw [HE.out]; rfl
    have HCC : Hid (updC t key D c = []) := by unfold Hid updC; rw [HE.out]; rfl
    clear hr hq
    go_wp2_with fail
    obtain ⟨r0, r1, r2, hK, hS⟩ := box3 HG6.out (.slice none 0 0) (.slice none 0 0) (.slice none 0 0)
    have hBW := ((hB2.setCell (p := ⟨w.heap.size + 3, 0, none⟩) (by simp) (.slice none 0 0)).setCell (p := ⟨w.heap.size + 3, 1, none⟩) (by simp) (.slice none 0 0)).setCell (p := ⟨w.heap.size + 3, 2, none⟩) (by simp) (.slice none 0 0)
    refine bodyPost_ret (v := .tuple #[.agg #[.slice none 0 0, .slice none 0 0, .slice none 0 0], .int .i64 1]) (by simp [results, Tryz.results77, go_sem, r0, r1, r2]) rfl ⟨_, _, _, by rw [HE.out], by rw [HTT.out]; exact rda_nil _ _, by rw [HCC.out]; exact SlA.nil, hBW⟩
  cases kb : keyB key
  · have hkb2 : ¬ (1 ≤ key.size ∧ key.size ≤ 30) := by simpa [keyB] using kb
    have HE : Hid (updE t key D c = 1) := by unfold Hid updE; rw [hr, hq, kb]; rfl
    have HTT : Hid (updT t key D c = .mk [] []) := by unfold Hid updT; rw [HE.out]; rfl
    have HCC : Hid (updC t key D c = []) := by unfold Hid updC; rw [HE.out]; rfl
    clear hr hq kb
    by_cases hz : key.size < 1
    · have t1 : decide ((key.size : Int) < 1) = true := by simp; omega
      go_wp2_with fail
      obtain ⟨r0, r1, r2, hK, hS⟩ := box3 HG6.out (.slice none 0 0) (.slice none 0 0) (.slice none 0 0)
      have hBW := ((hB2.setCell (p := ⟨w.heap.size + 3, 0, none⟩) (by simp) (.slice none 0 0)).setCell (p := ⟨w.heap.size + 3, 1, none⟩) (by simp) (.slice none 0 0)).setCell (p := ⟨w.heap.size + 3, 2, none⟩) (by simp) (.slice none 0 0)
      refine bodyPost_ret (v := .tuple #[.agg #[.slice none 0 0, .slice none 0 0, .slice none 0 0], .int .i64 1]) (by simp [results, Tryz.results77, go_sem, r0, r1, r2]) rfl ⟨_, _, _, by rw [HE.out], by rw [HTT.out]; exact rda_nil _ _, by rw [HCC.out]; exact SlA.nil, hBW⟩
    · have t1 : decide ((key.size : Int) < 1) = false := by simp; omega
      have t2 : decide ((30 : Int) < key.size) = true := by simp; omega
      go_wp2_with fail
      obtain ⟨r0, r1, r2, hK, hS⟩ := box3 HG6.out (.slice none 0 0) (.slice none 0 0) (.slice none 0 0)
      have hBW := ((hB2.setCell (p := ⟨w.heap.size + 3, 0, none⟩) (by simp) (.slice none 0 0)).setCell (p := ⟨w.heap.size + 3, 1, none⟩) (by simp) (.slice none 0 0)).setCell (p := ⟨w.heap.size + 3, 2, none⟩) (by simp) (.slice none 0 0)
      refine bodyPost_ret (v := .tuple #[.agg #[.slice none 0 0, .slice none 0 0, .slice none 0 0], .int .i64 1]) (by simp [results, Tryz.results77, go_sem, r0, r1, r2]) rfl ⟨_, _, _, by rw [HE.out], by rw [HTT.out]; exact rda_nil _ _, by rw [HCC.out]; exact SlA.nil, hBW⟩
  have hkb2 : 1 ≤ key.size ∧ key.size ≤ 30 := by simpa [keyB] using kb
  have t1 : decide ((key.size : Int) < 1) = false := by simp; omega
  have t2 : decide ((30 : Int) < key.size) = false := by simp; omega
  go_wp2_with fail
  refine (conKid_any (fun y => decide (y = key)) _ _ t.ks _ w2 (HKS.out _ hB2) (updTest d0 (by omega))).mono ?_
  rintro e w3 ⟨rfl, hb3⟩
  clear c0 c1 d0 e0 e1 e2 k0 k1 k2 z0 z1 z2 HG6
  have hb3' := hid (hb2'.out.trans (hb3.mono hs2))
  obtain ⟨hB3, hs3, g3, g4, g5, g6⟩ := HW.out _ hb3'.out
  have HG6 := hid g6
  have c0 : w3.cell? ⟨w.heap.size, 0, none⟩ = some (.slice A3 t.es.length n3) := cell_cells (i := 0) g3
  have c1 : w3.cell? ⟨w.heap.size, 1, none⟩ = some (.slice A4 t.ks.length n4) := cell_cells (i := 1) g3
  have d0 : w3.cell? ⟨w.heap.size + 1, 0, none⟩ = some (.string key) := cell_cells (i := 0) g4
  have e0 : w3.cell? ⟨w.heap.size + 2, 0, none⟩ = some (.slice A5 D.es.length n5) := cell_cells (i := 0) g5
  have e1 : w3.cell? ⟨w.heap.size + 2, 1, none⟩ = some (.slice A6 D.ks.length n6) := cell_cells (i := 1) g5
  have e2 : w3.cell? ⟨w.heap.size + 2, 2, none⟩ = some (.slice A7 c.length n7) := cell_cells (i := 2) g5
  have k0 : w3.cell? ⟨w.heap.size + 3, 0, none⟩ = some (.slice none 0 0) := cell_cells (i := 0) g6
  have k1 : w3.cell? ⟨w.heap.size + 3, 1, none⟩ = some (.slice none 0 0) := cell_cells (i := 1) g6
  have k2 : w3.cell? ⟨w.heap.size + 3, 2, none⟩ = some (.slice none 0 0) := cell_cells (i := 2) g6
  have z0 := cells_frz (i := 0) g6
  have z1 := cells_frz (i := 1) g6
  have z2 := cells_frz (i := 2) g6
  clear g3 g4 g5 g6
  clear hb3
  go_wp2_with fail
  refine (tempty_any D.es.length D.ks.length A5 A6 n5 n6 w3).mono ?_
  rintro e w4 ⟨rfl, hb4⟩
  clear c0 c1 d0 e0 e1 e2 k0 k1 k2 z0 z1 z2 HG6
  have hb4' := hid (hb3'.out.trans (hb4.mono hs3))
  obtain ⟨hB4, hs4, g3, g4, g5, g6⟩ := HW.out _ hb4'.out
  have HG6 := hid g6
  have c0 : w4.cell? ⟨w.heap.size, 0, none⟩ = some (.slice A3 t.es.length n3) := cell_cells (i := 0) g3
  have c1 : w4.cell? ⟨w.heap.size, 1, none⟩ = some (.slice A4 t.ks.length n4) := cell_cells (i := 1) g3
  have d0 : w4.cell? ⟨w.heap.size + 1, 0, none⟩ = some (.string key) := cell_cells (i := 0) g4
  have e0 : w4.cell? ⟨w.heap.size + 2, 0, none⟩ = some (.slice A5 D.es.length n5) := cell_cells (i := 0) g5
  have e1 : w4.cell? ⟨w.heap.size + 2, 1, none⟩ = some (.slice A6 D.ks.length n6) := cell_cells (i := 1) g5
  have e2 : w4.cell? ⟨w.heap.size + 2, 2, none⟩ = some (.slice A7 c.length n7) := cell_cells (i := 2) g5
  have k0 : w4.cell? ⟨w.heap.size + 3, 0, none⟩ = some (.slice none 0 0) := cell_cells (i := 0) g6
  have k1 : w4.cell? ⟨w.heap.size + 3, 1, none⟩ = some (.slice none 0 0) := cell_cells (i := 1) g6
  have k2 : w4.cell? ⟨w.heap.size + 3, 2, none⟩ = some (.slice none 0 0) := cell_cells (i := 2) g6
  have z0 := cells_frz (i := 0) g6
  have z1 := cells_frz (i := 1) g6
  have z2 := cells_frz (i := 2) g6
  clear g3 g4 g5 g6
  clear hb4
  have hfi : decide ((24 : Int) ≤ (t.ks.length : Int)) = decide (24 ≤ t.ks.length) := by rw [Bool.eq_iff_iff]; simp; omega
  cases em : empB D.es.length D.ks.length
  · cases fl : decide (24 ≤ t.ks.length)
    · have HE0 : Hid (updE t key D c = wrapE D key) := by unfold Hid updE; rw [hr, hq, kb, em, fl]; simp
      rw [fl] at hfi
      clear em fl
      clear hr hq kb
      go_wp2_with fail
      refine (twrap_any D key _ _ _ _ (HD.out _ (hB4.alloc (by omega) _)) (SlP.oneB (x := key) (cs := [.string key]) ⟨rfl, hkey⟩ rfl _ rfl (by simp)) (by omega)).mono ?_
      rintro e w5 ⟨v5, u5, rfl, hrd5, hb5⟩
      obtain ⟨A8, n8, A9, n9, rfl, rfl⟩ := rda_shape hrd5
      clear c0 c1 d0 e0 e1 e2 k0 k1 k2 z0 z1 z2 HG6
      have hb5' := hid (hb4'.out.trans ((((Below.refl w4.heap.size w4).alloc (Nat.le_refl _) _).trans (hb5.mono (show w4.heap.size ≤ _ by simp))).mono hs4))
      obtain ⟨hB5, hs5, g3, g4, g5, g6⟩ := HW.out _ hb5'.out
      have HG6 := hid g6
      have c0 : w5.cell? ⟨w.heap.size, 0, none⟩ = some (.slice A3 t.es.length n3) := cell_cells (i := 0) g3
      have c1 : w5.cell? ⟨w.heap.size, 1, none⟩ = some (.slice A4 t.ks.length n4) := cell_cells (i := 1) g3
      have d0 : w5.cell? ⟨w.heap.size + 1, 0, none⟩ = some (.string key) := cell_cells (i := 0) g4
      have e0 : w5.cell? ⟨w.heap.size + 2, 0, none⟩ = some (.slice A5 D.es.length n5) := cell_cells (i := 0) g5
      have e1 : w5.cell? ⟨w.heap.size + 2, 1, none⟩ = some (.slice A6 D.ks.length n6) := cell_cells (i := 1) g5
      have e2 : w5.cell? ⟨w.heap.size + 2, 2, none⟩ = some (.slice A7 c.length n7) := cell_cells (i := 2) g5
      have k0 : w5.cell? ⟨w.heap.size + 3, 0, none⟩ = some (.slice none 0 0) := cell_cells (i := 0) g6
      have k1 : w5.cell? ⟨w.heap.size + 3, 1, none⟩ = some (.slice none 0 0) := cell_cells (i := 1) g6
      have k2 : w5.cell? ⟨w.heap.size + 3, 2, none⟩ = some (.slice none 0 0) := cell_cells (i := 2) g6
      have z0 := cells_frz (i := 0) g6
      have z1 := cells_frz (i := 1) g6
      have z2 := cells_frz (i := 2) g6
      clear g3 g4 g5 g6
      have hs5' := hb5.size
      simp only [World.size_alloc] at hs5'
      clear hb5
      have hlt3 : w.heap.size + 3 < w5.heap.size := by omega
      have hne3 : w.heap.size + 3 ≠ w5.heap.size := by omega
      have hlt2 : w.heap.size + 2 < w5.heap.size := by omega
      have hne2 : w.heap.size + 2 ≠ w5.heap.size := by omega
      have hw3 : wrapE D key = 0 ∨ wrapE D key = 1 ∨ wrapE D key = 10 := by unfold wrapE; split <;> (try split) <;> simp
      have HTX : Hid (updT t key D c = if wrapE D key = 0 then wrapT D key else .mk [] []) := by unfold Hid updT; rw [HE0.out]
      have HCX : Hid (updC t key D c = if wrapE D key = 0 then c else []) := by unfold Hid updC; rw [HE0.out]
      rw [HE0.out]
      generalize wrapE D key = K at *
      generalize wrapT D key = T at *
      rcases hw3 with rfl | rfl | rfl
      · have HX : Hid (∀ w', Below (w5.heap.size + 1) (w5.alloc (.cells #[.slice A8 T.es.length n8, .slice A9 T.ks.length n9] 25)) w' → Below w5.heap.size w5 w' ∧ (w'.cell? ⟨w.heap.size + 2, 2, none⟩ = some (.slice A7 c.length n7) ∧ w'.cell? ⟨w5.heap.size, 0, none⟩ = some (.slice A8 T.es.length n8) ∧ w'.cell? ⟨w5.heap.size, 1, none⟩ = some (.slice A9 T.ks.length n9))) := fun w' hb => by
          have hB : Below w5.heap.size w5 w' := ((Below.refl _ w5).alloc (Nat.le_refl _) _).trans (hb.mono (by omega))
          refine ⟨hB, (hB.cell (p := ⟨w.heap.size + 2, 2, none⟩) (by show w.heap.size + 2 < _; omega)).trans e2, ?_, ?_⟩
          · rw [hb.cell (p := ⟨w5.heap.size, 0, none⟩) (by simp), World.cell?_alloc_new]; rfl
          · rw [hb.cell (p := ⟨w5.heap.size, 1, none⟩) (by simp), World.cell?_alloc_new]; rfl
        clear c0 c1 d0 e0 e1 k0 k1 k2 z0 z1 z2
        go_upto_region 9 with (fail)
        go_region_held3 (fun w' => w'.cell? ⟨w.heap.size + 2, 2, none⟩ = some (.slice A7 c.length n7) ∧ w'.cell? ⟨w5.heap.size, 0, none⟩ = some (.slice A8 T.es.length n8) ∧ w'.cell? ⟨w5.heap.size, 1, none⟩ = some (.slice A9 T.ks.length n9))
          (first | go_keep | exact (HX.out _ hbx.out).2 | exact ⟨cell_box3n (by simp) (HX.out _ hbx.out).2.1, cell_box3n (by show w.heap.size + 3 ≠ _; omega) (HX.out _ hbx.out).2.2.1, cell_box3n (by show w.heap.size + 3 ≠ _; omega) (HX.out _ hbx.out).2.2.2⟩)
          (first | (go_at_call 98; go_loud ((refine (cloneC_any c _ _ (HC.out _ ((hB5.alloc (by omega) _).drew)) (by unfold Few; omega)).mono ?_); rintro e w6 ⟨v6, rfl, ho6, hb6⟩; obtain ⟨A10, c10, hv6⟩ := ho6.shape; subst hv6; have HO6 := hid ho6; have hbx : Hid (Below (w5.heap.size + 1) (w5.alloc (.cells #[.slice A8 T.es.length n8, .slice A9 T.ks.length n9] 25)) w6) := (((Below.refl (w5.heap.size + 1) (w5.alloc (.cells #[.slice A8 T.es.length n8, .slice A9 T.ks.length n9] 25))).drew).trans (hb6.mono (by simp))); have hby := hid (HX.out _ hbx.out).1; have hs6 : w5.heap.size + 1 ≤ w6.heap.size := (by have := hbx.out.size; simpa using this); have HGx := hid ((hby.out.block (w.heap.size + 3) (by omega)).trans HG6.out); have k0 : w6.cell? ⟨w.heap.size + 3, 0, none⟩ = some (.slice none 0 0) := cell_cells (i := 0) HGx.out; have k1 : w6.cell? ⟨w.heap.size + 3, 1, none⟩ = some (.slice none 0 0) := cell_cells (i := 1) HGx.out; have k2 : w6.cell? ⟨w.heap.size + 3, 2, none⟩ = some (.slice none 0 0) := cell_cells (i := 2) HGx.out; have z0 := cells_frz (i := 0) HGx.out; have z1 := cells_frz (i := 1) HGx.out; have z2 := cells_frz (i := 2) HGx.out; have hlt6 : w.heap.size + 3 < w6.heap.size := (by omega); have hne6 : w.heap.size + 3 ≠ w6.heap.size := (by omega); clear ho6 hb6)))
        all_goals go_wp2_with fail
        obtain ⟨r0, r1, r2, hK, hS⟩ := box3 HGx.out (.slice A8 T.es.length n8) (.slice A9 T.ks.length n9) (.slice A10 c.length c10)
        have hBW : Below w.heap.size w (((w6.setCell ⟨w.heap.size + 3, 0, none⟩ (.slice A8 T.es.length n8)).setCell ⟨w.heap.size + 3, 1, none⟩ (.slice A9 T.ks.length n9)).setCell ⟨w.heap.size + 3, 2, none⟩ (.slice A10 c.length c10)) := (((hB5.trans (hby.out.mono (by omega))).setCell (by simp) _).setCell (by simp) _).setCell (by simp) _
        clear k0 k1 k2 z0 z1 z2
        generalize (((w6.setCell ⟨w.heap.size + 3, 0, none⟩ (.slice A8 T.es.length n8)).setCell ⟨w.heap.size + 3, 1, none⟩ (.slice A9 T.ks.length n9)).setCell ⟨w.heap.size + 3, 2, none⟩ (.slice A10 c.length c10)) = W at *
        refine bodyPost_ret (v := .tuple #[.agg #[.slice A8 T.es.length n8, .slice A9 T.ks.length n9, .slice A10 c.length c10], .int .i64 0]) (by simp [results, Tryz.results77, go_sem, r0, r1, r2]) rfl ⟨_, _, _, by rw [HE0.out], ?_, ?_, hBW⟩
        · rw [HTX.out, if_pos trivial]
          exact rda_up (fun b hb => (hK b (by have := hb.1; simp only [World.size_alloc] at this; omega)).trans (hby.out.block b hb.2)) (fun b hb => ⟨by have := hb.1; simp only [World.size_alloc] at this; omega, by have := hb.2; omega⟩) _ _ _ hrd5
        · rw [HCX.out, if_pos trivial]
          refine (HO6.out.sla (by unfold Big; omega)).up (fun b hb => hK b (by have := hb.1; simp only [World.size_alloc, World.size_drew] at this; omega)) (fun b hb => ⟨by have := hb.1; simp only [World.size_alloc, World.size_drew] at this; omega, by have := hb.2.1; omega⟩) (fun _ _ _ h => h)
      · go_wp2_with fail
        obtain ⟨r0, r1, r2, hK, hS⟩ := box3 HG6.out (.slice none 0 0) (.slice none 0 0) (.slice none 0 0)
        have hBW : Below w.heap.size w (((w5.setCell ⟨w.heap.size + 3, 0, none⟩ (.slice none 0 0)).setCell ⟨w.heap.size + 3, 1, none⟩ (.slice none 0 0)).setCell ⟨w.heap.size + 3, 2, none⟩ (.slice none 0 0)) := ((hB5.setCell (by simp) _).setCell (by simp) _).setCell (by simp) _
        clear c0 c1 d0 e0 e1 e2 k0 k1 k2 z0 z1 z2
        generalize (((w5.setCell ⟨w.heap.size + 3, 0, none⟩ (.slice none 0 0)).setCell ⟨w.heap.size + 3, 1, none⟩ (.slice none 0 0)).setCell ⟨w.heap.size + 3, 2, none⟩ (.slice none 0 0)) = W at *
        have q0 : (W.alloc (.cells #[.slice A8 T.es.length n8, .slice A9 T.ks.length n9] 25)).cell? ⟨w.heap.size + 1 + 1 + 1, 0, none⟩ = some (.slice none 0 0) := by rw [World.cell?_alloc_lt _ _ _ (by show w.heap.size + 3 < _; omega)]; exact r0
        have q1 : (W.alloc (.cells #[.slice A8 T.es.length n8, .slice A9 T.ks.length n9] 25)).cell? ⟨w.heap.size + 1 + 1 + 1, 1, none⟩ = some (.slice none 0 0) := by rw [World.cell?_alloc_lt _ _ _ (by show w.heap.size + 3 < _; omega)]; exact r1
        have q2 : (W.alloc (.cells #[.slice A8 T.es.length n8, .slice A9 T.ks.length n9] 25)).cell? ⟨w.heap.size + 1 + 1 + 1, 2, none⟩ = some (.slice none 0 0) := by rw [World.cell?_alloc_lt _ _ _ (by show w.heap.size + 3 < _; omega)]; exact r2
        refine bodyPost_ret (v := .tuple #[.agg #[.slice none 0 0, .slice none 0 0, .slice none 0 0], .int .i64 1]) (by simp [results, Tryz.results77, go_sem, q0, q1, q2]) rfl ⟨_, _, _, by rw [HE0.out], by rw [HTX.out, if_neg (by decide)]; exact rda_nil _ _, by rw [HCX.out, if_neg (by decide)]; exact SlA.nil, hBW.alloc (by omega) _⟩
      · go_wp2_with fail
        obtain ⟨r0, r1, r2, hK, hS⟩ := box3 HG6.out (.slice none 0 0) (.slice none 0 0) (.slice none 0 0)
        have hBW : Below w.heap.size w (((w5.setCell ⟨w.heap.size + 3, 0, none⟩ (.slice none 0 0)).setCell ⟨w.heap.size + 3, 1, none⟩ (.slice none 0 0)).setCell ⟨w.heap.size + 3, 2, none⟩ (.slice none 0 0)) := ((hB5.setCell (by simp) _).setCell (by simp) _).setCell (by simp) _
        clear c0 c1 d0 e0 e1 e2 k0 k1 k2 z0 z1 z2
        generalize (((w5.setCell ⟨w.heap.size + 3, 0, none⟩ (.slice none 0 0)).setCell ⟨w.heap.size + 3, 1, none⟩ (.slice none 0 0)).setCell ⟨w.heap.size + 3, 2, none⟩ (.slice none 0 0)) = W at *
        have q0 : (W.alloc (.cells #[.slice A8 T.es.length n8, .slice A9 T.ks.length n9] 25)).cell? ⟨w.heap.size + 1 + 1 + 1, 0, none⟩ = some (.slice none 0 0) := by rw [World.cell?_alloc_lt _ _ _ (by show w.heap.size + 3 < _; omega)]; exact r0
        have q1 : (W.alloc (.cells #[.slice A8 T.es.length n8, .slice A9 T.ks.length n9] 25)).cell? ⟨w.heap.size + 1 + 1 + 1, 1, none⟩ = some (.slice none 0 0) := by rw [World.cell?_alloc_lt _ _ _ (by show w.heap.size + 3 < _; omega)]; exact r1
        have q2 : (W.alloc (.cells #[.slice A8 T.es.length n8, .slice A9 T.ks.length n9] 25)).cell? ⟨w.heap.size + 1 + 1 + 1, 2, none⟩ = some (.slice none 0 0) := by rw [World.cell?_alloc_lt _ _ _ (by show w.heap.size + 3 < _; omega)]; exact r2
        refine bodyPost_ret (v := .tuple #[.agg #[.slice none 0 0, .slice none 0 0, .slice none 0 0], .int .i64 10]) (by simp [results, Tryz.results77, go_sem, q0, q1, q2]) rfl ⟨_, _, _, by rw [HE0.out], by rw [HTX.out, if_neg (by decide)]; exact rda_nil _ _, by rw [HCX.out, if_neg (by decide)]; exact SlA.nil, hBW.alloc (by omega) _⟩
    · rw [fl] at hfi
      cases an : (t.ks.any fun y => decide (y.1 = key))
      · have HE : Hid (updE t key D c = 4) := by unfold Hid updE; rw [hr, hq, kb, em, fl, an]; rfl
        have HTT : Hid (updT t key D c = .mk [] []) := by unfold Hid updT; rw [HE.out]; rfl
        have HCC : Hid (updC t key D c = []) := by unfold Hid updC; rw [HE.out]; rfl
        clear hr hq kb em fl an
        go_wp2_with fail
        obtain ⟨r0, r1, r2, hK, hS⟩ := box3 HG6.out (.slice none 0 0) (.slice none 0 0) (.slice none 0 0)
        have hBW := ((hB4.setCell (p := ⟨w.heap.size + 3, 0, none⟩) (by simp) (.slice none 0 0)).setCell (p := ⟨w.heap.size + 3, 1, none⟩) (by simp) (.slice none 0 0)).setCell (p := ⟨w.heap.size + 3, 2, none⟩) (by simp) (.slice none 0 0)
        refine bodyPost_ret (v := .tuple #[.agg #[.slice none 0 0, .slice none 0 0, .slice none 0 0], .int .i64 4]) (by simp [results, Tryz.results77, go_sem, r0, r1, r2]) rfl ⟨_, _, _, by rw [HE.out], by rw [HTT.out]; exact rda_nil _ _, by rw [HCC.out]; exact SlA.nil, hBW⟩
      · have HE0 : Hid (updE t key D c = wrapE D key) := by unfold Hid updE; rw [hr, hq, kb, em, fl, an]; simp
        clear em fl an
        clear hr hq kb
        go_wp2_with fail
        refine (twrap_any D key _ _ _ _ (HD.out _ (hB4.alloc (by omega) _)) (SlP.oneB (x := key) (cs := [.string key]) ⟨rfl, hkey⟩ rfl _ rfl (by simp)) (by omega)).mono ?_
        rintro e w5 ⟨v5, u5, rfl, hrd5, hb5⟩
        obtain ⟨A8, n8, A9, n9, rfl, rfl⟩ := rda_shape hrd5
        clear c0 c1 d0 e0 e1 e2 k0 k1 k2 z0 z1 z2 HG6
        have hb5' := hid (hb4'.out.trans ((((Below.refl w4.heap.size w4).alloc (Nat.le_refl _) _).trans (hb5.mono (show w4.heap.size ≤ _ by simp))).mono hs4))
        obtain ⟨hB5, hs5, g3, g4, g5, g6⟩ := HW.out _ hb5'.out
        have HG6 := hid g6
        have c0 : w5.cell? ⟨w.heap.size, 0, none⟩ = some (.slice A3 t.es.length n3) := cell_cells (i := 0) g3
        have c1 : w5.cell? ⟨w.heap.size, 1, none⟩ = some (.slice A4 t.ks.length n4) := cell_cells (i := 1) g3
        have d0 : w5.cell? ⟨w.heap.size + 1, 0, none⟩ = some (.string key) := cell_cells (i := 0) g4
        have e0 : w5.cell? ⟨w.heap.size + 2, 0, none⟩ = some (.slice A5 D.es.length n5) := cell_cells (i := 0) g5
        have e1 : w5.cell? ⟨w.heap.size + 2, 1, none⟩ = some (.slice A6 D.ks.length n6) := cell_cells (i := 1) g5
        have e2 : w5.cell? ⟨w.heap.size + 2, 2, none⟩ = some (.slice A7 c.length n7) := cell_cells (i := 2) g5
        have k0 : w5.cell? ⟨w.heap.size + 3, 0, none⟩ = some (.slice none 0 0) := cell_cells (i := 0) g6
        have k1 : w5.cell? ⟨w.heap.size + 3, 1, none⟩ = some (.slice none 0 0) := cell_cells (i := 1) g6
        have k2 : w5.cell? ⟨w.heap.size + 3, 2, none⟩ = some (.slice none 0 0) := cell_cells (i := 2) g6
        have z0 := cells_frz (i := 0) g6
        have z1 := cells_frz (i := 1) g6
        have z2 := cells_frz (i := 2) g6
        clear g3 g4 g5 g6
        have hs5' := hb5.size
        simp only [World.size_alloc] at hs5'
        clear hb5
        have hlt3 : w.heap.size + 3 < w5.heap.size := by omega
        have hne3 : w.heap.size + 3 ≠ w5.heap.size := by omega
        have hlt2 : w.heap.size + 2 < w5.heap.size := by omega
        have hne2 : w.heap.size + 2 ≠ w5.heap.size := by omega
        have hw3 : wrapE D key = 0 ∨ wrapE D key = 1 ∨ wrapE D key = 10 := by unfold wrapE; split <;> (try split) <;> simp
        have HTX : Hid (updT t key D c = if wrapE D key = 0 then wrapT D key else .mk [] []) := by unfold Hid updT; rw [HE0.out]
        have HCX : Hid (updC t key D c = if wrapE D key = 0 then c else []) := by unfold Hid updC; rw [HE0.out]
        rw [HE0.out]
        generalize wrapE D key = K at *
        generalize wrapT D key = T at *
        rcases hw3 with rfl | rfl | rfl
        · have HX : Hid (∀ w', Below (w5.heap.size + 1) (w5.alloc (.cells #[.slice A8 T.es.length n8, .slice A9 T.ks.length n9] 25)) w' → Below w5.heap.size w5 w' ∧ (w'.cell? ⟨w.heap.size + 2, 2, none⟩ = some (.slice A7 c.length n7) ∧ w'.cell? ⟨w5.heap.size, 0, none⟩ = some (.slice A8 T.es.length n8) ∧ w'.cell? ⟨w5.heap.size, 1, none⟩ = some (.slice A9 T.ks.length n9))) := fun w' hb => by
            have hB : Below w5.heap.size w5 w' := ((Below.refl _ w5).alloc (Nat.le_refl _) _).trans (hb.mono (by omega))
            refine ⟨hB, (hB.cell (p := ⟨w.heap.size + 2, 2, none⟩) (by show w.heap.size + 2 < _; omega)).trans e2, ?_, ?_⟩
            · rw [hb.cell (p := ⟨w5.heap.size, 0, none⟩) (by simp), World.cell?_alloc_new]; rfl
            · rw [hb.cell (p := ⟨w5.heap.size, 1, none⟩) (by simp), World.cell?_alloc_new]; rfl
          clear c0 c1 d0 e0 e1 k0 k1 k2 z0 z1 z2
          go_upto_region 9 with (fail)
          go_region_held3 (fun w' => w'.cell? ⟨w.heap.size + 2, 2, none⟩ = some (.slice A7 c.length n7) ∧ w'.cell? ⟨w5.heap.size, 0, none⟩ = some (.slice A8 T.es.length n8) ∧ w'.cell? ⟨w5.heap.size, 1, none⟩ = some (.slice A9 T.ks.length n9))
            (first | go_keep | exact (HX.out _ hbx.out).2 | exact ⟨cell_box3n (by simp) (HX.out _ hbx.out).2.1, cell_box3n (by show w.heap.size + 3 ≠ _; omega) (HX.out _ hbx.out).2.2.1, cell_box3n (by show w.heap.size + 3 ≠ _; omega) (HX.out _ hbx.out).2.2.2⟩)
            (first | (go_at_call 98; go_loud ((refine (cloneC_any c _ _ (HC.out _ ((hB5.alloc (by omega) _).drew)) (by unfold Few; omega)).mono ?_); rintro e w6 ⟨v6, rfl, ho6, hb6⟩; obtain ⟨A10, c10, hv6⟩ := ho6.shape; subst hv6; have HO6 := hid ho6; have hbx : Hid (Below (w5.heap.size + 1) (w5.alloc (.cells #[.slice A8 T.es.length n8, .slice A9 T.ks.length n9] 25)) w6) := (((Below.refl (w5.heap.size + 1) (w5.alloc (.cells #[.slice A8 T.es.length n8, .slice A9 T.ks.length n9] 25))).drew).trans (hb6.mono (by simp))); have hby := hid (HX.out _ hbx.out).1; have hs6 : w5.heap.size + 1 ≤ w6.heap.size := (by have := hbx.out.size; simpa using this); have HGx := hid ((hby.out.block (w.heap.size + 3) (by omega)).trans HG6.out); have k0 : w6.cell? ⟨w.heap.size + 3, 0, none⟩ = some (.slice none 0 0) := cell_cells (i := 0) HGx.out; have k1 : w6.cell? ⟨w.heap.size + 3, 1, none⟩ = some (.slice none 0 0) := cell_cells (i := 1) HGx.out; have k2 : w6.cell? ⟨w.heap.size + 3, 2, none⟩ = some (.slice none 0 0) := cell_cells (i := 2) HGx.out; have z0 := cells_frz (i := 0) HGx.out; have z1 := cells_frz (i := 1) HGx.out; have z2 := cells_frz (i := 2) HGx.out; have hlt6 : w.heap.size + 3 < w6.heap.size := (by omega); have hne6 : w.heap.size + 3 ≠ w6.heap.size := (by omega); clear ho6 hb6)))
          all_goals go_wp2_with fail
          obtain ⟨r0, r1, r2, hK, hS⟩ := box3 HGx.out (.slice A8 T.es.length n8) (.slice A9 T.ks.length n9) (.slice A10 c.length c10)
          have hBW : Below w.heap.size w (((w6.setCell ⟨w.heap.size + 3, 0, none⟩ (.slice A8 T.es.length n8)).setCell ⟨w.heap.size + 3, 1, none⟩ (.slice A9 T.ks.length n9)).setCell ⟨w.heap.size + 3, 2, none⟩ (.slice A10 c.length c10)) := (((hB5.trans (hby.out.mono (by omega))).setCell (by simp) _).setCell (by simp) _).setCell (by simp) _
          clear k0 k1 k2 z0 z1 z2
          generalize (((w6.setCell ⟨w.heap.size + 3, 0, none⟩ (.slice A8 T.es.length n8)).setCell ⟨w.heap.size + 3, 1, none⟩ (.slice A9 T.ks.length n9)).setCell ⟨w.heap.size + 3, 2, none⟩ (.slice A10 c.length c10)) = W at *
          refine bodyPost_ret (v := .tuple #[.agg #[.slice A8 T.es.length n8, .slice A9 T.ks.length n9, .slice A10 c.length c10], .int .i64 0]) (by simp [results, Tryz.results77, go_sem, r0, r1, r2]) rfl ⟨_, _, _, by rw [HE0.out], ?_, ?_, hBW⟩
          · rw [HTX.out, if_pos trivial]
            exact rda_up (fun b hb => (hK b (by have := hb.1; simp only [World.size_alloc] at this; omega)).trans (hby.out.block b hb.2)) (fun b hb => ⟨by have := hb.1; simp only [World.size_alloc] at this; omega, by have := hb.2; omega⟩) _ _ _ hrd5
          · rw [HCX.out, if_pos trivial]
            refine (HO6.out.sla (by unfold Big; omega)).up (fun b hb => hK b (by have := hb.1; simp only [World.size_alloc, World.size_drew] at this; omega)) (fun b hb => ⟨by have := hb.1; simp only [World.size_alloc, World.size_drew] at this; omega, by have := hb.2.1; omega⟩) (fun _ _ _ h => h)
        · go_wp2_with fail
          obtain ⟨r0, r1, r2, hK, hS⟩ := box3 HG6.out (.slice none 0 0) (.slice none 0 0) (.slice none 0 0)
          have hBW : Below w.heap.size w (((w5.setCell ⟨w.heap.size + 3, 0, none⟩ (.slice none 0 0)).setCell ⟨w.heap.size + 3, 1, none⟩ (.slice none 0 0)).setCell ⟨w.heap.size + 3, 2, none⟩ (.slice none 0 0)) := ((hB5.setCell (by simp) _).setCell (by simp) _).setCell (by simp) _
          clear c0 c1 d0 e0 e1 e2 k0 k1 k2 z0 z1 z2
          generalize (((w5.setCell ⟨w.heap.size + 3, 0, none⟩ (.slice none 0 0)).setCell ⟨w.heap.size + 3, 1, none⟩ (.slice none 0 0)).setCell ⟨w.heap.size + 3, 2, none⟩ (.slice none 0 0)) = W at *
          have q0 : (W.alloc (.cells #[.slice A8 T.es.length n8, .slice A9 T.ks.length n9] 25)).cell? ⟨w.heap.size + 1 + 1 + 1, 0, none⟩ = some (.slice none 0 0) := by rw [World.cell?_alloc_lt _ _ _ (by show w.heap.size + 3 < _; omega)]; exact r0
          have q1 : (W.alloc (.cells #[.slice A8 T.es.length n8, .slice A9 T.ks.length n9] 25)).cell? ⟨w.heap.size + 1 + 1 + 1, 1, none⟩ = some (.slice none 0 0) := by rw [World.cell?_alloc_lt _ _ _ (by show w.heap.size + 3 < _; omega)]; exact r1
          have q2 : (W.alloc (.cells #[.slice A8 T.es.length n8, .slice A9 T.ks.length n9] 25)).cell? ⟨w.heap.size + 1 + 1 + 1, 2, none⟩ = some (.slice none 0 0) := by rw [World.cell?_alloc_lt _ _ _ (by show w.heap.size + 3 < _; omega)]; exact r2
          refine bodyPost_ret (v := .tuple #[.agg #[.slice none 0 0, .slice none 0 0, .slice none 0 0], .int .i64 1]) (by simp [results, Tryz.results77, go_sem, q0, q1, q2]) rfl ⟨_, _, _, by rw [HE0.out], by rw [HTX.out, if_neg (by decide)]; exact rda_nil _ _, by rw [HCX.out, if_neg (by decide)]; exact SlA.nil, hBW.alloc (by omega) _⟩
        · go_wp2_with fail
          obtain ⟨r0, r1, r2, hK, hS⟩ := box3 HG6.out (.slice none 0 0) (.slice none 0 0) (.slice none 0 0)
          have hBW : Below w.heap.size w (((w5.setCell ⟨w.heap.size + 3, 0, none⟩ (.slice none 0 0)).setCell ⟨w.heap.size + 3, 1, none⟩ (.slice none 0 0)).setCell ⟨w.heap.size + 3, 2, none⟩ (.slice none 0 0)) := ((hB5.setCell (by simp) _).setCell (by simp) _).setCell (by simp) _
          clear c0 c1 d0 e0 e1 e2 k0 k1 k2 z0 z1 z2
          generalize (((w5.setCell ⟨w.heap.size + 3, 0, none⟩ (.slice none 0 0)).setCell ⟨w.heap.size + 3, 1, none⟩ (.slice none 0 0)).setCell ⟨w.heap.size + 3, 2, none⟩ (.slice none 0 0)) = W at *
          have q0 : (W.alloc (.cells #[.slice A8 T.es.length n8, .slice A9 T.ks.length n9] 25)).cell? ⟨w.heap.size + 1 + 1 + 1, 0, none⟩ = some (.slice none 0 0) := by rw [World.cell?_alloc_lt _ _ _ (by show w.heap.size + 3 < _; omega)]; exact r0
          have q1 : (W.alloc (.cells #[.slice A8 T.es.length n8, .slice A9 T.ks.length n9] 25)).cell? ⟨w.heap.size + 1 + 1 + 1, 1, none⟩ = some (.slice none 0 0) := by rw [World.cell?_alloc_lt _ _ _ (by show w.heap.size + 3 < _; omega)]; exact r1
          have q2 : (W.alloc (.cells #[.slice A8 T.es.length n8, .slice A9 T.ks.length n9] 25)).cell? ⟨w.heap.size + 1 + 1 + 1, 2, none⟩ = some (.slice none 0 0) := by rw [World.cell?_alloc_lt _ _ _ (by show w.heap.size + 3 < _; omega)]; exact r2
          refine bodyPost_ret (v := .tuple #[.agg #[.slice none 0 0, .slice none 0 0, .slice none 0 0], .int .i64 10]) (by simp [results, Tryz.results77, go_sem, q0, q1, q2]) rfl ⟨_, _, _, by rw [HE0.out], by rw [HTX.out, if_neg (by decide)]; exact rda_nil _ _, by rw [HCX.out, if_neg (by decide)]; exact SlA.nil, hBW.alloc (by omega) _⟩
  · have HE0 : Hid (updE t key D c = wrapE D key) := by unfold Hid updE; rw [hr, hq, kb, em]; simp
    clear em
    clear hr hq kb
    go_wp2_with fail
    refine (twrap_any D key _ _ _ _ (HD.out _ (hB4.alloc (by omega) _)) (SlP.oneB (x := key) (cs := [.string key]) ⟨rfl, hkey⟩ rfl _ rfl (by simp)) (by omega)).mono ?_
    rintro e w5 ⟨v5, u5, rfl, hrd5, hb5⟩
    obtain ⟨A8, n8, A9, n9, rfl, rfl⟩ := rda_shape hrd5
    clear c0 c1 d0 e0 e1 e2 k0 k1 k2 z0 z1 z2 HG6
    have hb5' := hid (hb4'.out.trans ((((Below.refl w4.heap.size w4).alloc (Nat.le_refl _) _).trans (hb5.mono (show w4.heap.size ≤ _ by simp))).mono hs4))
    obtain ⟨hB5, hs5, g3, g4, g5, g6⟩ := HW.out _ hb5'.out
    have HG6 := hid g6
    have c0 : w5.cell? ⟨w.heap.size, 0, none⟩ = some (.slice A3 t.es.length n3) := cell_cells (i := 0) g3
    have c1 : w5.cell? ⟨w.heap.size, 1, none⟩ = some (.slice A4 t.ks.length n4) := cell_cells (i := 1) g3
    have d0 : w5.cell? ⟨w.heap.size + 1, 0, none⟩ = some (.string key) := cell_cells (i := 0) g4
    have e0 : w5.cell? ⟨w.heap.size + 2, 0, none⟩ = some (.slice A5 D.es.length n5) := cell_cells (i := 0) g5
    have e1 : w5.cell? ⟨w.heap.size + 2, 1, none⟩ = some (.slice A6 D.ks.length n6) := cell_cells (i := 1) g5
    have e2 : w5.cell? ⟨w.heap.size + 2, 2, none⟩ = some (.slice A7 c.length n7) := cell_cells (i := 2) g5
    have k0 : w5.cell? ⟨w.heap.size + 3, 0, none⟩ = some (.slice none 0 0) := cell_cells (i := 0) g6
    have k1 : w5.cell? ⟨w.heap.size + 3, 1, none⟩ = some (.slice none 0 0) := cell_cells (i := 1) g6
    have k2 : w5.cell? ⟨w.heap.size + 3, 2, none⟩ = some (.slice none 0 0) := cell_cells (i := 2) g6
    have z0 := cells_frz (i := 0) g6
    have z1 := cells_frz (i := 1) g6
    have z2 := cells_frz (i := 2) g6
    clear g3 g4 g5 g6
    have hs5' := hb5.size
    simp only [World.size_alloc] at hs5'
    clear hb5
    have hlt3 : w.heap.size + 3 < w5.heap.size := by omega
    have hne3 : w.heap.size + 3 ≠ w5.heap.size := by omega
    have hlt2 : w.heap.size + 2 < w5.heap.size := by omega
    have hne2 : w.heap.size + 2 ≠ w5.heap.size := by omega
    have hw3 : wrapE D key = 0 ∨ wrapE D key = 1 ∨ wrapE D key = 10 := by unfold wrapE; split <;> (try split) <;> simp
    have HTX : Hid (updT t key D c = if wrapE D key = 0 then wrapT D key else .mk [] []) := by unfold Hid updT; rw [HE0.out]
    have HCX : Hid (updC t key D c = if wrapE D key = 0 then c else []) := by unfold Hid updC; rw [HE0.out]
    rw [HE0.out]
    generalize wrapE D key = K at *
    generalize wrapT D key = T at *
    rcases hw3 with rfl | rfl | rfl
    · have HX : Hid (∀ w', Below (w5.heap.size + 1) (w5.alloc (.cells #[.slice A8 T.es.length n8, .slice A9 T.ks.length n9] 25)) w' → Below w5.heap.size w5 w' ∧ (w'.cell? ⟨w.heap.size + 2, 2, none⟩ = some (.slice A7 c.length n7) ∧ w'.cell? ⟨w5.heap.size, 0, none⟩ = some (.slice A8 T.es.length n8) ∧ w'.cell? ⟨w5.heap.size, 1, none⟩ = some (.slice A9 T.ks.length n9))) := fun w' hb => by
        have hB : Below w5.heap.size w5 w' := ((Below.refl _ w5).alloc (Nat.le_refl _) _).trans (hb.mono (by omega))
        refine ⟨hB, (hB.cell (p := ⟨w.heap.size + 2, 2, none⟩) (by show w.heap.size + 2 < _; omega)).trans e2, ?_, ?_⟩
        · rw [hb.cell (p := ⟨w5.heap.size, 0, none⟩) (by simp), World.cell?_alloc_new]; rfl
        · rw [hb.cell (p := ⟨w5.heap.size, 1, none⟩) (by simp), World.cell?_alloc_new]; rfl
      clear c0 c1 d0 e0 e1 k0 k1 k2 z0 z1 z2
      go_upto_region 9 with (fail)
      go_region_held3 (fun w' => w'.cell? ⟨w.heap.size + 2, 2, none⟩ = some (.slice A7 c.length n7) ∧ w'.cell? ⟨w5.heap.size, 0, none⟩ = some (.slice A8 T.es.length n8) ∧ w'.cell? ⟨w5.heap.size, 1, none⟩ = some (.slice A9 T.ks.length n9))
        (first | go_keep | exact (HX.out _ hbx.out).2 | exact ⟨cell_box3n (by simp) (HX.out _ hbx.out).2.1, cell_box3n (by show w.heap.size + 3 ≠ _; omega) (HX.out _ hbx.out).2.2.1, cell_box3n (by show w.heap.size + 3 ≠ _; omega) (HX.out _ hbx.out).2.2.2⟩)
        (first | (go_at_call 98; go_loud ((refine (cloneC_any c _ _ (HC.out _ ((hB5.alloc (by omega) _).drew)) (by unfold Few; omega)).mono ?_); rintro e w6 ⟨v6, rfl, ho6, hb6⟩; obtain ⟨A10, c10, hv6⟩ := ho6.shape; subst hv6; have HO6 := hid ho6; have hbx : Hid (Below (w5.heap.size + 1) (w5.alloc (.cells #[.slice A8 T.es.length n8, .slice A9 T.ks.length n9] 25)) w6) := (((Below.refl (w5.heap.size + 1) (w5.alloc (.cells #[.slice A8 T.es.length n8, .slice A9 T.ks.length n9] 25))).drew).trans (hb6.mono (by simp))); have hby := hid (HX.out _ hbx.out).1; have hs6 : w5.heap.size + 1 ≤ w6.heap.size := (by have := hbx.out.size; simpa using this); have HGx := hid ((hby.out.block (w.heap.size + 3) (by omega)).trans HG6.out); have k0 : w6.cell? ⟨w.heap.size + 3, 0, none⟩ = some (.slice none 0 0) := cell_cells (i := 0) HGx.out; have k1 : w6.cell? ⟨w.heap.size + 3, 1, none⟩ = some (.slice none 0 0) := cell_cells (i := 1) HGx.out; have k2 : w6.cell? ⟨w.heap.size + 3, 2, none⟩ = some (.slice none 0 0) := cell_cells (i := 2) HGx.out; have z0 := cells_frz (i := 0) HGx.out; have z1 := cells_frz (i := 1) HGx.out; have z2 := cells_frz (i := 2) HGx.out; have hlt6 : w.heap.size + 3 < w6.heap.size := (by omega); have hne6 : w.heap.size + 3 ≠ w6.heap.size := (by omega); clear ho6 hb6)))
      all_goals go_wp2_with fail
      obtain ⟨r0, r1, r2, hK, hS⟩ := box3 HGx.out (.slice A8 T.es.length n8) (.slice A9 T.ks.length n9) (.slice A10 c.length c10)
      have hBW : Below w.heap.size w (((w6.setCell ⟨w.heap.size + 3, 0, none⟩ (.slice A8 T.es.length n8)).setCell ⟨w.heap.size + 3, 1, none⟩ (.slice A9 T.ks.length n9)).setCell ⟨w.heap.size + 3, 2, none⟩ (.slice A10 c.length c10)) := (((hB5.trans (hby.out.mono (by omega))).setCell (by simp) _).setCell (by simp) _).setCell (by simp) _
      clear k0 k1 k2 z0 z1 z2
      generalize (((w6.setCell ⟨w.heap.size + 3, 0, none⟩ (.slice A8 T.es.length n8)).setCell ⟨w.heap.size + 3, 1, none⟩ (.slice A9 T.ks.length n9)).setCell ⟨w.heap.size + 3, 2, none⟩ (.slice A10 c.length c10)) = W at *
      refine bodyPost_ret (v := .tuple #[.agg #[.slice A8 T.es.length n8, .slice A9 T.ks.length n9, .slice A10 c.length c10], .int .i64 0]) (by simp [results, Tryz.results77, go_sem, r0, r1, r2]) rfl ⟨_, _, _, by rw [HE0.out], ?_, ?_, hBW⟩
      · rw [HTX.out, if_pos trivial]
        exact rda_up (fun b hb => (hK b (by have := hb.1; simp only [World.size_alloc] at this; omega)).trans (hby.out.block b hb.2)) (fun b hb => ⟨by have := hb.1; simp only [World.size_alloc] at this; omega, by have := hb.2; omega⟩) _ _ _ hrd5
      · rw [HCX.out, if_pos trivial]
        refine (HO6.out.sla (by unfold Big; omega)).up (fun b hb => hK b (by have := hb.1; simp only [World.size_alloc, World.size_drew] at this; omega)) (fun b hb => ⟨by have := hb.1; simp only [World.size_alloc, World.size_drew] at this; omega, by have := hb.2.1; omega⟩) (fun _ _ _ h => h)
    · go_wp2_with fail
      obtain ⟨r0, r1, r2, hK, hS⟩ := box3 HG6.out (.slice none 0 0) (.slice none 0 0) (.slice none 0 0)
      have hBW : Below w.heap.size w (((w5.setCell ⟨w.heap.size + 3, 0, none⟩ (.slice none 0 0)).setCell ⟨w.heap.size + 3, 1, none⟩ (.slice none 0 0)).setCell ⟨w.heap.size + 3, 2, none⟩ (.slice none 0 0)) := ((hB5.setCell (by simp) _).setCell (by simp) _).setCell (by simp) _
      clear c0 c1 d0 e0 e1 e2 k0 k1 k2 z0 z1 z2
      generalize (((w5.setCell ⟨w.heap.size + 3, 0, none⟩ (.slice none 0 0)).setCell ⟨w.heap.size + 3, 1, none⟩ (.slice none 0 0)).setCell ⟨w.heap.size + 3, 2, none⟩ (.slice none 0 0)) = W at *
      have q0 : (W.alloc (.cells #[.slice A8 T.es.length n8, .slice A9 T.ks.length n9] 25)).cell? ⟨w.heap.size + 1 + 1 + 1, 0, none⟩ = some (.slice none 0 0) := by rw [World.cell?_alloc_lt _ _ _ (by show w.heap.size + 3 < _; omega)]; exact r0
      have q1 : (W.alloc (.cells #[.slice A8 T.es.length n8, .slice A9 T.ks.length n9] 25)).cell? ⟨w.heap.size + 1 + 1 + 1, 1, none⟩ = some (.slice none 0 0) := by rw [World.cell?_alloc_lt _ _ _ (by show w.heap.size + 3 < _; omega)]; exact r1
      have q2 : (W.alloc (.cells #[.slice A8 T.es.length n8, .slice A9 T.ks.length n9] 25)).cell? ⟨w.heap.size + 1 + 1 + 1, 2, none⟩ = some (.slice none 0 0) := by rw [World.cell?_alloc_lt _ _ _ (by show w.heap.size + 3 < _; omega)]; exact r2
      refine bodyPost_ret (v := .tuple #[.agg #[.slice none 0 0, .slice none 0 0, .slice none 0 0], .int .i64 1]) (by simp [results, Tryz.results77, go_sem, q0, q1, q2]) rfl ⟨_, _, _, by rw [HE0.out], by rw [HTX.out, if_neg (by decide)]; exact rda_nil _ _, by rw [HCX.out, if_neg (by decide)]; exact SlA.nil, hBW.alloc (by omega) _⟩
    · go_wp2_with fail
      obtain ⟨r0, r1, r2, hK, hS⟩ := box3 HG6.out (.slice none 0 0) (.slice none 0 0) (.slice none 0 0)
      have hBW : Below w.heap.size w (((w5.setCell ⟨w.heap.size + 3, 0, none⟩ (.slice none 0 0)).setCell ⟨w.heap.size + 3, 1, none⟩ (.slice none 0 0)).setCell ⟨w.heap.size + 3, 2, none⟩ (.slice none 0 0)) := ((hB5.setCell (by simp) _).setCell (by simp) _).setCell (by simp) _
      clear c0 c1 d0 e0 e1 e2 k0 k1 k2 z0 z1 z2
      generalize (((w5.setCell ⟨w.heap.size + 3, 0, none⟩ (.slice none 0 0)).setCell ⟨w.heap.size + 3, 1, none⟩ (.slice none 0 0)).setCell ⟨w.heap.size + 3, 2, none⟩ (.slice none 0 0)) = W at *
      have q0 : (W.alloc (.cells #[.slice A8 T.es.length n8, .slice A9 T.ks.length n9] 25)).cell? ⟨w.heap.size + 1 + 1 + 1, 0, none⟩ = some (.slice none 0 0) := by rw [World.cell?_alloc_lt _ _ _ (by show w.heap.size + 3 < _; omega)]; exact r0
      have q1 : (W.alloc (.cells #[.slice A8 T.es.length n8, .slice A9 T.ks.length n9] 25)).cell? ⟨w.heap.size + 1 + 1 + 1, 1, none⟩ = some (.slice none 0 0) := by rw [World.cell?_alloc_lt _ _ _ (by show w.heap.size + 3 < _; omega)]; exact r1
      have q2 : (W.alloc (.cells #[.slice A8 T.es.length n8, .slice A9 T.ks.length n9] 25)).cell? ⟨w.heap.size + 1 + 1 + 1, 2, none⟩ = some (.slice none 0 0) := by rw [World.cell?_alloc_lt _ _ _ (by show w.heap.size + 3 < _; omega)]; exact r2
      refine bodyPost_ret (v := .tuple #[.agg #[.slice none 0 0, .slice none 0 0, .slice none 0 0], .int .i64 10]) (by simp [results, Tryz.results77, go_sem, q0, q1, q2]) rfl ⟨_, _, _, by rw [HE0.out], by rw [HTX.out, if_neg (by decide)]; exact rda_nil _ _, by rw [HCX.out, if_neg (by decide)]; exact SlA.nil, hBW.alloc (by omega) _⟩
end Go.Proofs.YtkjijbogbelilaaGreat

namespace Go.Proofs.YtkjijbogbelilaaGreat
open Go.RowKit
set_option maxRecDepth 100000

def kB : ByteArray := ⟨#[107]⟩
def dB : Tr := .mk [⟨1, 1, ByteArray.empty, 0⟩] []
theorem awk14_E : updE (.mk [] []) kB dB (ctxBy [] [⟨1, 1, 1⟩] 0) = 0 := by kernel_rfl
theorem awk14_T : updT (.mk [] []) kB dB (ctxBy [] [⟨1, 1, 1⟩] 0) = .mk [] [(kB, dB)] := by
  unfold updT; rw [awk14_E, if_pos rfl]; kernel_rfl
theorem awk14_K : keysOf (.mk [] [(kB, dB)]) = [kB] := by kernel_rfl
theorem awk14_G : getT (.mk [] [(kB, dB)]) [kB] = dB := by
  rw [get_law (right_ord _ 5 (by kernel_rfl))]
  unfold getK
  rw [List.foldl_cons, List.foldl_nil]
  unfold kidT
  simp [Tr.ks]
set_option maxHeartbeats 4000000 in
theorem awake14_any (w : World) : Calls Tryz.prog 74 #[] w fun e w' => e = .returned (.bool true) ∧ Below w.heap.size w w' := by
  go_enter Tryz.func74, Tryz.ntmps74
  go_wp2_with fail
  refine (r10put_any [] ⟨1, 1, ByteArray.empty, 0⟩ [] _ _ w ⟨⟨by decide, by decide⟩, ⟨by decide, by decide⟩, ⟨by decide, by decide⟩, by simp [Big]⟩ SlP.nil SlP.nil (by simp) (fun _ h => by cases h) (fun s hs => by simp at hs; subst hs; decide)).mono ?_
  rintro e w1 ⟨ve, vk, vc, rfl, hrd, hsc, hb1⟩
  rw [build_one_leaf, show (Tr.mk [⟨1, 1, ByteArray.empty, 0⟩] [] : Tr) = dB from rfl] at hrd
  have hE := awk14_E
  have hT := awk14_T
  have hcl : (ctxBy [] [(⟨1, 1, 1⟩ : Sp)] 0).length ≤ 20000 := by have := ctxBy_len [] [(⟨1, 1, 1⟩ : Sp)] 0; simp at this; omega
  simp only [] at hsc
  generalize ctxBy [] [(⟨1, 1, 1⟩ : Sp)] 0 = C at *
  have HE := hid hE
  have HT2 := hid hT
  clear hE hT
  obtain ⟨Ae, ne, Ak, nk, rfl, rfl⟩ := rda_shape hrd
  obtain ⟨Ac, nc, rfl⟩ := hsc.shape
  have hs1 := hb1.size
  have HT : Hid (∀ w', Below w1.heap.size w1 w' → dB.rd w' w'.heap.size (.slice Ae dB.es.length ne) (.slice Ak dB.ks.length nk)) := fun w' hb => rda_rd hrd (fun b hb => hb.2) hb
  have HCt : Hid (∀ w', Below w1.heap.size w1 w' → SlP w' w'.heap.size 3 SpE (.slice Ac C.length nc) C) := fun w' hb => hsc.slp (fun b hb => hb.2) hb
  clear hrd hsc
  go_wp2_with fail
  refine (oupdate_any (.mk [] []) dB C kB _ _ _ _ _ _ rd_empty (HT.out _ (by go_grown)) (HCt.out _ (by go_grown)) (by decide) (by decide) (by decide) hcl).mono ?_
  rintro e w2 ⟨ve2, vk2, vc2, rfl, hrd, hsc, hb2⟩
  rw [HE.out]
  rw [HT2.out] at hrd
  have hgt := awk14_G
  have hkt := awk14_K
  have hTe : (Tr.mk [] [(kB, dB)]).es.length = 0 := rfl
  have hTk : (Tr.mk [] [(kB, dB)]).ks.length = 1 := rfl
  have hTz : (Tr.mk [] [(kB, dB)]).sz ≤ 100000 := by decide
  obtain ⟨Ae2, ne2, Ak2, nk2, rfl, rfl⟩ := rda_shape hrd
  obtain ⟨Ac2, nc2, rfl⟩ := hsc.shape
  generalize updC (.mk [] []) kB dB C = C2 at *
  generalize (Tr.mk [] [(kB, dB)] : Tr) = T at *
  have hks : (keysOf T).length = 1 := by rw [hkt]; rfl
  have hse : trEq (getT T [kB]) dB = true := by rw [hgt]; simp [trEq]
  generalize dB = D at *
  have HGT := hid hse
  have HKT := hid hkt
  clear hgt hkt hse
  have hs2 := hb2.size
  simp only [World.size_alloc] at hs2
  have hB2 : Below w1.heap.size w1 w2 := ((Below.refl _ w1).alloc (Nat.le_refl _) _).trans (hb2.mono (by simp))
  have x0 : w2.cell? ⟨w1.heap.size, 0, none⟩ = some (.slice Ae D.es.length ne) := by rw [hb2.cell (p := ⟨w1.heap.size, 0, none⟩) (by simp), World.cell?_alloc_new]; rfl
  have x1 : w2.cell? ⟨w1.heap.size, 1, none⟩ = some (.slice Ak D.ks.length nk) := by rw [hb2.cell (p := ⟨w1.heap.size, 1, none⟩) (by simp), World.cell?_alloc_new]; rfl
  have hlt1 : w1.heap.size < w2.heap.size := by omega
  have hne1 : w1.heap.size ≠ w2.heap.size := by omega
  have HB : Hid (∀ w', Below (w2.heap.size + 1) (w2.alloc (.cells #[.slice Ae2 T.es.length ne2, .slice Ak2 T.ks.length nk2, .slice Ac2 C2.length nc2] 29)) w' → Below w.heap.size w w' ∧ D.rd w' w'.heap.size (.slice Ae D.es.length ne) (.slice Ak D.ks.length nk) ∧ T.rd w' w'.heap.size (.slice Ae2 T.es.length ne2) (.slice Ak2 T.ks.length nk2) ∧ (w'.cell? ⟨w1.heap.size, 0, none⟩ = some (.slice Ae D.es.length ne) ∧ w'.cell? ⟨w1.heap.size, 1, none⟩ = some (.slice Ak D.ks.length nk) ∧ w'.cell? ⟨w2.heap.size, 0, none⟩ = some (.slice Ae2 T.es.length ne2) ∧ w'.cell? ⟨w2.heap.size, 1, none⟩ = some (.slice Ak2 T.ks.length nk2))) := fun w' hb => by
    have hB : Below w2.heap.size w2 w' := ((Below.refl _ w2).alloc (Nat.le_refl _) _).trans (hb.mono (by omega))
    have hB1 : Below w1.heap.size w1 w' := hB2.trans (hB.mono (by omega))
    refine ⟨hb1.trans (hB1.mono hs1), HT.out _ hB1, rda_rd hrd (fun b hb => hb.2) hB, ?_, ?_, ?_, ?_⟩
    · rw [hB.cell (p := ⟨w1.heap.size, 0, none⟩) (by show w1.heap.size < _; omega)]; exact x0
    · rw [hB.cell (p := ⟨w1.heap.size, 1, none⟩) (by show w1.heap.size < _; omega)]; exact x1
    · rw [hb.cell (p := ⟨w2.heap.size, 0, none⟩) (by simp), World.cell?_alloc_new]; rfl
    · rw [hb.cell (p := ⟨w2.heap.size, 1, none⟩) (by simp), World.cell?_alloc_new]; rfl
  have HAK : Hid (decide (keysOf T = [kB]) = true) := by unfold Hid; rw [HKT.out]; simp
  have HKL : Hid ((keysOf T).length ≤ Big) := by unfold Hid; rw [HKT.out]; decide
  have HSM : Hid (trEq (getT T [kB]) D = true) := HGT.out
  have HKZ : Hid (kB.size ≤ Big) := by unfold Hid; decide
  have hTl : T.ks.length ≤ 900000 := by omega
  clear hrd hsc hb2 hTe hTk hks
  go_upto_region 3 with (fail)
  go_region_held3 (fun w' => w'.cell? ⟨w1.heap.size, 0, none⟩ = some (.slice Ae D.es.length ne) ∧ w'.cell? ⟨w1.heap.size, 1, none⟩ = some (.slice Ak D.ks.length nk) ∧ w'.cell? ⟨w2.heap.size, 0, none⟩ = some (.slice Ae2 T.es.length ne2) ∧ w'.cell? ⟨w2.heap.size, 1, none⟩ = some (.slice Ak2 T.ks.length nk2))
    (first | go_keep | exact (HB.out _ hb6.out).2.2.2 | exact (HB.out _ hb5.out).2.2.2 | exact (HB.out _ hb4.out).2.2.2 | exact (HB.out _ hb3.out).2.2.2)
    (first | (go_at_call 116; go_loud ((refine (okeys_any T _ _ _ (HB.out _ (by go_grown)).2.2.1 (by omega)).mono ?_); rintro e w3 ⟨v3, rfl, ho3, hb⟩; obtain ⟨A9, c9, hv9⟩ := ho3.shape; subst hv9; have HK3 := hid (ho3.sl HKL.out); have hb3 : Hid (Below (w2.heap.size + 1) (w2.alloc (.cells #[.slice Ae2 T.es.length ne2, .slice Ak2 T.ks.length nk2, .slice Ac2 C2.length nc2] 29)) w3) := (Below.trans (by go_grown) (hb.mono (by simp))); have hs3 := hb3.out.size; simp only [World.size_alloc] at hs3; (try (have HKC : Hid (w3.cell? ⟨w2.heap.size + 1, 0, none⟩ = some (.string kB)) := (hb.cell (p := ⟨w2.heap.size + 1, 0, none⟩) (by simp; done)).trans (by rw [World.cell?_drew, World.cell?_alloc_at _ _ _ _ (by simp)]; rfl))); (try (have HKC : Hid (w3.cell? ⟨w2.heap.size + 1, 0, none⟩ = some (.string kB)) := (hb.cell (p := ⟨w2.heap.size + 1, 0, none⟩) (by simp; done)).trans (by rw [World.cell?_alloc_at _ _ _ _ (by simp)]; rfl))); clear ho3))
           | (go_at_call 60; go_loud ((refine (r10alike_any (keysOf T) [kB] _ _ _ (w3.heap.size + 1) (HK3.out.imp (by go_grown) (by omega) fun _ _ _ h => h) (by first | exact SlP.oneB (x := kB) (cs := [.string kB]) ⟨rfl, HKZ.out⟩ rfl _ rfl (by omega) | exact SlP.at1 HKC.out HKZ.out (by have := hb.size; simp at this; omega))).mono ?_); rw [HAK.out]; rintro e w4 ⟨rfl, n4, hw4⟩; have hb4 : Hid (Below (w2.heap.size + 1) (w2.alloc (.cells #[.slice Ae2 T.es.length ne2, .slice Ak2 T.ks.length nk2, .slice Ac2 C2.length nc2] 29)) w4) := (hw4 ▸ below_drewN (by first | exact hb3.out | exact hb3.out.alloc (by omega) _) n4); have hs4 := hb4.out.size; simp only [World.size_alloc] at hs4; clear hw4))
           | (go_at_call 78; go_loud ((refine (r08get_any T [kB] _ _ _ _ (HB.out _ (hb4.out.alloc (by omega) _)).2.2.1 (SlP.oneB (x := kB) (cs := [.string kB]) ⟨rfl, HKZ.out⟩ rfl _ rfl (by simp)) hTz).mono ?_); rintro e w5 ⟨ve5, vk5, rfl, hrd5, hb⟩; obtain ⟨A5, n5, A6, n6, hv5, hv6⟩ := rda_shape hrd5; subst hv5; subst hv6; have hb5 := hid ((hb4.out.alloc (by omega) _).trans (hb.mono (by simp; omega))); have hrd6 := hid (rda_rd hrd5 (fun b hb => hb.2) (Below.refl _ _)); clear hrd5 hb))
           | (go_at_call 49; go_loud ((refine (r08same_any (getT T [kB]) D _ _ _ _ _ hrd6.out (HB.out _ hb5.out).2.1).mono ?_); rw [HSM.out]; rintro e w6 ⟨rfl, hb⟩; have hb6 := hid (hb5.out.trans (hb.mono (by have := hb5.out.size; simpa using this))))))
  all_goals
    go_wp2_with fail
    go_ret
    exact ⟨rfl, (HB.out _ hb6.out).1⟩
end Go.Proofs.YtkjijbogbelilaaGreat

namespace Go.Proofs.YtkjijbogbelilaaGreat
open Go.RowKit
set_option maxRecDepth 100000

set_option maxHeartbeats 4000000 in
theorem oreset_any (t : Tr) (d : Dt) (ve vk : Value) (w : World) (h : t.rd w w.heap.size ve vk) (hN : t.sz ≤ 4000) (hd : d.Ok) :
    Calls Tryz.prog 82 #[.agg #[ve, vk], .agg #[.int .i64 d.dc, .int .i64 d.n]] w (RetCE w (.mk [] []) (disC t d) (chkI t d)) := by
  have hdl := dots_len t
  have h2 := ctxOf_len t.dots
  have h3 := ctxOf_len [d]
  simp only [List.length_singleton] at h3
  have HC : Hid (∀ w', Below w.heap.size w w' → t.rd w' w'.heap.size ve vk) := fun w' hb => rd_below hb hb.size _ _ _ h
  obtain ⟨A3, n3, A4, n4, rfl, rfl⟩ := rd_shape h
  have hb0 := (((Below.refl w.heap.size w).alloc (Nat.le_refl _) (.cells #[.slice A3 t.es.length n3, .slice A4 t.ks.length n4] 25)).alloc (by simp) (.cells #[.int .i64 d.dc, .int .i64 d.n] 42)).alloc (by simp; omega) (.cells #[.slice none 0 0, .slice none 0 0, .slice none 0 0] 29)
  clear h
  go_enter Tryz.func82, Tryz.ntmps82
  go_wp2_with fail
  refine (fcheck_any t d _ _ _ (HC.out _ hb0) (by omega)).mono ?_
  rintro e w1 ⟨rfl, hb1⟩
  have hs1 := hb1.size
  simp only [World.size_alloc] at hs1
  have hB1 : Below w.heap.size w w1 := hb0.trans (hb1.mono (by simp; omega))
  have c0 : w1.cell? ⟨w.heap.size, 0, none⟩ = some (.slice A3 t.es.length n3) := by
    rw [hb1.cell (p := ⟨w.heap.size, 0, none⟩) (by simp; omega)]
    rw [World.cell?_alloc_lt _ _ _ (by simp; omega), World.cell?_alloc_lt _ _ _ (by simp)]; simp
  have c1 : w1.cell? ⟨w.heap.size, 1, none⟩ = some (.slice A4 t.ks.length n4) := by
    rw [hb1.cell (p := ⟨w.heap.size, 1, none⟩) (by simp; omega)]
    rw [World.cell?_alloc_lt _ _ _ (by simp; omega), World.cell?_alloc_lt _ _ _ (by simp)]; simp
  have d0 : w1.cell? ⟨w.heap.size + 1, 0, none⟩ = some (.int .i64 d.dc) := by rw [hb1.cell (p := ⟨w.heap.size + 1, 0, none⟩) (by simp), World.cell?_alloc_lt _ _ _ (by simp)]; simp
  have d1 : w1.cell? ⟨w.heap.size + 1, 1, none⟩ = some (.int .i64 d.n) := by rw [hb1.cell (p := ⟨w.heap.size + 1, 1, none⟩) (by simp), World.cell?_alloc_lt _ _ _ (by simp)]; simp
  have hg : w1.heap[w.heap.size + 2]? = some (.cells #[.slice none 0 0, .slice none 0 0, .slice none 0 0] 29 (0, 0)) := (hb1.block (w.heap.size + 2) (by simp)).trans (heap_new (by simp))
  have HG := hid hg
  have k0 : w1.cell? ⟨w.heap.size + 2, 0, none⟩ = some (.slice none 0 0) := cell_cells (i := 0) hg
  have k1 : w1.cell? ⟨w.heap.size + 2, 1, none⟩ = some (.slice none 0 0) := cell_cells (i := 1) hg
  have k2 : w1.cell? ⟨w.heap.size + 2, 2, none⟩ = some (.slice none 0 0) := cell_cells (i := 2) hg
  have z0 := cells_frz (i := 0) hg
  have z1 := cells_frz (i := 1) hg
  have z2 := cells_frz (i := 2) hg
  clear hg hb1
  cases hc : chkT t d
  · have HE : Hid (chkI t d = 1) := by unfold Hid chkI; rw [hc]; rfl
    have HD : Hid (disC t d = []) := by unfold Hid disC; rw [hc]; rfl
    rw [HE.out]
    clear hc
    go_wp2_with fail
    obtain ⟨r0, r1, r2, hK, hS⟩ := box3 HG.out (.slice none 0 0) (.slice none 0 0) (.slice none 0 0)
    have hBW := ((hB1.setCell (p := ⟨w.heap.size + 2, 0, none⟩) (by simp) (.slice none 0 0)).setCell (p := ⟨w.heap.size + 2, 1, none⟩) (by simp) (.slice none 0 0)).setCell (p := ⟨w.heap.size + 2, 2, none⟩) (by simp) (.slice none 0 0)
    refine bodyPost_ret (v := .tuple #[.agg #[.slice none 0 0, .slice none 0 0, .slice none 0 0], .int .i64 1]) (by simp [results, Tryz.results82, go_sem, r0, r1, r2]) rfl ⟨_, _, _, by rw [HE.out], ?_, ?_, hBW⟩
    · exact rda_nil _ _
    · rw [HD.out]; exact SlA.nil
  · have HE : Hid (chkI t d = 0) := by unfold Hid chkI; rw [hc]; rfl
    have HD : Hid (disC t d = ctxBy (ctxOf t.dots) (ctxOf [d]) 0) := by unfold Hid disC; rw [hc]; rfl
    have hdr := chkT_right hc
    have htr := chkT_tree hc
    have HAA := hid (apart_ctxOf (right_dots t 5 htr))
    have HAB := hid (apart_ctxOf (right_one hdr))
    have HDR := hid (right_one hdr)
    have HDO := hid hd
    rw [HE.out]
    clear hc
    go_wp2_with fail
    refine (tdots_any t _ _ w1 (HC.out _ hB1) (by omega)).mono ?_
    rintro e w2 ⟨v1, n1, rfl, hn1, ho1, hb2⟩
    rw [htr] at ho1 hn1
    obtain rfl : n1 = 0 := hn1
    rw [if_pos rfl] at ho1
    obtain ⟨A1, m1, rfl⟩ := ho1.shape
    have hs2 := hb2.size
    have hB2 : Below w.heap.size w w2 := hB1.trans (hb2.mono (by omega))
    have HO1 := hid ho1
    have e0 : w2.cell? ⟨w.heap.size + 1, 0, none⟩ = some (.int .i64 d.dc) := (hb2.cell (p := ⟨w.heap.size + 1, 0, none⟩) (by show w.heap.size + 1 < _; omega)).trans d0
    have e1 : w2.cell? ⟨w.heap.size + 1, 1, none⟩ = some (.int .i64 d.n) := (hb2.cell (p := ⟨w.heap.size + 1, 1, none⟩) (by show w.heap.size + 1 < _; omega)).trans d1
    clear ho1 hdr htr k0 k1 k2 z0 z1 z2 c0 c1 d0 d1
    go_wp2_with fail
    refine (cof_any [d] _ _ (SlP.oneB (E := DtE) (x := d) (cs := [.int .i64 d.dc, .int .i64 d.n]) ⟨rfl, HDO.out⟩ rfl _ rfl (by simp)) HDR.out (by simp)).mono ?_
    rintro e w3 ⟨v2, rfl, ho2, hb3⟩
    obtain ⟨A2, m2, rfl⟩ := ho2.shape
    have hs3 := hb3.size
    simp only [World.size_alloc] at hs3
    have hb3' : Below w2.heap.size w2 w3 := ((Below.refl _ w2).alloc (Nat.le_refl _) _).trans (hb3.mono (by simp))
    have H1 := hid ((HO1.out.grow hb3').sl (by unfold Big; omega))
    have H2 := hid (ho2.sl (by unfold Big; omega))
    clear ho2 hb3 e0 e1
    go_wp2_with fail
    refine (cunion_any (ctxOf t.dots) (ctxOf [d]) _ _ w3 H1.out H2.out HAA.out HAB.out (by omega) (by omega)).mono ?_
    rintro e w4 ⟨v3, rfl, ho3, hb4⟩
    obtain ⟨A5, c5, rfl⟩ := ho3.shape
    have hs4 := hb4.size
    have hB4 : Below w.heap.size w w4 := (hB2.trans (hb3'.mono (by omega))).trans (hb4.mono (by omega))
    have HG2 := hid ((hb4.block (w.heap.size + 2) (by omega)).trans ((hb3'.block (w.heap.size + 2) (by omega)).trans ((hb2.block (w.heap.size + 2) (by omega)).trans HG.out)))
    have k0 : w4.cell? ⟨w.heap.size + 2, 0, none⟩ = some (.slice none 0 0) := cell_cells (i := 0) HG2.out
    have k1 : w4.cell? ⟨w.heap.size + 2, 1, none⟩ = some (.slice none 0 0) := cell_cells (i := 1) HG2.out
    have k2 : w4.cell? ⟨w.heap.size + 2, 2, none⟩ = some (.slice none 0 0) := cell_cells (i := 2) HG2.out
    have z0 := cells_frz (i := 0) HG2.out
    have z1 := cells_frz (i := 1) HG2.out
    have z2 := cells_frz (i := 2) HG2.out
    have HO3 := hid ho3
    have hsc := ctxBy_len (ctxOf t.dots) (ctxOf [d]) 0
    clear ho3
    go_wp2_with fail
    obtain ⟨r0, r1, r2, hK, hS⟩ := box3 HG2.out (.slice none 0 0) (.slice none 0 0) (.slice A5 (ctxBy (ctxOf t.dots) (ctxOf [d]) 0).length c5)
    have hBW := ((hB4.setCell (p := ⟨w.heap.size + 2, 0, none⟩) (by simp) (.slice none 0 0)).setCell (p := ⟨w.heap.size + 2, 1, none⟩) (by simp) (.slice none 0 0)).setCell (p := ⟨w.heap.size + 2, 2, none⟩) (by simp) (.slice A5 (ctxBy (ctxOf t.dots) (ctxOf [d]) 0).length c5)
    refine bodyPost_ret (v := .tuple #[.agg #[.slice none 0 0, .slice none 0 0, .slice A5 (ctxBy (ctxOf t.dots) (ctxOf [d]) 0).length c5], .int .i64 0]) (by simp [results, Tryz.results82, go_sem, r0, r1, r2]) rfl ⟨_, _, _, by rw [HE.out], rda_nil _ _, ?_, hBW⟩
    rw [HD.out]
    refine (HO3.out.sla (by unfold Big; omega)).up (fun b hb => hK b (by have := hb.1; omega)) (fun b hb => ⟨by have := hb.1; omega, by rw [hS]; exact hb.2.1⟩) (fun _ _ _ h => h)
end Go.Proofs.YtkjijbogbelilaaGreat

namespace Go.Proofs.YtkjijbogbelilaaGreat
open Go.RowKit
set_option maxRecDepth 100000

theorem pKey_mem {s : ByteArray} {e : En} {x : Lf} : x ∈ (Tr.mk [] [(s, tOne e)]).lvs [] ↔ x = ([s], e) := by simp [Tr.lvs, Tr.lvsL]
theorem pKey_ord {s : ByteArray} {e : En} (hs : keyB s = true) : (Tr.mk [] [(s, tOne e)]).Ord := Ord.mk' .nil (List.pairwise_singleton _ _) fun k t h => by
  simp at h
  obtain ⟨rfl, rfl⟩ := h
  exact ⟨keyB_ne hs, rfl, tOne_ord e⟩
theorem pKey_ok {s : ByteArray} {e : En} {c : List Sp} (hs : keyB s = true) (he : e.right = true) (hc : apartB c = true) (hh : hasC c e.dot = true) : CaOk (.mk [] [(s, tOne e)]) c :=
  ⟨pKey_ord hs, fun x hx => by rw [pKey_mem.1 hx]; exact ⟨by simp, by simpa using hs, he⟩, hc, fun x hx => by rw [pKey_mem.1 hx]; exact hh⟩
theorem pKey_st {s : ByteArray} {e : En} (hs : keyB s = true) (p : List ByteArray) (d : Dt) : stE (Tr.mk [] [(s, tOne e)]) p d = if p = [s] ∧ d = e.dot then some e else none := by
  split
  · rename_i h
    obtain ⟨rfl, rfl⟩ := h
    exact (stE_some (pKey_ord hs)).2 ⟨pKey_mem.2 rfl, rfl⟩
  · rename_i h
    refine (stE_none (pKey_ord hs)).2 fun y hy hd => h ?_
    have := pKey_mem.1 hy
    cases this
    exact ⟨rfl, hd.symm⟩
theorem kp_plain {t : Tr} {key : ByteArray} {d e : Dt} (hc : chkT t d = true) (hc2 : chkT t e = true) (hde : d ≠ e) (hky : keyB key = true) (hl : t.ks.length < 24) (hz : t.sz ≤ 60) : ∃ (D X Y : Tr) (S R U : List Sp), Hid (disC t d = S) ∧ Hid (chkI t d = 0) ∧ Hid (X = .mk [] []) ∧
    Hid (buildL [([], ⟨e.dc, e.n, ByteArray.empty, 7⟩)] = D) ∧ Hid (ctxBy [] [⟨e.dc, e.n, e.n⟩] 0 = R) ∧ Hid (updT t key D R = Y) ∧ Hid (updC t key D R = R) ∧ Hid (updE t key D R = 0) ∧ Hid (buildL [([key], ⟨e.dc, e.n, ByteArray.empty, 7⟩)] = Y) ∧
    Hid ((jaR [(t, knC t), (X, S), (Y, R)]).1 = Y) ∧ Hid ((jaR [(t, knC t), (X, S), (Y, R)]).2 = U) ∧ Hid (jaE [(t, knC t), (X, S), (Y, R)] = 0) ∧
    Hid ((jaR [(Y, R), (t, knC t), (X, S)]).1 = Y) ∧ Hid ((jaR [(Y, R), (t, knC t), (X, S)]).2 = U) ∧ Hid (jaE [(Y, R), (t, knC t), (X, S)] = 0) ∧
    Hid (trEq Y Y = true) ∧ Hid (kSame Y Y U U = true) ∧ X.sz ≤ 40 ∧ Y.sz ≤ 40 ∧ D.sz ≤ 40 ∧ S.length ≤ 4000 ∧ R.length ≤ 4000 ∧ U.length ≤ 10000 ∧ (knC t).length ≤ 400 ∧ Hid (SpsOk [⟨e.dc, e.n, e.n⟩]) ∧ Hid (∀ d ∈ t.dots, 0 ≤ d.n ∧ d.n ≤ 1099511627778) := by
  obtain ⟨g1, g2, g3⟩ := chkT_dots hc
  obtain ⟨_, g4, g5⟩ := chkT_dots hc2
  have hk := known_ok g1
  have hed : (⟨e.dc, e.n, ByteArray.empty, 7⟩ : En).dot = e := rfl
  have he : (⟨e.dc, e.n, ByteArray.empty, 7⟩ : En).right = true := by unfold En.right; rw [hed]; simp [g4]
  have hr1 : ∀ x ∈ [e], x.right = true := fun x hx => by simp at hx; subst hx; exact g4
  have hh : ∀ x, hasC (ctxOf [e]) x = decide (x = e) := fun x => by
    rw [Bool.eq_iff_iff, decide_eq_true_eq]
    constructor
    · intro h; rw [hasC_ctxOf hr1 (hasC_right h)] at h; simpa using h
    · rintro rfl; rw [hasC_ctxOf hr1 g4]; simp
  have hD : buildL [([], ⟨e.dc, e.n, ByteArray.empty, 7⟩)] = tOne ⟨e.dc, e.n, ByteArray.empty, 7⟩ := build_one_leaf _
  have hR : ctxBy [] [⟨e.dc, e.n, e.n⟩] 0 = ctxOf [e] := put_ctx g4
  have hDo : CaOk (tOne ⟨e.dc, e.n, ByteArray.empty, 7⟩) (ctxOf [e]) := tOne_ok he (apart_ctxOf hr1) (by rw [hh, hed]; simp)
  have hDr : (tOne ⟨e.dc, e.n, ByteArray.empty, 7⟩ : Tr).right 5 = true := (right_iff hDo.ord).2 hDo.leaf
  have hwE : wrapE (tOne ⟨e.dc, e.n, ByteArray.empty, 7⟩) key = 0 := by unfold wrapE; rw [hDr, hky]; simp [Tr.dep, Tr.depL]
  have hwT : wrapT (tOne ⟨e.dc, e.n, ByteArray.empty, 7⟩) key = .mk [] [(key, tOne ⟨e.dc, e.n, ByteArray.empty, 7⟩)] := by unfold wrapT; rw [if_pos hwE]; rfl
  have hUE : updE t key (tOne ⟨e.dc, e.n, ByteArray.empty, 7⟩) (ctxOf [e]) = 0 := by
    unfold updE
    rw [g1, caR_iff.2 hDo, hky, hwE]
    have : decide (24 ≤ t.ks.length) = false := by simpa using hl
    rw [this]; simp
  have hUT : updT t key (tOne ⟨e.dc, e.n, ByteArray.empty, 7⟩) (ctxOf [e]) = .mk [] [(key, tOne ⟨e.dc, e.n, ByteArray.empty, 7⟩)] := by unfold updT; rw [if_pos hUE, hwT]
  have hUC : updC t key (tOne ⟨e.dc, e.n, ByteArray.empty, 7⟩) (ctxOf [e]) = ctxOf [e] := by unfold updC; rw [if_pos hUE]
  have hK : KOk (t, knC t) := hk
  have hX : KOk (Tr.mk [] [], seenC t d) := nil_ok (seen_apart g1 g2)
  have hY : KOk (Tr.mk [] [(key, tOne ⟨e.dc, e.n, ByteArray.empty, 7⟩)], ctxOf [e]) := pKey_ok hky he (apart_ctxOf hr1) (by rw [hh, hed]; simp)
  have hBY : buildL [([key], ⟨e.dc, e.n, ByteArray.empty, 7⟩)] = .mk [] [(key, tOne ⟨e.dc, e.n, ByteArray.empty, 7⟩)] := by
    have := build_lvs (pKey_ord (s := key) (e := ⟨e.dc, e.n, ByteArray.empty, 7⟩) hky)
    simpa [Tr.lvs, Tr.lvsL] using this
  obtain ⟨a1, a2, a3⟩ := ja_three hK hX hY (List.Perm.refl _)
  have hperm : [(Tr.mk [] [(key, tOne ⟨e.dc, e.n, ByteArray.empty, 7⟩)], ctxOf [e]), (t, knC t), (Tr.mk [] [], seenC t d)].Perm [(t, knC t), (Tr.mk [] [], seenC t d), (Tr.mk [] [(key, tOne ⟨e.dc, e.n, ByteArray.empty, 7⟩)], ctxOf [e])] := List.perm_append_comm (l₁ := [(Tr.mk [] [(key, tOne ⟨e.dc, e.n, ByteArray.empty, 7⟩)], ctxOf [e])]) (l₂ := [(t, knC t), (Tr.mk [] [], seenC t d)])
  obtain ⟨b1, b2, _⟩ := ja_three hK hX hY hperm
  have hT : (jn (jn (t, knC t) (Tr.mk [] [], seenC t d)) (Tr.mk [] [(key, tOne ⟨e.dc, e.n, ByteArray.empty, 7⟩)], ctxOf [e])).1 = .mk [] [(key, tOne ⟨e.dc, e.n, ByteArray.empty, 7⟩)] := by
    refine st_ext a3.ord (pKey_ord hky) fun p x => ?_
    rw [jn_st (jn_okK hK hX) hY, jn_st hK hX, jn_has hK hX, stE_nil, pKey_st hky, seen_hasB g1 g2, kn_hasB g1, hh, hed]
    by_cases hx : p = [key] ∧ x = e
    · obtain ⟨rfl, rfl⟩ := hx
      have hne : ¬ x = d := fun h => hde h.symm
      rw [stE_out hk.ord g5]
      simp [jnO, g5, hne]
    · rw [if_neg hx]
      cases hs : stE t p x with
      | none => simp [jnO]
      | some z => simp [jnO, stE_dots hk.ord hs]
  have s1 := (jn_sz hK hX).2
  have s2 := (jn_sz (jn_okK hK hX) hY).2
  have s3 := kn_sz (t := t) hz
  have s4 := seen_sz (t := t) (d := d) hz
  have s5 : (ctxOf [e]).length ≤ 4 * ([e].length + 1) := ctxOfK_len _ 4
  rw [List.length_singleton] at s5
  simp only at s1 s2
  have hbd := right_bd g4
  rw [hD, hR]
  refine ⟨_, .mk [] [], _, _, _, _, if_pos hc, if_pos hc, rfl, rfl, rfl, hUT, hUC, hUE, hBY, (congrArg Prod.fst a2).trans hT, congrArg Prod.snd a2, a1, (congrArg Prod.fst b2).trans hT, congrArg Prod.snd b2, b1, trEq_iff.2 rfl, ?_, by simp [Tr.sz, Tr.szL], by simp [Tr.sz, Tr.szL], by simp [Tr.sz, Tr.szL], s4, by omega, by omega, s3, fun s hs => by simp at hs; subst hs; simp; omega, right_nums g1⟩
  have hs := (kSame_ok a3 a3).2 rfl
  rw [hT] at hs
  exact hs
set_option maxHeartbeats 4000000 in
theorem lawKP_any (t : Tr) (key : ByteArray) (d : Dt) (e : Dt) (w : World) (ve0 vk0 : Value) (h0 : t.rd w w.heap.size ve0 vk0) (h1 : key.size ≤ Big) (h2 : d.Ok) (h3 : e.Ok) :
    Calls Tryz.prog 22 #[.agg #[ve0, vk0], .string key, .agg #[.int .i64 d.dc, .int .i64 d.n], .agg #[.int .i64 e.dc, .int .i64 e.n]] w fun e w' => e = .returned (.bool true) ∧ Below w.heap.size w w' := by
  have HC0 : Hid (∀ w', Below w.heap.size w w' → t.rd w' w'.heap.size ve0 vk0) := fun w' hb => rd_below hb hb.size _ _ _ h0
  obtain ⟨A0, n0, B0, m0, rfl, rfl⟩ := rd_shape h0
  clear h0
  have HX0 : Hid (∀ W, Below (w.heap.size + 3) (((w.alloc (.cells #[.slice A0 t.es.length n0, .slice B0 t.ks.length m0] 25)).alloc (.cells #[.int .i64 d.dc, .int .i64 d.n] 42)).alloc (.cells #[.int .i64 e.dc, .int .i64 e.n] 42)) W → (Below w.heap.size w W ∧ w.heap.size + 3 ≤ (W).heap.size ∧ t.rd W (W).heap.size (.slice A0 t.es.length n0) (.slice B0 t.ks.length m0) ∧ (W).cell? ⟨w.heap.size, 0, none⟩ = some (.slice A0 t.es.length n0) ∧ (W).cell? ⟨w.heap.size, 1, none⟩ = some (.slice B0 t.ks.length m0) ∧ (W).cell? ⟨(w.heap.size + 1), 0, none⟩ = some (.int .i64 d.dc) ∧ (W).cell? ⟨(w.heap.size + 1), 1, none⟩ = some (.int .i64 d.n) ∧ (W).cell? ⟨(w.heap.size + 2), 0, none⟩ = some (.int .i64 e.dc) ∧ (W).cell? ⟨(w.heap.size + 2), 1, none⟩ = some (.int .i64 e.n))) := fun W hW => by
    have g0 : W.heap[w.heap.size]? = some (.cells #[.slice A0 t.es.length n0, .slice B0 t.ks.length m0] 25 (0, 0)) := (hW.block _ (by omega)).trans ((heap_old (by simp <;> omega)).trans ((heap_old (by simp <;> omega)).trans (heap_new rfl)))
    have g1 : W.heap[(w.heap.size + 1)]? = some (.cells #[.int .i64 d.dc, .int .i64 d.n] 42 (0, 0)) := (hW.block _ (by omega)).trans ((heap_old (by simp <;> omega)).trans (heap_new (by simp)))
    have g2 : W.heap[(w.heap.size + 2)]? = some (.cells #[.int .i64 e.dc, .int .i64 e.n] 42 (0, 0)) := (hW.block _ (by omega)).trans (heap_new (by simp))
    have hB : Below w.heap.size w W := ((((Below.refl _ w).alloc (Nat.le_refl _) _).alloc (by simp <;> omega) _).alloc (by simp <;> omega) _).trans (hW.mono (by omega))
    exact ⟨hB, by have := hW.size; simpa using this, HC0.out _ hB, cell_cells (i := 0) g0, cell_cells (i := 1) g0, cell_cells (i := 0) g1, cell_cells (i := 1) g1, cell_cells (i := 0) g2, cell_cells (i := 1) g2⟩
  have hnb1 : w.heap.size + 1 ≠ w.heap.size := by omega
  have hnb2 : w.heap.size + 2 ≠ w.heap.size := by omega
  go_enter Tryz.func22, Tryz.ntmps22
  have gg := guardDot
  have nn := eqlDot d e
  go_wp2_with fail
  obtain ⟨hB, hs, rt0, c00, c01, c20, c21, c30, c31⟩ := HX0.out _ (Below.refl _ _)
  refine (awake14_any _).mono ?_
  rintro e w1 ⟨rfl, hb⟩
  have hbk1 : Hid (Below (w.heap.size + 3) (((w.alloc (.cells #[.slice A0 t.es.length n0, .slice B0 t.ks.length m0] 25)).alloc (.cells #[.int .i64 d.dc, .int .i64 d.n] 42)).alloc (.cells #[.int .i64 e.dc, .int .i64 e.n] 42)) w1) := hid (hb.mono (by first | omega | (simp; done) | (simp; omega)))
  clear hb
  clear hB hs rt0 c00 c01 c20 c21 c30 c31
  obtain ⟨hB, hs, rt0, c00, c01, c20, c21, c30, c31⟩ := HX0.out _ hbk1.out
  go_wp2_with fail
  refine (small14_any t _ _ _ rt0).mono ?_
  rintro e w2 ⟨rfl, hb⟩
  have hbk2 : Hid (Below (w.heap.size + 3) (((w.alloc (.cells #[.slice A0 t.es.length n0, .slice B0 t.ks.length m0] 25)).alloc (.cells #[.int .i64 d.dc, .int .i64 d.n] 42)).alloc (.cells #[.int .i64 e.dc, .int .i64 e.n] 42)) w2) := hid (hbk1.out.trans (hb.mono (by first | omega | (simp; done) | (simp; omega))))
  clear hb
  clear hB hs rt0 c00 c01 c20 c21 c30 c31
  obtain ⟨hB, hs, rt0, c00, c01, c20, c21, c30, c31⟩ := HX0.out _ hbk2.out
  cases hs : smlB t 60
  · clear hs
    go_wp2_with fail
    refine (awake14_any _).mono ?_
    rintro e w3 ⟨rfl, hb⟩
    have hbk3 : Hid (Below (w.heap.size + 3) (((w.alloc (.cells #[.slice A0 t.es.length n0, .slice B0 t.ks.length m0] 25)).alloc (.cells #[.int .i64 d.dc, .int .i64 d.n] 42)).alloc (.cells #[.int .i64 e.dc, .int .i64 e.n] 42)) w3) := hid (hbk2.out.trans (hb.mono (by first | omega | (simp; done) | (simp; omega))))
    clear hb
    clear hB hs rt0 c00 c01 c20 c21 c30 c31
    obtain ⟨hB, hs, rt0, c00, c01, c20, c21, c30, c31⟩ := HX0.out _ hbk3.out
    go_wp2_with fail
    go_ret
    exact ⟨rfl, hB⟩
  have hsz : t.sz ≤ 60 := by have := sml_sz hs; omega
  clear hs
  cases hde : decide (d = e)
  · skip
    go_wp2_with fail
    refine (r10check_any t d _ _ _ rt0 (by omega)).mono ?_
    rintro e w3 ⟨rfl, hb⟩
    have hbk3 : Hid (Below (w.heap.size + 3) (((w.alloc (.cells #[.slice A0 t.es.length n0, .slice B0 t.ks.length m0] 25)).alloc (.cells #[.int .i64 d.dc, .int .i64 d.n] 42)).alloc (.cells #[.int .i64 e.dc, .int .i64 e.n] 42)) w3) := hid (hbk2.out.trans (hb.mono (by first | omega | (simp; done) | (simp; omega))))
    clear hb
    clear hB hs rt0 c00 c01 c20 c21 c30 c31
    obtain ⟨hB, hs, rt0, c00, c01, c20, c21, c30, c31⟩ := HX0.out _ hbk3.out
    cases hc : chkT t d
    · clear hc
      go_wp2_with fail
      refine (awake14_any _).mono ?_
      rintro e w4 ⟨rfl, hb⟩
      have hbk4 : Hid (Below (w.heap.size + 3) (((w.alloc (.cells #[.slice A0 t.es.length n0, .slice B0 t.ks.length m0] 25)).alloc (.cells #[.int .i64 d.dc, .int .i64 d.n] 42)).alloc (.cells #[.int .i64 e.dc, .int .i64 e.n] 42)) w4) := hid (hbk3.out.trans (hb.mono (by first | omega | (simp; done) | (simp; omega))))
      clear hb
      clear hB hs rt0 c00 c01 c20 c21 c30 c31
      obtain ⟨hB, hs, rt0, c00, c01, c20, c21, c30, c31⟩ := HX0.out _ hbk4.out
      go_wp2_with fail
      go_ret
      exact ⟨rfl, hB⟩
    go_wp2_with fail
    refine (r10check_any t e _ _ _ rt0 (by omega)).mono ?_
    rintro e w4 ⟨rfl, hb⟩
    have hbk4 : Hid (Below (w.heap.size + 3) (((w.alloc (.cells #[.slice A0 t.es.length n0, .slice B0 t.ks.length m0] 25)).alloc (.cells #[.int .i64 d.dc, .int .i64 d.n] 42)).alloc (.cells #[.int .i64 e.dc, .int .i64 e.n] 42)) w4) := hid (hbk3.out.trans (hb.mono (by first | omega | (simp; done) | (simp; omega))))
    clear hb
    clear hB hs rt0 c00 c01 c20 c21 c30 c31
    obtain ⟨hB, hs, rt0, c00, c01, c20, c21, c30, c31⟩ := HX0.out _ hbk4.out
    cases hc2 : chkT t e
    · clear hc2
      go_wp2_with fail
      refine (awake14_any _).mono ?_
      rintro e w5 ⟨rfl, hb⟩
      have hbk5 : Hid (Below (w.heap.size + 3) (((w.alloc (.cells #[.slice A0 t.es.length n0, .slice B0 t.ks.length m0] 25)).alloc (.cells #[.int .i64 d.dc, .int .i64 d.n] 42)).alloc (.cells #[.int .i64 e.dc, .int .i64 e.n] 42)) w5) := hid (hbk4.out.trans (hb.mono (by first | omega | (simp; done) | (simp; omega))))
      clear hb
      clear hB hs rt0 c00 c01 c20 c21 c30 c31
      obtain ⟨hB, hs, rt0, c00, c01, c20, c21, c30, c31⟩ := HX0.out _ hbk5.out
      go_wp2_with fail
      go_ret
      exact ⟨rfl, hB⟩
    go_wp2_with fail
    refine (r08key_any key _).mono ?_
    rintro e w5 ⟨rfl, hb⟩
    have hbk5 : Hid (Below (w.heap.size + 3) (((w.alloc (.cells #[.slice A0 t.es.length n0, .slice B0 t.ks.length m0] 25)).alloc (.cells #[.int .i64 d.dc, .int .i64 d.n] 42)).alloc (.cells #[.int .i64 e.dc, .int .i64 e.n] 42)) w5) := hid (hbk4.out.trans (hb.mono (by first | omega | (simp; done) | (simp; omega))))
    clear hb
    clear hB hs rt0 c00 c01 c20 c21 c30 c31
    obtain ⟨hB, hs, rt0, c00, c01, c20, c21, c30, c31⟩ := HX0.out _ hbk5.out
    cases hky : keyB key
    · clear hky
      go_wp2_with fail
      refine (awake14_any _).mono ?_
      rintro e w6 ⟨rfl, hb⟩
      have hbk6 : Hid (Below (w.heap.size + 3) (((w.alloc (.cells #[.slice A0 t.es.length n0, .slice B0 t.ks.length m0] 25)).alloc (.cells #[.int .i64 d.dc, .int .i64 d.n] 42)).alloc (.cells #[.int .i64 e.dc, .int .i64 e.n] 42)) w6) := hid (hbk5.out.trans (hb.mono (by first | omega | (simp; done) | (simp; omega))))
      clear hb
      clear hB hs rt0 c00 c01 c20 c21 c30 c31
      obtain ⟨hB, hs, rt0, c00, c01, c20, c21, c30, c31⟩ := HX0.out _ hbk6.out
      go_wp2_with fail
      go_ret
      exact ⟨rfl, hB⟩
    have hfi : decide ((24 : Int) ≤ (t.ks.length : Int)) = decide (24 ≤ t.ks.length) := by rw [Bool.eq_iff_iff]; simp; omega
    cases fl : decide (24 ≤ t.ks.length)
    · rw [fl] at hfi
      obtain ⟨D, X, Y, S, R, U, HDI, HCI, HXN, HDD, HRR, HUT, HUC, HUE, HBY, HA1, HA2, HA3, HB1, HB2, HB3, HTE, HSM, hX1, hY1, hD1, hS1, hR1, hU1, hK1, HSP, HN⟩ := kp_plain hc hc2 (by simpa using hde) hky (by simpa using fl) hsz
      clear hc hc2 hde hky
      have HEO : Hid (En.Ok ⟨e.dc, e.n, ByteArray.empty, 7⟩) := En.Ok.mk' h3 ⟨by decide, by decide⟩
      go_wp2_with fail
      refine (oreset_any t d _ _ _ rt0 (by omega) h2).mono ?_
      rw [HDI.out, HCI.out, ← HXN.out]
      rintro e w6 ⟨xe6, xk6, xc6, rfl, hrd6, hsl6, hb⟩
      obtain ⟨A6x, n6x, B6x, m6x, rfl, rfl⟩ := rda_shape hrd6
      obtain ⟨D6x, k6x, rfl⟩ := hsl6.shape
      have hbk6 : Hid (Below (w.heap.size + 3) (((w.alloc (.cells #[.slice A0 t.es.length n0, .slice B0 t.ks.length m0] 25)).alloc (.cells #[.int .i64 d.dc, .int .i64 d.n] 42)).alloc (.cells #[.int .i64 e.dc, .int .i64 e.n] 42)) w6) := hid (hbk5.out.trans (hb.mono (by first | omega | (simp; done) | (simp; omega))))
      clear hb
      clear hB hs rt0 c00 c01 c20 c21 c30 c31
      obtain ⟨hB, hs, rt0, c00, c01, c20, c21, c30, c31⟩ := HX0.out _ hbk6.out
      have hlt6783 : w.heap.size < w6.heap.size := by omega
      have hne6783 : w.heap.size ≠ w6.heap.size := by omega
      have hnr6783 : w6.heap.size ≠ w.heap.size := by omega
      have hlt6768 : (w.heap.size + 1) < w6.heap.size := by omega
      have hne6768 : (w.heap.size + 1) ≠ w6.heap.size := by omega
      have hnr6768 : w6.heap.size ≠ (w.heap.size + 1) := by omega
      have hlt636 : (w.heap.size + 2) < w6.heap.size := by omega
      have hne636 : (w.heap.size + 2) ≠ w6.heap.size := by omega
      have hnr636 : w6.heap.size ≠ (w.heap.size + 2) := by omega
      have HX1 : Hid (∀ W, Below (w6.heap.size + 1) (w6.alloc (.cells #[.slice A6x X.es.length n6x, .slice B6x X.ks.length m6x, .slice D6x S.length k6x] 29)) W → (w6.heap.size + 1 ≤ (W).heap.size ∧ X.rd W (W).heap.size (.slice A6x X.es.length n6x) (.slice B6x X.ks.length m6x) ∧ SlP W (W).heap.size 3 SpE (.slice D6x S.length k6x) S ∧ (W).cell? ⟨w6.heap.size, 0, none⟩ = some (.slice A6x X.es.length n6x) ∧ (W).cell? ⟨w6.heap.size, 1, none⟩ = some (.slice B6x X.ks.length m6x) ∧ (W).cell? ⟨w6.heap.size, 2, none⟩ = some (.slice D6x S.length k6x) ∧ Below w.heap.size w W ∧ w.heap.size + 3 ≤ (W).heap.size ∧ t.rd W (W).heap.size (.slice A0 t.es.length n0) (.slice B0 t.ks.length m0) ∧ (W).cell? ⟨w.heap.size, 0, none⟩ = some (.slice A0 t.es.length n0) ∧ (W).cell? ⟨w.heap.size, 1, none⟩ = some (.slice B0 t.ks.length m0) ∧ (W).cell? ⟨(w.heap.size + 1), 0, none⟩ = some (.int .i64 d.dc) ∧ (W).cell? ⟨(w.heap.size + 1), 1, none⟩ = some (.int .i64 d.n) ∧ (W).cell? ⟨(w.heap.size + 2), 0, none⟩ = some (.int .i64 e.dc) ∧ (W).cell? ⟨(w.heap.size + 2), 1, none⟩ = some (.int .i64 e.n))) := fun W hW => by
        have g0 := (hW.block w6.heap.size (by omega)).trans (heap_new rfl)
        have hB : Below w6.heap.size w6 W := ((Below.refl _ w6).alloc (Nat.le_refl _) _).trans (hW.mono (by omega))
        exact ⟨by have := hW.size; simpa using this, rda_rd hrd6 (fun b hb => hb.2) hB, hsl6.slp (fun b hb => hb.2) hB, cell_cells (i := 0) g0, cell_cells (i := 1) g0, cell_cells (i := 2) g0, HX0.out W (hbk6.out.trans (hB.mono (by omega)))⟩
      clear hrd6 hsl6
      clear hfi fl nn gg
      go_upto_region 4 with (fail)
      clear hB hs rt0 c00 c01 c20 c21 c30 c31
      obtain ⟨hs_x, rt_x, rc_x, c0_x, c1_x, c2_x, hB, hs, rt0, c00, c01, c20, c21, c30, c31⟩ := HX1.out _ (Below.refl _ _)
      have HK1 : Hid (∀ W, Below (w6.heap.size + 1) (w6.alloc (.cells #[.slice A6x X.es.length n6x, .slice B6x X.ks.length m6x, .slice D6x S.length k6x] 29)) W → ((W).cell? ⟨w.heap.size, 0, none⟩ = some (.slice A0 t.es.length n0) ∧ (W).cell? ⟨w.heap.size, 1, none⟩ = some (.slice B0 t.ks.length m0) ∧ (W).cell? ⟨(w.heap.size + 2), 0, none⟩ = some (.int .i64 e.dc) ∧ (W).cell? ⟨(w.heap.size + 2), 1, none⟩ = some (.int .i64 e.n))) := fun W hW => by
        obtain ⟨_, _, _, _, _, _, _, _, _, z_c00, z_c01, _, _, z_c30, z_c31⟩ := HX1.out W hW
        exact ⟨z_c00, z_c01, z_c30, z_c31⟩
      have Hrt_x_1 : Hid (∀ W, Below (w6.heap.size + 1) (w6.alloc (.cells #[.slice A6x X.es.length n6x, .slice B6x X.ks.length m6x, .slice D6x S.length k6x] 29)) W → X.rd W (W).heap.size (.slice A6x X.es.length n6x) (.slice B6x X.ks.length m6x)) := fun W hW => by
        obtain ⟨_, z, _, _, _, _, _, _, _, _, _, _, _, _, _⟩ := HX1.out W hW
        exact z
      have Hrc_x_1 : Hid (∀ W, Below (w6.heap.size + 1) (w6.alloc (.cells #[.slice A6x X.es.length n6x, .slice B6x X.ks.length m6x, .slice D6x S.length k6x] 29)) W → SlP W (W).heap.size 3 SpE (.slice D6x S.length k6x) S) := fun W hW => by
        obtain ⟨_, _, z, _, _, _, _, _, _, _, _, _, _, _, _⟩ := HX1.out W hW
        exact z
      have Hrt0_1 : Hid (∀ W, Below (w6.heap.size + 1) (w6.alloc (.cells #[.slice A6x X.es.length n6x, .slice B6x X.ks.length m6x, .slice D6x S.length k6x] 29)) W → t.rd W (W).heap.size (.slice A0 t.es.length n0) (.slice B0 t.ks.length m0)) := fun W hW => by
        obtain ⟨_, _, _, _, _, _, _, _, z, _, _, _, _, _, _⟩ := HX1.out W hW
        exact z
      have HS_1 : Hid (∀ W, Below (w6.heap.size + 1) (w6.alloc (.cells #[.slice A6x X.es.length n6x, .slice B6x X.ks.length m6x, .slice D6x S.length k6x] 29)) W → (w6.heap.size + 1) ≤ W.heap.size) := fun W hW => by
        have := hW.size
        first | omega | (simp at this; omega)
      have hsb1 := HS_1.out _ (Below.refl _ _)
      clear rt_x rc_x c0_x c1_x c2_x hB rt0 c20 c21
      go_cut [11, 12] (fun s11 s12 wx => s12 = .int .i64 0 ∧ Box3 (w6.heap.size + 1) (w6.alloc (.cells #[.slice A6x X.es.length n6x, .slice B6x X.ks.length m6x, .slice D6x S.length k6x] 29)) 29 Y R s11 wx)
      case first =>
        go_region_held3 (fun W => (W).cell? ⟨w.heap.size, 0, none⟩ = some (.slice A0 t.es.length n0) ∧ (W).cell? ⟨w.heap.size, 1, none⟩ = some (.slice B0 t.ks.length m0) ∧ (W).cell? ⟨(w.heap.size + 2), 0, none⟩ = some (.int .i64 e.dc) ∧ (W).cell? ⟨(w.heap.size + 2), 1, none⟩ = some (.int .i64 e.n))
          (first | go_keep | exact HK1.out _ hbr8.out | exact HK1.out _ (hbr8.out.trans (by go_grown)) | exact HK1.out _ hbr7.out | exact HK1.out _ (hbr7.out.trans (by go_grown)) | exact HK1.out _ (((hbr8.out.setCell (by first | (simp; done) | (simp; omega)) _).setCell (by first | (simp; done) | (simp; omega)) _).setCell (by first | (simp; done) | (simp; omega)) _) | exact HK1.out _ (by go_grown) | fail)
          (first
            | (go_at_call 77; go_loud ((refine (oupdate_any t D R key _ _ _ _ _ _ (Hrt0_1.out _ (hbr7.out.trans (by go_grown))) (HRP.out _ (by go_grown)) (HLP.out _ (by go_grown)) h1 (by omega) (by omega) (by omega)).mono ?_); rw [HUT.out, HUC.out, HUE.out]; rintro e w8 ⟨xe8, xk8, xc8, rfl, hrd8, hsl8, hb⟩; have hbr8 : Hid (Below (w6.heap.size + 1) (w6.alloc (.cells #[.slice A6x X.es.length n6x, .slice B6x X.ks.length m6x, .slice D6x S.length k6x] 29)) w8) := hid (Below.trans (hbr7.out.trans (by go_grown)) (hb.mono (by first | omega | (simp; done) | (simp; omega)))); have hsr8 := HS_1.out _ hbr8.out; have hch7_8 : Hid (Below w7.heap.size w7 w8) := hid (Below.trans (by go_grown) (hb.mono (by first | omega | (simp; done) | (simp; omega)))); obtain ⟨Ar8, nr8, Br8, mr8, hv1, hv2⟩ := rda_shape hrd8; subst hv1; subst hv2; obtain ⟨Dr8, kr8, hv3⟩ := hsl8.shape; subst hv3; have HR8 := hid hrd8; have HL8 := hid hsl8; clear hrd8 hsl8; (first | (have HG8 : Hid (w8.heap[w7.heap.size]? = some (.cells #[.slice none 0 0, .slice none 0 0, .slice none 0 0] 29 (0, 0))) := hid (z_new hb); have k0 : w8.cell? ⟨w7.heap.size, 0, none⟩ = some (.slice none 0 0) := cell_cells (i := 0) HG8.out; have k1 : w8.cell? ⟨w7.heap.size, 1, none⟩ = some (.slice none 0 0) := cell_cells (i := 1) HG8.out; have k2 : w8.cell? ⟨w7.heap.size, 2, none⟩ = some (.slice none 0 0) := cell_cells (i := 2) HG8.out; have z0 := cells_frz (i := 0) HG8.out; have z1 := cells_frz (i := 1) HG8.out; have z2 := cells_frz (i := 2) HG8.out; have hna0 : w.heap.size ≠ w7.heap.size := (by omega); have hnb0 : w7.heap.size ≠ w.heap.size := (by omega); have hna1 : (w.heap.size + 1) ≠ w7.heap.size := (by omega); have hnb1 : w7.heap.size ≠ (w.heap.size + 1) := (by omega); have hna2 : (w.heap.size + 2) ≠ w7.heap.size := (by omega); have hnb2 : w7.heap.size ≠ (w.heap.size + 2) := (by omega); have hna3 : w6.heap.size ≠ w7.heap.size := (by omega); have hnb3 : w7.heap.size ≠ w6.heap.size := (by omega)) | (have HG8 : Hid (w8.heap[(w6.heap.size + 1)]? = some (.cells #[.slice none 0 0, .slice none 0 0, .slice none 0 0] 29 (0, 0))) := hid ((hb.block _ (lt_of_block HGA.out)).trans HGA.out); have k0 : w8.cell? ⟨(w6.heap.size + 1), 0, none⟩ = some (.slice none 0 0) := cell_cells (i := 0) HG8.out; have k1 : w8.cell? ⟨(w6.heap.size + 1), 1, none⟩ = some (.slice none 0 0) := cell_cells (i := 1) HG8.out; have k2 : w8.cell? ⟨(w6.heap.size + 1), 2, none⟩ = some (.slice none 0 0) := cell_cells (i := 2) HG8.out; have z0 := cells_frz (i := 0) HG8.out; have z1 := cells_frz (i := 1) HG8.out; have z2 := cells_frz (i := 2) HG8.out; have hna0 : w.heap.size ≠ (w6.heap.size + 1) := (by omega); have hnb0 : (w6.heap.size + 1) ≠ w.heap.size := (by omega); have hna1 : (w.heap.size + 1) ≠ (w6.heap.size + 1) := (by omega); have hnb1 : (w6.heap.size + 1) ≠ (w.heap.size + 1) := (by omega); have hna2 : (w.heap.size + 2) ≠ (w6.heap.size + 1) := (by omega); have hnb2 : (w6.heap.size + 1) ≠ (w.heap.size + 2) := (by omega); have hna3 : w6.heap.size ≠ (w6.heap.size + 1) := (by omega); have hnb3 : (w6.heap.size + 1) ≠ w6.heap.size := (by omega)) | skip); clear hb))
            | (go_at_call 83; go_loud ((refine (r10put_any [] ⟨e.dc, e.n, ByteArray.empty, 7⟩ [] _ _ _ HEO.out SlP.nil SlP.nil (by simp) (fun _ h => by cases h) HSP.out).mono ?_); rw [HDD.out, HRR.out]; rintro e w7 ⟨xe7, xk7, xc7, rfl, hrd7, hsl7, hb⟩; have hbr7 : Hid (Below (w6.heap.size + 1) (w6.alloc (.cells #[.slice A6x X.es.length n6x, .slice B6x X.ks.length m6x, .slice D6x S.length k6x] 29)) w7) := hid (Below.trans (by go_grown) (hb.mono (by first | omega | (simp; done) | (simp; omega)))); have hsr7 := HS_1.out _ hbr7.out; obtain ⟨Ar7, nr7, Br7, mr7, hv1, hv2⟩ := rda_shape hrd7; subst hv1; subst hv2; obtain ⟨Dr7, kr7, hv3⟩ := hsl7.shape; subst hv3; have HR7 := hid hrd7; have HL7 := hid hsl7; clear hrd7 hsl7; have HRP : Hid (∀ W, Below w7.heap.size w7 W → D.rd W W.heap.size (.slice Ar7 D.es.length nr7) (.slice Br7 D.ks.length mr7)) := fun W hW => rda_rd HR7.out (fun b hb => hb.2) hW; have HLP : Hid (∀ W, Below w7.heap.size w7 W → SlP W W.heap.size 3 SpE (.slice Dr7 R.length kr7) R) := fun W hW => HL7.out.slp (fun b hb => hb.2) hW; (first | (have HGA : Hid (w7.heap[(w6.heap.size + 1)]? = some (.cells #[.slice none 0 0, .slice none 0 0, .slice none 0 0] 29 (0, 0))) := hid (z_new2D hb)) | (have HGA : Hid (w7.heap[(w6.heap.size + 1)]? = some (.cells #[.slice none 0 0, .slice none 0 0, .slice none 0 0] 29 (0, 0))) := hid (z_newD hb)) | (have HGA : Hid (w7.heap[(w6.heap.size + 1)]? = some (.cells #[.slice none 0 0, .slice none 0 0, .slice none 0 0] 29 (0, 0))) := hid (z_new2 hb)) | (have HGA : Hid (w7.heap[(w6.heap.size + 1)]? = some (.cells #[.slice none 0 0, .slice none 0 0, .slice none 0 0] 29 (0, 0))) := hid (z_new hb)) | skip); clear hb)))
        all_goals
          go_wp2_with fail
          go_meet
          case rel => exact ⟨rfl, (by first | exact box_new hbr8.out (HS_1.out _ hbr8.out) HR8.out HL8.out | exact box_set HG8.out hbr8.out (by omega) (by first | (simp; done) | (simp; omega) | exact lt_of_block HGA.out | (have := lt_of_block HGA.out; simp; omega)) HR8.out HL8.out)⟩
      case rest =>
        obtain ⟨rfl, g9, xe9, xk9, xc9, rfl, hG9, hrd9, hsl9, hbz⟩ := hcut
        obtain ⟨A9x, n9x, B9x, m9x, rfl, rfl⟩ := rd_shape hrd9
        obtain ⟨D9x, k9x, rfl, _⟩ := id hsl9
        have hlg9 := lt_of_block hG9
        obtain ⟨wq9, hwq9⟩ : ∃ z : World, z = wc := ⟨wc, rfl⟩
        subst hwq9
        have HSZ9 : Hid ((w6.heap.size + 1) ≤ wq9.heap.size) := HS_1.out _ hbz
        have HX2 : Hid (∀ W, Below wq9.heap.size wq9 W → (wq9.heap.size ≤ (W).heap.size ∧ Y.rd W (W).heap.size (.slice A9x Y.es.length n9x) (.slice B9x Y.ks.length m9x) ∧ SlP W (W).heap.size 3 SpE (.slice D9x R.length k9x) R ∧ (W).cell? ⟨g9, 0, none⟩ = some (.slice A9x Y.es.length n9x) ∧ (W).cell? ⟨g9, 1, none⟩ = some (.slice B9x Y.ks.length m9x) ∧ (W).cell? ⟨g9, 2, none⟩ = some (.slice D9x R.length k9x) ∧ w6.heap.size + 1 ≤ (W).heap.size ∧ X.rd W (W).heap.size (.slice A6x X.es.length n6x) (.slice B6x X.ks.length m6x) ∧ SlP W (W).heap.size 3 SpE (.slice D6x S.length k6x) S ∧ (W).cell? ⟨w6.heap.size, 0, none⟩ = some (.slice A6x X.es.length n6x) ∧ (W).cell? ⟨w6.heap.size, 1, none⟩ = some (.slice B6x X.ks.length m6x) ∧ (W).cell? ⟨w6.heap.size, 2, none⟩ = some (.slice D6x S.length k6x) ∧ Below w.heap.size w W ∧ w.heap.size + 3 ≤ (W).heap.size ∧ t.rd W (W).heap.size (.slice A0 t.es.length n0) (.slice B0 t.ks.length m0) ∧ (W).cell? ⟨w.heap.size, 0, none⟩ = some (.slice A0 t.es.length n0) ∧ (W).cell? ⟨w.heap.size, 1, none⟩ = some (.slice B0 t.ks.length m0) ∧ (W).cell? ⟨(w.heap.size + 1), 0, none⟩ = some (.int .i64 d.dc) ∧ (W).cell? ⟨(w.heap.size + 1), 1, none⟩ = some (.int .i64 d.n) ∧ (W).cell? ⟨(w.heap.size + 2), 0, none⟩ = some (.int .i64 e.dc) ∧ (W).cell? ⟨(w.heap.size + 2), 1, none⟩ = some (.int .i64 e.n))) := fun W hW => by
          have g0 := (hW.block g9 hlg9).trans hG9
          exact ⟨hW.size, rd_below hW hW.size _ _ _ hrd9, hsl9.imp hW hW.size (fun _ _ _ h => h), cell_cells (i := 0) g0, cell_cells (i := 1) g0, cell_cells (i := 2) g0, HX1.out W (hbz.trans (hW.mono HSZ9.out))⟩
        clear hrd9 hsl9 hG9
        clear hs_x hs c00 c01 c30 c31
        obtain ⟨hs_y, rt_y, rc_y, c0_y, c1_y, c2_y, hs_x, rt_x, rc_x, c0_x, c1_x, c2_x, hB, hs, rt0, c00, c01, c20, c21, c30, c31⟩ := HX2.out _ (Below.refl _ _)
        go_upto_region 5 with (fail)
        have HK2 : Hid (∀ W, Below wq9.heap.size wq9 W → ((W).cell? ⟨g9, 0, none⟩ = some (.slice A9x Y.es.length n9x) ∧ (W).cell? ⟨g9, 1, none⟩ = some (.slice B9x Y.ks.length m9x) ∧ (W).cell? ⟨g9, 2, none⟩ = some (.slice D9x R.length k9x) ∧ (W).cell? ⟨w6.heap.size, 0, none⟩ = some (.slice A6x X.es.length n6x) ∧ (W).cell? ⟨w6.heap.size, 1, none⟩ = some (.slice B6x X.ks.length m6x) ∧ (W).cell? ⟨w6.heap.size, 2, none⟩ = some (.slice D6x S.length k6x) ∧ (W).cell? ⟨w.heap.size, 0, none⟩ = some (.slice A0 t.es.length n0) ∧ (W).cell? ⟨w.heap.size, 1, none⟩ = some (.slice B0 t.ks.length m0))) := fun W hW => by
          obtain ⟨_, _, _, z_c0_y, z_c1_y, z_c2_y, _, _, _, z_c0_x, z_c1_x, z_c2_x, _, _, _, z_c00, z_c01, _, _, _, _⟩ := HX2.out W hW
          exact ⟨z_c0_y, z_c1_y, z_c2_y, z_c0_x, z_c1_x, z_c2_x, z_c00, z_c01⟩
        have Hrt_y_2 : Hid (∀ W, Below wq9.heap.size wq9 W → Y.rd W (W).heap.size (.slice A9x Y.es.length n9x) (.slice B9x Y.ks.length m9x)) := fun W hW => by
          obtain ⟨_, z, _, _, _, _, _, _, _, _, _, _, _, _, _, _, _, _, _, _, _⟩ := HX2.out W hW
          exact z
        have Hrc_y_2 : Hid (∀ W, Below wq9.heap.size wq9 W → SlP W (W).heap.size 3 SpE (.slice D9x R.length k9x) R) := fun W hW => by
          obtain ⟨_, _, z, _, _, _, _, _, _, _, _, _, _, _, _, _, _, _, _, _, _⟩ := HX2.out W hW
          exact z
        have Hrt_x_2 : Hid (∀ W, Below wq9.heap.size wq9 W → X.rd W (W).heap.size (.slice A6x X.es.length n6x) (.slice B6x X.ks.length m6x)) := fun W hW => by
          obtain ⟨_, _, _, _, _, _, _, z, _, _, _, _, _, _, _, _, _, _, _, _, _⟩ := HX2.out W hW
          exact z
        have Hrc_x_2 : Hid (∀ W, Below wq9.heap.size wq9 W → SlP W (W).heap.size 3 SpE (.slice D6x S.length k6x) S) := fun W hW => by
          obtain ⟨_, _, _, _, _, _, _, _, z, _, _, _, _, _, _, _, _, _, _, _, _⟩ := HX2.out W hW
          exact z
        have Hrt0_2 : Hid (∀ W, Below wq9.heap.size wq9 W → t.rd W (W).heap.size (.slice A0 t.es.length n0) (.slice B0 t.ks.length m0)) := fun W hW => by
          obtain ⟨_, _, _, _, _, _, _, _, _, _, _, _, _, _, z, _, _, _, _, _, _⟩ := HX2.out W hW
          exact z
        have HS_2 : Hid (∀ W, Below wq9.heap.size wq9 W → wq9.heap.size ≤ W.heap.size) := fun W hW => by
          have := hW.size
          first | omega | (simp at this; omega)
        have hsb2 := HS_2.out _ (Below.refl _ _)
        clear rt_y rc_y rt_x rc_x hB rt0 c20 c21 c30 c31
        go_cut [13, 14] (fun s13 s14 wx => s14 = .int .i64 0 ∧ Box3 wq9.heap.size wq9 29 Y U s13 wx)
        case first =>
          go_region_held3 (fun W => (W).cell? ⟨g9, 0, none⟩ = some (.slice A9x Y.es.length n9x) ∧ (W).cell? ⟨g9, 1, none⟩ = some (.slice B9x Y.ks.length m9x) ∧ (W).cell? ⟨g9, 2, none⟩ = some (.slice D9x R.length k9x) ∧ (W).cell? ⟨w6.heap.size, 0, none⟩ = some (.slice A6x X.es.length n6x) ∧ (W).cell? ⟨w6.heap.size, 1, none⟩ = some (.slice B6x X.ks.length m6x) ∧ (W).cell? ⟨w6.heap.size, 2, none⟩ = some (.slice D6x S.length k6x) ∧ (W).cell? ⟨w.heap.size, 0, none⟩ = some (.slice A0 t.es.length n0) ∧ (W).cell? ⟨w.heap.size, 1, none⟩ = some (.slice B0 t.ks.length m0))
            (first | go_keep | exact HK2.out _ hbr11.out | exact HK2.out _ (hbr11.out.trans (by go_grown)) | exact HK2.out _ hbr10.out | exact HK2.out _ (hbr10.out.trans (by go_grown)) | exact HK2.out _ (((hbr11.out.setCell (by first | (simp; done) | (simp; omega)) _).setCell (by first | (simp; done) | (simp; omega)) _).setCell (by first | (simp; done) | (simp; omega)) _) | exact HK2.out _ (by go_grown) | fail)
            (first
              | (go_at_call 29; go_loud ((refine (joinAll_any [(t, knC t), (X, S), (Y, R)] _ _ (slp3 (by first | exact heap_new rfl | exact heap_new (by simp) | exact (heap_old (by simp)).trans (heap_new rfl) | exact (heap_old (by simp)).trans (heap_new (by simp))) (kn_at (Hrt0_2.out _ (hbr10.out.trans (by go_grown))) (HLK.out _ (by go_grown))) (kn_at (Hrt_x_2.out _ (hbr10.out.trans (by go_grown))) (Hrc_x_2.out _ (hbr10.out.trans (by go_grown)))) (kn_at (Hrt_y_2.out _ (hbr10.out.trans (by go_grown))) (Hrc_y_2.out _ (hbr10.out.trans (by go_grown)))) (by first | (simp; done) | (simp; omega))) (by simp; omega) (by simp; omega)).mono ?_); rw [HA1.out, HA2.out, HA3.out]; rintro e w11 ⟨xe11, xk11, xc11, rfl, hrd11, hsl11, hb⟩; have hbr11 : Hid (Below wq9.heap.size wq9 w11) := hid (Below.trans (hbr10.out.trans (by go_grown)) (hb.mono (by first | omega | (simp; done) | (simp; omega)))); have hsr11 := HS_2.out _ hbr11.out; have hch10_11 : Hid (Below w10.heap.size w10 w11) := hid (Below.trans (by go_grown) (hb.mono (by first | omega | (simp; done) | (simp; omega)))); obtain ⟨Ar11, nr11, Br11, mr11, hv1, hv2⟩ := rda_shape hrd11; subst hv1; subst hv2; obtain ⟨Dr11, kr11, hv3⟩ := hsl11.shape; subst hv3; have HR11 := hid hrd11; have HL11 := hid hsl11; clear hrd11 hsl11; (first | (have HG11 : Hid (w11.heap[w10.heap.size]? = some (.cells #[.slice none 0 0, .slice none 0 0, .slice none 0 0] 29 (0, 0))) := hid (z_newS hb); have k0 : w11.cell? ⟨w10.heap.size, 0, none⟩ = some (.slice none 0 0) := cell_cells (i := 0) HG11.out; have k1 : w11.cell? ⟨w10.heap.size, 1, none⟩ = some (.slice none 0 0) := cell_cells (i := 1) HG11.out; have k2 : w11.cell? ⟨w10.heap.size, 2, none⟩ = some (.slice none 0 0) := cell_cells (i := 2) HG11.out; have z0 := cells_frz (i := 0) HG11.out; have z1 := cells_frz (i := 1) HG11.out; have z2 := cells_frz (i := 2) HG11.out; have hna0 : w.heap.size ≠ w10.heap.size := (by omega); have hnb0 : w10.heap.size ≠ w.heap.size := (by omega); have hna1 : (w.heap.size + 1) ≠ w10.heap.size := (by omega); have hnb1 : w10.heap.size ≠ (w.heap.size + 1) := (by omega); have hna2 : (w.heap.size + 2) ≠ w10.heap.size := (by omega); have hnb2 : w10.heap.size ≠ (w.heap.size + 2) := (by omega); have hna3 : w6.heap.size ≠ w10.heap.size := (by omega); have hnb3 : w10.heap.size ≠ w6.heap.size := (by omega); have hna4 : g9 ≠ w10.heap.size := (by omega); have hnb4 : w10.heap.size ≠ g9 := (by omega)) | (have HG11 : Hid (w11.heap[(w10.heap.size + 1)]? = some (.cells #[.slice none 0 0, .slice none 0 0, .slice none 0 0] 29 (0, 0))) := hid (z_new2 hb); have k0 : w11.cell? ⟨(w10.heap.size + 1), 0, none⟩ = some (.slice none 0 0) := cell_cells (i := 0) HG11.out; have k1 : w11.cell? ⟨(w10.heap.size + 1), 1, none⟩ = some (.slice none 0 0) := cell_cells (i := 1) HG11.out; have k2 : w11.cell? ⟨(w10.heap.size + 1), 2, none⟩ = some (.slice none 0 0) := cell_cells (i := 2) HG11.out; have z0 := cells_frz (i := 0) HG11.out; have z1 := cells_frz (i := 1) HG11.out; have z2 := cells_frz (i := 2) HG11.out; have hna0 : w.heap.size ≠ (w10.heap.size + 1) := (by omega); have hnb0 : (w10.heap.size + 1) ≠ w.heap.size := (by omega); have hna1 : (w.heap.size + 1) ≠ (w10.heap.size + 1) := (by omega); have hnb1 : (w10.heap.size + 1) ≠ (w.heap.size + 1) := (by omega); have hna2 : (w.heap.size + 2) ≠ (w10.heap.size + 1) := (by omega); have hnb2 : (w10.heap.size + 1) ≠ (w.heap.size + 2) := (by omega); have hna3 : w6.heap.size ≠ (w10.heap.size + 1) := (by omega); have hnb3 : (w10.heap.size + 1) ≠ w6.heap.size := (by omega); have hna4 : g9 ≠ (w10.heap.size + 1) := (by omega); have hnb4 : (w10.heap.size + 1) ≠ g9 := (by omega)) | (have HG11 : Hid (w11.heap[wq9.heap.size]? = some (.cells #[.slice none 0 0, .slice none 0 0, .slice none 0 0] 29 (0, 0))) := hid ((hb.block _ (by have := lt_of_block HGA.out; first | omega | (simp; omega))).trans ((heap_old (lt_of_block HGA.out)).trans HGA.out)); have k0 : w11.cell? ⟨wq9.heap.size, 0, none⟩ = some (.slice none 0 0) := cell_cells (i := 0) HG11.out; have k1 : w11.cell? ⟨wq9.heap.size, 1, none⟩ = some (.slice none 0 0) := cell_cells (i := 1) HG11.out; have k2 : w11.cell? ⟨wq9.heap.size, 2, none⟩ = some (.slice none 0 0) := cell_cells (i := 2) HG11.out; have z0 := cells_frz (i := 0) HG11.out; have z1 := cells_frz (i := 1) HG11.out; have z2 := cells_frz (i := 2) HG11.out; have hna0 : w.heap.size ≠ wq9.heap.size := (by omega); have hnb0 : wq9.heap.size ≠ w.heap.size := (by omega); have hna1 : (w.heap.size + 1) ≠ wq9.heap.size := (by omega); have hnb1 : wq9.heap.size ≠ (w.heap.size + 1) := (by omega); have hna2 : (w.heap.size + 2) ≠ wq9.heap.size := (by omega); have hnb2 : wq9.heap.size ≠ (w.heap.size + 2) := (by omega); have hna3 : w6.heap.size ≠ wq9.heap.size := (by omega); have hnb3 : wq9.heap.size ≠ w6.heap.size := (by omega); have hna4 : g9 ≠ wq9.heap.size := (by omega); have hnb4 : wq9.heap.size ≠ g9 := (by omega)) | skip); clear hb))
              | (go_at_call 47; go_loud ((refine (r10known_any t _ _ _ (Hrt0_2.out _ (by go_grown)) (by omega) HN.out).mono ?_); rintro e w10 ⟨vc10, rfl, hsl10, hb⟩; have hbr10 : Hid (Below wq9.heap.size wq9 w10) := hid (Below.trans (by go_grown) (hb.mono (by first | omega | (simp; done) | (simp; omega)))); have hsr10 := HS_2.out _ hbr10.out; (first | (have HGA : Hid (w10.heap[wq9.heap.size]? = some (.cells #[.slice none 0 0, .slice none 0 0, .slice none 0 0] 29 (0, 0))) := hid (z_new2D hb)) | (have HGA : Hid (w10.heap[wq9.heap.size]? = some (.cells #[.slice none 0 0, .slice none 0 0, .slice none 0 0] 29 (0, 0))) := hid (z_newD hb)) | (have HGA : Hid (w10.heap[wq9.heap.size]? = some (.cells #[.slice none 0 0, .slice none 0 0, .slice none 0 0] 29 (0, 0))) := hid (z_new2 hb)) | (have HGA : Hid (w10.heap[wq9.heap.size]? = some (.cells #[.slice none 0 0, .slice none 0 0, .slice none 0 0] 29 (0, 0))) := hid (z_new hb)) | skip); obtain ⟨Dr10, kr10, hv3⟩ := hsl10.shape; subst hv3; have HL10 := hid hsl10; clear hsl10; have HLK : Hid (∀ W, Below w10.heap.size w10 W → SlP W W.heap.size 3 SpE (.slice Dr10 ((ctxOf t.dots)).length kr10) (ctxOf t.dots)) := fun W hW => HL10.out.slp (fun b hb => hb.2) hW; clear hb)))
          all_goals
            go_wp2_with fail
            go_meet
            case rel => exact ⟨rfl, (by first | exact box_new hbr11.out (HS_2.out _ hbr11.out) HR11.out HL11.out | exact box_set HG11.out hbr11.out (by omega) (by first | (simp; done) | (simp; omega) | exact lt_of_block HGA.out | (have := lt_of_block HGA.out; simp; omega)) HR11.out HL11.out)⟩
        case rest =>
          obtain ⟨rfl, g12, xe12, xk12, xc12, rfl, hG12, hrd12, hsl12, hbz⟩ := hcut
          obtain ⟨A12x, n12x, B12x, m12x, rfl, rfl⟩ := rd_shape hrd12
          obtain ⟨D12x, k12x, rfl, _⟩ := id hsl12
          have hlg12 := lt_of_block hG12
          obtain ⟨wq12, hwq12⟩ : ∃ z : World, z = wc := ⟨wc, rfl⟩
          subst hwq12
          have HSZ12 : Hid (wq9.heap.size ≤ wq12.heap.size) := HS_2.out _ hbz
          have HX3 : Hid (∀ W, Below wq12.heap.size wq12 W → (wq12.heap.size ≤ (W).heap.size ∧ Y.rd W (W).heap.size (.slice A12x Y.es.length n12x) (.slice B12x Y.ks.length m12x) ∧ SlP W (W).heap.size 3 SpE (.slice D12x U.length k12x) U ∧ (W).cell? ⟨g12, 0, none⟩ = some (.slice A12x Y.es.length n12x) ∧ (W).cell? ⟨g12, 1, none⟩ = some (.slice B12x Y.ks.length m12x) ∧ (W).cell? ⟨g12, 2, none⟩ = some (.slice D12x U.length k12x) ∧ wq9.heap.size ≤ (W).heap.size ∧ Y.rd W (W).heap.size (.slice A9x Y.es.length n9x) (.slice B9x Y.ks.length m9x) ∧ SlP W (W).heap.size 3 SpE (.slice D9x R.length k9x) R ∧ (W).cell? ⟨g9, 0, none⟩ = some (.slice A9x Y.es.length n9x) ∧ (W).cell? ⟨g9, 1, none⟩ = some (.slice B9x Y.ks.length m9x) ∧ (W).cell? ⟨g9, 2, none⟩ = some (.slice D9x R.length k9x) ∧ w6.heap.size + 1 ≤ (W).heap.size ∧ X.rd W (W).heap.size (.slice A6x X.es.length n6x) (.slice B6x X.ks.length m6x) ∧ SlP W (W).heap.size 3 SpE (.slice D6x S.length k6x) S ∧ (W).cell? ⟨w6.heap.size, 0, none⟩ = some (.slice A6x X.es.length n6x) ∧ (W).cell? ⟨w6.heap.size, 1, none⟩ = some (.slice B6x X.ks.length m6x) ∧ (W).cell? ⟨w6.heap.size, 2, none⟩ = some (.slice D6x S.length k6x) ∧ Below w.heap.size w W ∧ w.heap.size + 3 ≤ (W).heap.size ∧ t.rd W (W).heap.size (.slice A0 t.es.length n0) (.slice B0 t.ks.length m0) ∧ (W).cell? ⟨w.heap.size, 0, none⟩ = some (.slice A0 t.es.length n0) ∧ (W).cell? ⟨w.heap.size, 1, none⟩ = some (.slice B0 t.ks.length m0) ∧ (W).cell? ⟨(w.heap.size + 1), 0, none⟩ = some (.int .i64 d.dc) ∧ (W).cell? ⟨(w.heap.size + 1), 1, none⟩ = some (.int .i64 d.n) ∧ (W).cell? ⟨(w.heap.size + 2), 0, none⟩ = some (.int .i64 e.dc) ∧ (W).cell? ⟨(w.heap.size + 2), 1, none⟩ = some (.int .i64 e.n))) := fun W hW => by
            have g0 := (hW.block g12 hlg12).trans hG12
            exact ⟨hW.size, rd_below hW hW.size _ _ _ hrd12, hsl12.imp hW hW.size (fun _ _ _ h => h), cell_cells (i := 0) g0, cell_cells (i := 1) g0, cell_cells (i := 2) g0, HX2.out W (hbz.trans (hW.mono HSZ12.out))⟩
          clear hrd12 hsl12 hG12
          clear hs_y c0_y c1_y c2_y hs_x c0_x c1_x c2_x hs c00 c01
          obtain ⟨hs_a, rt_a, rc_a, c0_a, c1_a, c2_a, hs_y, rt_y, rc_y, c0_y, c1_y, c2_y, hs_x, rt_x, rc_x, c0_x, c1_x, c2_x, hB, hs, rt0, c00, c01, c20, c21, c30, c31⟩ := HX3.out _ (Below.refl _ _)
          go_upto_region 6 with (fail)
          have HK3 : Hid (∀ W, Below wq12.heap.size wq12 W → ((W).cell? ⟨g9, 0, none⟩ = some (.slice A9x Y.es.length n9x) ∧ (W).cell? ⟨g9, 1, none⟩ = some (.slice B9x Y.ks.length m9x) ∧ (W).cell? ⟨g9, 2, none⟩ = some (.slice D9x R.length k9x) ∧ (W).cell? ⟨w6.heap.size, 0, none⟩ = some (.slice A6x X.es.length n6x) ∧ (W).cell? ⟨w6.heap.size, 1, none⟩ = some (.slice B6x X.ks.length m6x) ∧ (W).cell? ⟨w6.heap.size, 2, none⟩ = some (.slice D6x S.length k6x) ∧ (W).cell? ⟨w.heap.size, 0, none⟩ = some (.slice A0 t.es.length n0) ∧ (W).cell? ⟨w.heap.size, 1, none⟩ = some (.slice B0 t.ks.length m0))) := fun W hW => by
            obtain ⟨_, _, _, _, _, _, _, _, _, z_c0_y, z_c1_y, z_c2_y, _, _, _, z_c0_x, z_c1_x, z_c2_x, _, _, _, z_c00, z_c01, _, _, _, _⟩ := HX3.out W hW
            exact ⟨z_c0_y, z_c1_y, z_c2_y, z_c0_x, z_c1_x, z_c2_x, z_c00, z_c01⟩
          have Hrt_a_3 : Hid (∀ W, Below wq12.heap.size wq12 W → Y.rd W (W).heap.size (.slice A12x Y.es.length n12x) (.slice B12x Y.ks.length m12x)) := fun W hW => by
            obtain ⟨_, z, _, _, _, _, _, _, _, _, _, _, _, _, _, _, _, _, _, _, _, _, _, _, _, _, _⟩ := HX3.out W hW
            exact z
          have Hrc_a_3 : Hid (∀ W, Below wq12.heap.size wq12 W → SlP W (W).heap.size 3 SpE (.slice D12x U.length k12x) U) := fun W hW => by
            obtain ⟨_, _, z, _, _, _, _, _, _, _, _, _, _, _, _, _, _, _, _, _, _, _, _, _, _, _, _⟩ := HX3.out W hW
            exact z
          have Hrt_y_3 : Hid (∀ W, Below wq12.heap.size wq12 W → Y.rd W (W).heap.size (.slice A9x Y.es.length n9x) (.slice B9x Y.ks.length m9x)) := fun W hW => by
            obtain ⟨_, _, _, _, _, _, _, z, _, _, _, _, _, _, _, _, _, _, _, _, _, _, _, _, _, _, _⟩ := HX3.out W hW
            exact z
          have Hrc_y_3 : Hid (∀ W, Below wq12.heap.size wq12 W → SlP W (W).heap.size 3 SpE (.slice D9x R.length k9x) R) := fun W hW => by
            obtain ⟨_, _, _, _, _, _, _, _, z, _, _, _, _, _, _, _, _, _, _, _, _, _, _, _, _, _, _⟩ := HX3.out W hW
            exact z
          have Hrt_x_3 : Hid (∀ W, Below wq12.heap.size wq12 W → X.rd W (W).heap.size (.slice A6x X.es.length n6x) (.slice B6x X.ks.length m6x)) := fun W hW => by
            obtain ⟨_, _, _, _, _, _, _, _, _, _, _, _, _, z, _, _, _, _, _, _, _, _, _, _, _, _, _⟩ := HX3.out W hW
            exact z
          have Hrc_x_3 : Hid (∀ W, Below wq12.heap.size wq12 W → SlP W (W).heap.size 3 SpE (.slice D6x S.length k6x) S) := fun W hW => by
            obtain ⟨_, _, _, _, _, _, _, _, _, _, _, _, _, _, z, _, _, _, _, _, _, _, _, _, _, _, _⟩ := HX3.out W hW
            exact z
          have Hrt0_3 : Hid (∀ W, Below wq12.heap.size wq12 W → t.rd W (W).heap.size (.slice A0 t.es.length n0) (.slice B0 t.ks.length m0)) := fun W hW => by
            obtain ⟨_, _, _, _, _, _, _, _, _, _, _, _, _, _, _, _, _, _, _, _, z, _, _, _, _, _, _⟩ := HX3.out W hW
            exact z
          have HS_3 : Hid (∀ W, Below wq12.heap.size wq12 W → wq12.heap.size ≤ W.heap.size) := fun W hW => by
            have := hW.size
            first | omega | (simp at this; omega)
          have hsb3 := HS_3.out _ (Below.refl _ _)
          clear rt_a rc_a c0_a c1_a c2_a rt_y rc_y rt_x rc_x hB rt0 c20 c21 c30 c31
          go_cut [15, 16] (fun s15 s16 wx => s16 = .int .i64 0 ∧ Box3 wq12.heap.size wq12 29 Y U s15 wx)
          case first =>
            go_region_held3 (fun W => (W).cell? ⟨g9, 0, none⟩ = some (.slice A9x Y.es.length n9x) ∧ (W).cell? ⟨g9, 1, none⟩ = some (.slice B9x Y.ks.length m9x) ∧ (W).cell? ⟨g9, 2, none⟩ = some (.slice D9x R.length k9x) ∧ (W).cell? ⟨w6.heap.size, 0, none⟩ = some (.slice A6x X.es.length n6x) ∧ (W).cell? ⟨w6.heap.size, 1, none⟩ = some (.slice B6x X.ks.length m6x) ∧ (W).cell? ⟨w6.heap.size, 2, none⟩ = some (.slice D6x S.length k6x) ∧ (W).cell? ⟨w.heap.size, 0, none⟩ = some (.slice A0 t.es.length n0) ∧ (W).cell? ⟨w.heap.size, 1, none⟩ = some (.slice B0 t.ks.length m0))
              (first | go_keep | exact HK3.out _ hbr14.out | exact HK3.out _ (hbr14.out.trans (by go_grown)) | exact HK3.out _ hbr13.out | exact HK3.out _ (hbr13.out.trans (by go_grown)) | exact HK3.out _ (((hbr14.out.setCell (by first | (simp; done) | (simp; omega)) _).setCell (by first | (simp; done) | (simp; omega)) _).setCell (by first | (simp; done) | (simp; omega)) _) | exact HK3.out _ (by go_grown) | fail)
              (first
                | (go_at_call 29; go_loud ((refine (joinAll_any [(Y, R), (t, knC t), (X, S)] _ _ (slp3 (by first | exact heap_new rfl | exact heap_new (by simp) | exact (heap_old (by simp)).trans (heap_new rfl) | exact (heap_old (by simp)).trans (heap_new (by simp))) (kn_at (Hrt_y_3.out _ (hbr13.out.trans (by go_grown))) (Hrc_y_3.out _ (hbr13.out.trans (by go_grown)))) (kn_at (Hrt0_3.out _ (hbr13.out.trans (by go_grown))) (HLK.out _ (by go_grown))) (kn_at (Hrt_x_3.out _ (hbr13.out.trans (by go_grown))) (Hrc_x_3.out _ (hbr13.out.trans (by go_grown)))) (by first | (simp; done) | (simp; omega))) (by simp; omega) (by simp; omega)).mono ?_); rw [HB1.out, HB2.out, HB3.out]; rintro e w14 ⟨xe14, xk14, xc14, rfl, hrd14, hsl14, hb⟩; have hbr14 : Hid (Below wq12.heap.size wq12 w14) := hid (Below.trans (hbr13.out.trans (by go_grown)) (hb.mono (by first | omega | (simp; done) | (simp; omega)))); have hsr14 := HS_3.out _ hbr14.out; have hch13_14 : Hid (Below w13.heap.size w13 w14) := hid (Below.trans (by go_grown) (hb.mono (by first | omega | (simp; done) | (simp; omega)))); obtain ⟨Ar14, nr14, Br14, mr14, hv1, hv2⟩ := rda_shape hrd14; subst hv1; subst hv2; obtain ⟨Dr14, kr14, hv3⟩ := hsl14.shape; subst hv3; have HR14 := hid hrd14; have HL14 := hid hsl14; clear hrd14 hsl14; (first | (have HG14 : Hid (w14.heap[w13.heap.size]? = some (.cells #[.slice none 0 0, .slice none 0 0, .slice none 0 0] 29 (0, 0))) := hid (z_newS hb); have k0 : w14.cell? ⟨w13.heap.size, 0, none⟩ = some (.slice none 0 0) := cell_cells (i := 0) HG14.out; have k1 : w14.cell? ⟨w13.heap.size, 1, none⟩ = some (.slice none 0 0) := cell_cells (i := 1) HG14.out; have k2 : w14.cell? ⟨w13.heap.size, 2, none⟩ = some (.slice none 0 0) := cell_cells (i := 2) HG14.out; have z0 := cells_frz (i := 0) HG14.out; have z1 := cells_frz (i := 1) HG14.out; have z2 := cells_frz (i := 2) HG14.out; have hna0 : w.heap.size ≠ w13.heap.size := (by omega); have hnb0 : w13.heap.size ≠ w.heap.size := (by omega); have hna1 : (w.heap.size + 1) ≠ w13.heap.size := (by omega); have hnb1 : w13.heap.size ≠ (w.heap.size + 1) := (by omega); have hna2 : (w.heap.size + 2) ≠ w13.heap.size := (by omega); have hnb2 : w13.heap.size ≠ (w.heap.size + 2) := (by omega); have hna3 : w6.heap.size ≠ w13.heap.size := (by omega); have hnb3 : w13.heap.size ≠ w6.heap.size := (by omega); have hna4 : g9 ≠ w13.heap.size := (by omega); have hnb4 : w13.heap.size ≠ g9 := (by omega); have hna5 : g12 ≠ w13.heap.size := (by omega); have hnb5 : w13.heap.size ≠ g12 := (by omega)) | (have HG14 : Hid (w14.heap[(w13.heap.size + 1)]? = some (.cells #[.slice none 0 0, .slice none 0 0, .slice none 0 0] 29 (0, 0))) := hid (z_new2 hb); have k0 : w14.cell? ⟨(w13.heap.size + 1), 0, none⟩ = some (.slice none 0 0) := cell_cells (i := 0) HG14.out; have k1 : w14.cell? ⟨(w13.heap.size + 1), 1, none⟩ = some (.slice none 0 0) := cell_cells (i := 1) HG14.out; have k2 : w14.cell? ⟨(w13.heap.size + 1), 2, none⟩ = some (.slice none 0 0) := cell_cells (i := 2) HG14.out; have z0 := cells_frz (i := 0) HG14.out; have z1 := cells_frz (i := 1) HG14.out; have z2 := cells_frz (i := 2) HG14.out; have hna0 : w.heap.size ≠ (w13.heap.size + 1) := (by omega); have hnb0 : (w13.heap.size + 1) ≠ w.heap.size := (by omega); have hna1 : (w.heap.size + 1) ≠ (w13.heap.size + 1) := (by omega); have hnb1 : (w13.heap.size + 1) ≠ (w.heap.size + 1) := (by omega); have hna2 : (w.heap.size + 2) ≠ (w13.heap.size + 1) := (by omega); have hnb2 : (w13.heap.size + 1) ≠ (w.heap.size + 2) := (by omega); have hna3 : w6.heap.size ≠ (w13.heap.size + 1) := (by omega); have hnb3 : (w13.heap.size + 1) ≠ w6.heap.size := (by omega); have hna4 : g9 ≠ (w13.heap.size + 1) := (by omega); have hnb4 : (w13.heap.size + 1) ≠ g9 := (by omega); have hna5 : g12 ≠ (w13.heap.size + 1) := (by omega); have hnb5 : (w13.heap.size + 1) ≠ g12 := (by omega)) | (have HG14 : Hid (w14.heap[wq12.heap.size]? = some (.cells #[.slice none 0 0, .slice none 0 0, .slice none 0 0] 29 (0, 0))) := hid ((hb.block _ (by have := lt_of_block HGA.out; first | omega | (simp; omega))).trans ((heap_old (lt_of_block HGA.out)).trans HGA.out)); have k0 : w14.cell? ⟨wq12.heap.size, 0, none⟩ = some (.slice none 0 0) := cell_cells (i := 0) HG14.out; have k1 : w14.cell? ⟨wq12.heap.size, 1, none⟩ = some (.slice none 0 0) := cell_cells (i := 1) HG14.out; have k2 : w14.cell? ⟨wq12.heap.size, 2, none⟩ = some (.slice none 0 0) := cell_cells (i := 2) HG14.out; have z0 := cells_frz (i := 0) HG14.out; have z1 := cells_frz (i := 1) HG14.out; have z2 := cells_frz (i := 2) HG14.out; have hna0 : w.heap.size ≠ wq12.heap.size := (by omega); have hnb0 : wq12.heap.size ≠ w.heap.size := (by omega); have hna1 : (w.heap.size + 1) ≠ wq12.heap.size := (by omega); have hnb1 : wq12.heap.size ≠ (w.heap.size + 1) := (by omega); have hna2 : (w.heap.size + 2) ≠ wq12.heap.size := (by omega); have hnb2 : wq12.heap.size ≠ (w.heap.size + 2) := (by omega); have hna3 : w6.heap.size ≠ wq12.heap.size := (by omega); have hnb3 : wq12.heap.size ≠ w6.heap.size := (by omega); have hna4 : g9 ≠ wq12.heap.size := (by omega); have hnb4 : wq12.heap.size ≠ g9 := (by omega); have hna5 : g12 ≠ wq12.heap.size := (by omega); have hnb5 : wq12.heap.size ≠ g12 := (by omega)) | skip); clear hb))
                | (go_at_call 47; go_loud ((refine (r10known_any t _ _ _ (Hrt0_3.out _ (by go_grown)) (by omega) HN.out).mono ?_); rintro e w13 ⟨vc13, rfl, hsl13, hb⟩; have hbr13 : Hid (Below wq12.heap.size wq12 w13) := hid (Below.trans (by go_grown) (hb.mono (by first | omega | (simp; done) | (simp; omega)))); have hsr13 := HS_3.out _ hbr13.out; (first | (have HGA : Hid (w13.heap[wq12.heap.size]? = some (.cells #[.slice none 0 0, .slice none 0 0, .slice none 0 0] 29 (0, 0))) := hid (z_new2D hb)) | (have HGA : Hid (w13.heap[wq12.heap.size]? = some (.cells #[.slice none 0 0, .slice none 0 0, .slice none 0 0] 29 (0, 0))) := hid (z_newD hb)) | (have HGA : Hid (w13.heap[wq12.heap.size]? = some (.cells #[.slice none 0 0, .slice none 0 0, .slice none 0 0] 29 (0, 0))) := hid (z_new2 hb)) | (have HGA : Hid (w13.heap[wq12.heap.size]? = some (.cells #[.slice none 0 0, .slice none 0 0, .slice none 0 0] 29 (0, 0))) := hid (z_new hb)) | skip); obtain ⟨Dr13, kr13, hv3⟩ := hsl13.shape; subst hv3; have HL13 := hid hsl13; clear hsl13; have HLK : Hid (∀ W, Below w13.heap.size w13 W → SlP W W.heap.size 3 SpE (.slice Dr13 ((ctxOf t.dots)).length kr13) (ctxOf t.dots)) := fun W hW => HL13.out.slp (fun b hb => hb.2) hW; clear hb)))
            all_goals
              go_wp2_with fail
              go_meet
              case rel => exact ⟨rfl, (by first | exact box_new hbr14.out (HS_3.out _ hbr14.out) HR14.out HL14.out | exact box_set HG14.out hbr14.out (by omega) (by first | (simp; done) | (simp; omega) | exact lt_of_block HGA.out | (have := lt_of_block HGA.out; simp; omega)) HR14.out HL14.out)⟩
          case rest =>
            obtain ⟨rfl, g15, xe15, xk15, xc15, rfl, hG15, hrd15, hsl15, hbz⟩ := hcut
            obtain ⟨A15x, n15x, B15x, m15x, rfl, rfl⟩ := rd_shape hrd15
            obtain ⟨D15x, k15x, rfl, _⟩ := id hsl15
            have hlg15 := lt_of_block hG15
            obtain ⟨wq15, hwq15⟩ : ∃ z : World, z = wc := ⟨wc, rfl⟩
            subst hwq15
            have HSZ15 : Hid (wq12.heap.size ≤ wq15.heap.size) := HS_3.out _ hbz
            have HX4 : Hid (∀ W, Below wq15.heap.size wq15 W → (wq15.heap.size ≤ (W).heap.size ∧ Y.rd W (W).heap.size (.slice A15x Y.es.length n15x) (.slice B15x Y.ks.length m15x) ∧ SlP W (W).heap.size 3 SpE (.slice D15x U.length k15x) U ∧ (W).cell? ⟨g15, 0, none⟩ = some (.slice A15x Y.es.length n15x) ∧ (W).cell? ⟨g15, 1, none⟩ = some (.slice B15x Y.ks.length m15x) ∧ (W).cell? ⟨g15, 2, none⟩ = some (.slice D15x U.length k15x) ∧ wq12.heap.size ≤ (W).heap.size ∧ Y.rd W (W).heap.size (.slice A12x Y.es.length n12x) (.slice B12x Y.ks.length m12x) ∧ SlP W (W).heap.size 3 SpE (.slice D12x U.length k12x) U ∧ (W).cell? ⟨g12, 0, none⟩ = some (.slice A12x Y.es.length n12x) ∧ (W).cell? ⟨g12, 1, none⟩ = some (.slice B12x Y.ks.length m12x) ∧ (W).cell? ⟨g12, 2, none⟩ = some (.slice D12x U.length k12x) ∧ wq9.heap.size ≤ (W).heap.size ∧ Y.rd W (W).heap.size (.slice A9x Y.es.length n9x) (.slice B9x Y.ks.length m9x) ∧ SlP W (W).heap.size 3 SpE (.slice D9x R.length k9x) R ∧ (W).cell? ⟨g9, 0, none⟩ = some (.slice A9x Y.es.length n9x) ∧ (W).cell? ⟨g9, 1, none⟩ = some (.slice B9x Y.ks.length m9x) ∧ (W).cell? ⟨g9, 2, none⟩ = some (.slice D9x R.length k9x) ∧ w6.heap.size + 1 ≤ (W).heap.size ∧ X.rd W (W).heap.size (.slice A6x X.es.length n6x) (.slice B6x X.ks.length m6x) ∧ SlP W (W).heap.size 3 SpE (.slice D6x S.length k6x) S ∧ (W).cell? ⟨w6.heap.size, 0, none⟩ = some (.slice A6x X.es.length n6x) ∧ (W).cell? ⟨w6.heap.size, 1, none⟩ = some (.slice B6x X.ks.length m6x) ∧ (W).cell? ⟨w6.heap.size, 2, none⟩ = some (.slice D6x S.length k6x) ∧ Below w.heap.size w W ∧ w.heap.size + 3 ≤ (W).heap.size ∧ t.rd W (W).heap.size (.slice A0 t.es.length n0) (.slice B0 t.ks.length m0) ∧ (W).cell? ⟨w.heap.size, 0, none⟩ = some (.slice A0 t.es.length n0) ∧ (W).cell? ⟨w.heap.size, 1, none⟩ = some (.slice B0 t.ks.length m0) ∧ (W).cell? ⟨(w.heap.size + 1), 0, none⟩ = some (.int .i64 d.dc) ∧ (W).cell? ⟨(w.heap.size + 1), 1, none⟩ = some (.int .i64 d.n) ∧ (W).cell? ⟨(w.heap.size + 2), 0, none⟩ = some (.int .i64 e.dc) ∧ (W).cell? ⟨(w.heap.size + 2), 1, none⟩ = some (.int .i64 e.n))) := fun W hW => by
              have g0 := (hW.block g15 hlg15).trans hG15
              exact ⟨hW.size, rd_below hW hW.size _ _ _ hrd15, hsl15.imp hW hW.size (fun _ _ _ h => h), cell_cells (i := 0) g0, cell_cells (i := 1) g0, cell_cells (i := 2) g0, HX3.out W (hbz.trans (hW.mono HSZ15.out))⟩
            clear hrd15 hsl15 hG15
            clear hs_a hs_y c0_y c1_y c2_y hs_x c0_x c1_x c2_x hs c00 c01
            obtain ⟨hs_b, rt_b, rc_b, c0_b, c1_b, c2_b, hs_a, rt_a, rc_a, c0_a, c1_a, c2_a, hs_y, rt_y, rc_y, c0_y, c1_y, c2_y, hs_x, rt_x, rc_x, c0_x, c1_x, c2_x, hB, hs, rt0, c00, c01, c20, c21, c30, c31⟩ := HX4.out _ (Below.refl _ _)
            have hlb0 : w.heap.size < wq15.heap.size := by omega
            have hnb_0 : w.heap.size ≠ wq15.heap.size := by omega
            have hlb1 : (w.heap.size + 1) < wq15.heap.size := by omega
            have hnb_1 : (w.heap.size + 1) ≠ wq15.heap.size := by omega
            have hlb2 : (w.heap.size + 2) < wq15.heap.size := by omega
            have hnb_2 : (w.heap.size + 2) ≠ wq15.heap.size := by omega
            have hlb3 : w6.heap.size < wq15.heap.size := by omega
            have hnb_3 : w6.heap.size ≠ wq15.heap.size := by omega
            have hlb4 : g9 < wq15.heap.size := by omega
            have hnb_4 : g9 ≠ wq15.heap.size := by omega
            have hlb5 : g12 < wq15.heap.size := by omega
            have hnb_5 : g12 ≠ wq15.heap.size := by omega
            have hlb6 : g15 < wq15.heap.size := by omega
            have hnb_6 : g15 ≠ wq15.heap.size := by omega
            go_wp2_with fail
            have hbs : wq15.heap.size ≤ (wq15).heap.size := (by first | omega | (simp; done) | (simp; omega))
            clear hs_b rt_b rc_b c0_b c1_b c2_b hs_a rt_a rc_a c0_a c1_a c2_a hs_y rt_y rc_y c0_y c1_y c2_y hs_x rt_x rc_x c0_x c1_x c2_x hB hs rt0 c00 c01 c20 c21 c30 c31
            obtain ⟨hs_b, rt_b, rc_b, c0_b, c1_b, c2_b, hs_a, rt_a, rc_a, c0_a, c1_a, c2_a, hs_y, rt_y, rc_y, c0_y, c1_y, c2_y, hs_x, rt_x, rc_x, c0_x, c1_x, c2_x, hB, hs, rt0, c00, c01, c20, c21, c30, c31⟩ := HX4.out _ ((Below.refl _ _).alloc hbs (.cells #[.string key] 9))
            refine (r10put_any [key] ⟨e.dc, e.n, ByteArray.empty, 7⟩ [] _ _ _ HEO.out (SlP.oneB (x := key) (cs := [.string key]) ⟨rfl, h1⟩ rfl _ rfl (by simp)) SlP.nil (by simp) (fun _ h => by cases h) HSP.out).mono ?_
            rw [HBY.out, HRR.out]
            rintro e w16 ⟨xe16, xk16, xc16, rfl, hrd16, hsl16, hb⟩
            obtain ⟨A16x, n16x, B16x, m16x, rfl, rfl⟩ := rda_shape hrd16
            obtain ⟨D16x, k16x, rfl⟩ := hsl16.shape
            have hbk16 : Hid (Below wq15.heap.size wq15 w16) := hid (((Below.refl _ _).alloc hbs (.cells #[.string key] 9)).trans (hb.mono (by first | omega | (simp; done) | (simp; omega))))
            clear hb
            clear hs_b rt_b rc_b c0_b c1_b c2_b hs_a rt_a rc_a c0_a c1_a c2_a hs_y rt_y rc_y c0_y c1_y c2_y hs_x rt_x rc_x c0_x c1_x c2_x hB hs rt0 c00 c01 c20 c21 c30 c31
            obtain ⟨hs_b, rt_b, rc_b, c0_b, c1_b, c2_b, hs_a, rt_a, rc_a, c0_a, c1_a, c2_a, hs_y, rt_y, rc_y, c0_y, c1_y, c2_y, hs_x, rt_x, rc_x, c0_x, c1_x, c2_x, hB, hs, rt0, c00, c01, c20, c21, c30, c31⟩ := HX4.out _ hbk16.out
            have hlt16783 : w.heap.size < w16.heap.size := by omega
            have hne16783 : w.heap.size ≠ w16.heap.size := by omega
            have hnr16783 : w16.heap.size ≠ w.heap.size := by omega
            have hlt16768 : (w.heap.size + 1) < w16.heap.size := by omega
            have hne16768 : (w.heap.size + 1) ≠ w16.heap.size := by omega
            have hnr16768 : w16.heap.size ≠ (w.heap.size + 1) := by omega
            have hlt1636 : (w.heap.size + 2) < w16.heap.size := by omega
            have hne1636 : (w.heap.size + 2) ≠ w16.heap.size := by omega
            have hnr1636 : w16.heap.size ≠ (w.heap.size + 2) := by omega
            have hlt1619 : w6.heap.size < w16.heap.size := by omega
            have hne1619 : w6.heap.size ≠ w16.heap.size := by omega
            have hnr1619 : w16.heap.size ≠ w6.heap.size := by omega
            have hlt16389 : g9 < w16.heap.size := by omega
            have hne16389 : g9 ≠ w16.heap.size := by omega
            have hnr16389 : w16.heap.size ≠ g9 := by omega
            have hlt16275 : g12 < w16.heap.size := by omega
            have hne16275 : g12 ≠ w16.heap.size := by omega
            have hnr16275 : w16.heap.size ≠ g12 := by omega
            have hlt16353 : g15 < w16.heap.size := by omega
            have hne16353 : g15 ≠ w16.heap.size := by omega
            have hnr16353 : w16.heap.size ≠ g15 := by omega
            have HX5 : Hid (∀ W, Below (w16.heap.size + 1) (w16.alloc (.cells #[.slice A16x Y.es.length n16x, .slice B16x Y.ks.length m16x, .slice D16x R.length k16x] 29)) W → (w16.heap.size + 1 ≤ (W).heap.size ∧ Y.rd W (W).heap.size (.slice A16x Y.es.length n16x) (.slice B16x Y.ks.length m16x) ∧ SlP W (W).heap.size 3 SpE (.slice D16x R.length k16x) R ∧ (W).cell? ⟨w16.heap.size, 0, none⟩ = some (.slice A16x Y.es.length n16x) ∧ (W).cell? ⟨w16.heap.size, 1, none⟩ = some (.slice B16x Y.ks.length m16x) ∧ (W).cell? ⟨w16.heap.size, 2, none⟩ = some (.slice D16x R.length k16x) ∧ wq15.heap.size ≤ (W).heap.size ∧ Y.rd W (W).heap.size (.slice A15x Y.es.length n15x) (.slice B15x Y.ks.length m15x) ∧ SlP W (W).heap.size 3 SpE (.slice D15x U.length k15x) U ∧ (W).cell? ⟨g15, 0, none⟩ = some (.slice A15x Y.es.length n15x) ∧ (W).cell? ⟨g15, 1, none⟩ = some (.slice B15x Y.ks.length m15x) ∧ (W).cell? ⟨g15, 2, none⟩ = some (.slice D15x U.length k15x) ∧ wq12.heap.size ≤ (W).heap.size ∧ Y.rd W (W).heap.size (.slice A12x Y.es.length n12x) (.slice B12x Y.ks.length m12x) ∧ SlP W (W).heap.size 3 SpE (.slice D12x U.length k12x) U ∧ (W).cell? ⟨g12, 0, none⟩ = some (.slice A12x Y.es.length n12x) ∧ (W).cell? ⟨g12, 1, none⟩ = some (.slice B12x Y.ks.length m12x) ∧ (W).cell? ⟨g12, 2, none⟩ = some (.slice D12x U.length k12x) ∧ wq9.heap.size ≤ (W).heap.size ∧ Y.rd W (W).heap.size (.slice A9x Y.es.length n9x) (.slice B9x Y.ks.length m9x) ∧ SlP W (W).heap.size 3 SpE (.slice D9x R.length k9x) R ∧ (W).cell? ⟨g9, 0, none⟩ = some (.slice A9x Y.es.length n9x) ∧ (W).cell? ⟨g9, 1, none⟩ = some (.slice B9x Y.ks.length m9x) ∧ (W).cell? ⟨g9, 2, none⟩ = some (.slice D9x R.length k9x) ∧ w6.heap.size + 1 ≤ (W).heap.size ∧ X.rd W (W).heap.size (.slice A6x X.es.length n6x) (.slice B6x X.ks.length m6x) ∧ SlP W (W).heap.size 3 SpE (.slice D6x S.length k6x) S ∧ (W).cell? ⟨w6.heap.size, 0, none⟩ = some (.slice A6x X.es.length n6x) ∧ (W).cell? ⟨w6.heap.size, 1, none⟩ = some (.slice B6x X.ks.length m6x) ∧ (W).cell? ⟨w6.heap.size, 2, none⟩ = some (.slice D6x S.length k6x) ∧ Below w.heap.size w W ∧ w.heap.size + 3 ≤ (W).heap.size ∧ t.rd W (W).heap.size (.slice A0 t.es.length n0) (.slice B0 t.ks.length m0) ∧ (W).cell? ⟨w.heap.size, 0, none⟩ = some (.slice A0 t.es.length n0) ∧ (W).cell? ⟨w.heap.size, 1, none⟩ = some (.slice B0 t.ks.length m0) ∧ (W).cell? ⟨(w.heap.size + 1), 0, none⟩ = some (.int .i64 d.dc) ∧ (W).cell? ⟨(w.heap.size + 1), 1, none⟩ = some (.int .i64 d.n) ∧ (W).cell? ⟨(w.heap.size + 2), 0, none⟩ = some (.int .i64 e.dc) ∧ (W).cell? ⟨(w.heap.size + 2), 1, none⟩ = some (.int .i64 e.n))) := fun W hW => by
              have g0 := (hW.block w16.heap.size (by omega)).trans (heap_new rfl)
              have hB : Below w16.heap.size w16 W := ((Below.refl _ w16).alloc (Nat.le_refl _) _).trans (hW.mono (by omega))
              exact ⟨by have := hW.size; simpa using this, rda_rd hrd16 (fun b hb => hb.2) hB, hsl16.slp (fun b hb => hb.2) hB, cell_cells (i := 0) g0, cell_cells (i := 1) g0, cell_cells (i := 2) g0, HX4.out W (hbk16.out.trans (hB.mono (by omega)))⟩
            clear hrd16 hsl16
            go_wp2_with fail
            clear hs_b rt_b rc_b c0_b c1_b c2_b hs_a rt_a rc_a c0_a c1_a c2_a hs_y rt_y rc_y c0_y c1_y c2_y hs_x rt_x rc_x c0_x c1_x c2_x hB hs rt0 c00 c01 c20 c21 c30 c31
            obtain ⟨hs_w, rt_w, rc_w, c0_w, c1_w, c2_w, hs_b, rt_b, rc_b, c0_b, c1_b, c2_b, hs_a, rt_a, rc_a, c0_a, c1_a, c2_a, hs_y, rt_y, rc_y, c0_y, c1_y, c2_y, hs_x, rt_x, rc_x, c0_x, c1_x, c2_x, hB, hs, rt0, c00, c01, c20, c21, c30, c31⟩ := HX5.out _ (Below.refl _ _)
            refine (r08same_any Y Y _ _ _ _ _ rt_a rt_w).mono ?_
            rw [HTE.out]
            rintro e w17 ⟨rfl, hb⟩
            have hbk17 : Hid (Below (w16.heap.size + 1) (w16.alloc (.cells #[.slice A16x Y.es.length n16x, .slice B16x Y.ks.length m16x, .slice D16x R.length k16x] 29)) w17) := hid (hb.mono (by first | omega | (simp; done) | (simp; omega)))
            clear hb
            clear hs_w rt_w rc_w c0_w c1_w c2_w hs_b rt_b rc_b c0_b c1_b c2_b hs_a rt_a rc_a c0_a c1_a c2_a hs_y rt_y rc_y c0_y c1_y c2_y hs_x rt_x rc_x c0_x c1_x c2_x hB hs rt0 c00 c01 c20 c21 c30 c31
            obtain ⟨hs_w, rt_w, rc_w, c0_w, c1_w, c2_w, hs_b, rt_b, rc_b, c0_b, c1_b, c2_b, hs_a, rt_a, rc_a, c0_a, c1_a, c2_a, hs_y, rt_y, rc_y, c0_y, c1_y, c2_y, hs_x, rt_x, rc_x, c0_x, c1_x, c2_x, hB, hs, rt0, c00, c01, c20, c21, c30, c31⟩ := HX5.out _ hbk17.out
            go_wp2_with fail
            refine (csame_any U U Y Y _ _ _ _ _ _ _ rt_a rt_b rc_a rc_b (by omega) (by omega) (by omega) (by omega)).mono ?_
            rw [HSM.out]
            rintro e w18 ⟨rfl, hb⟩
            have hbk18 : Hid (Below (w16.heap.size + 1) (w16.alloc (.cells #[.slice A16x Y.es.length n16x, .slice B16x Y.ks.length m16x, .slice D16x R.length k16x] 29)) w18) := hid (hbk17.out.trans (hb.mono (by first | omega | (simp; done) | (simp; omega))))
            clear hb
            clear hs_w rt_w rc_w c0_w c1_w c2_w hs_b rt_b rc_b c0_b c1_b c2_b hs_a rt_a rc_a c0_a c1_a c2_a hs_y rt_y rc_y c0_y c1_y c2_y hs_x rt_x rc_x c0_x c1_x c2_x hB hs rt0 c00 c01 c20 c21 c30 c31
            obtain ⟨hs_w, rt_w, rc_w, c0_w, c1_w, c2_w, hs_b, rt_b, rc_b, c0_b, c1_b, c2_b, hs_a, rt_a, rc_a, c0_a, c1_a, c2_a, hs_y, rt_y, rc_y, c0_y, c1_y, c2_y, hs_x, rt_x, rc_x, c0_x, c1_x, c2_x, hB, hs, rt0, c00, c01, c20, c21, c30, c31⟩ := HX5.out _ hbk18.out
            go_wp2_with fail
            go_ret
            exact ⟨rfl, hB⟩
    · rw [fl] at hfi
      clear hc hc2 hky
      go_wp2_with fail
      refine (awake14_any _).mono ?_
      rintro e w6 ⟨rfl, hb⟩
      have hbk6 : Hid (Below (w.heap.size + 3) (((w.alloc (.cells #[.slice A0 t.es.length n0, .slice B0 t.ks.length m0] 25)).alloc (.cells #[.int .i64 d.dc, .int .i64 d.n] 42)).alloc (.cells #[.int .i64 e.dc, .int .i64 e.n] 42)) w6) := hid (hbk5.out.trans (hb.mono (by first | omega | (simp; done) | (simp; omega))))
      clear hb
      clear hB hs rt0 c00 c01 c20 c21 c30 c31
      obtain ⟨hB, hs, rt0, c00, c01, c20, c21, c30, c31⟩ := HX0.out _ hbk6.out
      go_wp2_with fail
      go_ret
      exact ⟨rfl, hB⟩
  · skip
    go_wp2_with fail
    refine (awake14_any _).mono ?_
    rintro e w3 ⟨rfl, hb⟩
    have hbk3 : Hid (Below (w.heap.size + 3) (((w.alloc (.cells #[.slice A0 t.es.length n0, .slice B0 t.ks.length m0] 25)).alloc (.cells #[.int .i64 d.dc, .int .i64 d.n] 42)).alloc (.cells #[.int .i64 e.dc, .int .i64 e.n] 42)) w3) := hid (hbk2.out.trans (hb.mono (by first | omega | (simp; done) | (simp; omega))))
    clear hb
    clear hB hs rt0 c00 c01 c20 c21 c30 c31
    obtain ⟨hB, hs, rt0, c00, c01, c20, c21, c30, c31⟩ := HX0.out _ hbk3.out
    go_wp2_with fail
    go_ret
    exact ⟨rfl, hB⟩
end Go.Proofs.YtkjijbogbelilaaGreat

namespace Go.Proofs.YtkjijbogbelilaaGreat
open Go.ChangeShapes Go.WideShapes Go.ChangeAt Go.RowKit

theorem trodAll_four {H : Type} {enc : TypeId × Value → H} {P : Program} {W : World} {t0 t1 t2 t3 : TypeId} {args : Array Value} {ds : List (DataW H)} {ps : List MemPlace} (h : DataW.TrodAll enc P W 0 (fun _ => true) true [t0, t1, t2, t3] args.toList ds ps) :
    ∃ v0 v1 v2 v3 d0 d1 d2 d3 p0 p1 p2 p3, args = #[v0, v1, v2, v3] ∧ ds = [d0, d1, d2, d3] ∧ ps = p0 ++ p1 ++ p2 ++ p3 ∧ DataW.Trod enc P W 0 (fun _ => true) true t0 v0 d0 p0 ∧ DataW.Trod enc P W 0 (fun _ => true) true t1 v1 d1 p1 ∧ DataW.Trod enc P W 0 (fun _ => true) true t2 v2 d2 p2 ∧ DataW.Trod enc P W 0 (fun _ => true) true t3 v3 d3 p3 := by
  obtain ⟨v0, vs, d0, ds', p0, q, hargs, rfl, rfl, h0, hrest⟩ := trodAll_cons h
  obtain ⟨v1, vs', d1, ds'', p1, q', rfl, rfl, rfl, h1, hrest'⟩ := trodAll_cons hrest
  obtain ⟨v2, vs'', d2, ds''', p2, q'', rfl, rfl, rfl, h2, hrest''⟩ := trodAll_cons hrest'
  obtain ⟨v3, vs''', d3, ds'''', p3, q''', rfl, rfl, rfl, h3, hrest'''⟩ := trodAll_cons hrest''
  obtain ⟨rfl, rfl, rfl⟩ := trodAll_nil hrest'''
  exact ⟨v0, v1, v2, v3, d0, d1, d2, d3, p0, p1, p2, p3, by cases args; simp_all, rfl, by simp, h0, h1, h2, h3⟩
end Go.Proofs.YtkjijbogbelilaaGreat
