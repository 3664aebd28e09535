/- What the laws need, part 5: tree.Get. No condition but that it is not too big. causal.kid. No condition but that the tree is in order. Contexts put together of sets, in plain Lean: they may be taken apart, into those sets; what context.Has tells of them. No condition. Small facts in plain Lean for the laws: a tree of one entry, a context of one dot. No condition. The closure of ormap.Update: is a kid's key this one? No condition. slices.Equal at spans and at entries; slices.EqualFunc at kids. No condition. tree.same, tree.Same. No condition. slices.Sort and slices.Compact at a list of texts of the call's own. No condition but that there are not too many. register.Values. No condition but that there are not too many. Plain law: texts sorted and each once, as the library does it and as the reference does it. No condition. slices.SortFunc at runs: the library's contract laid at this program. No condition. slices.SortFunc at a list of runs of the call's own. No condition but that there are not too many. span.Of is the reference's set of the same numbers. No condition but that the numbers are right, and not too many. context.Of is the reference's context of the same dots. No condition but that the dots are right, and not too many. tree.Dots and flag.Check are what the reference says. No condition but that there are not too many entries. What a change hands back: what is known, and an error's number. No condition. tree.Wrap at one key. No condition but that it is not too big. -/
import Derived.Lib.RowBridge
import Derived.Shelf.SlSortCmp.NoneTotal
import Derived.Shelf.Slices.CompactS
import Derived.Shelf.Slices.In.SortNone
import Derived.Shelf.Sort.Plain
import Derived.Sort.OwnSorted
import Derived.Test.YtmphgnjodangcaaGreatProg
import Derived.Test.YtmphgnjodangcaaGreatUa4
namespace Go.Proofs.YtmphgnjodangcaaGreat
open Go.RowKit
set_option maxRecDepth 100000

theorem getClo_any (key x : ByteArray) (A A' : Option Addr) (n c n' c' : Nat) (B : Nat) (w : World) (hc : w.cell? ⟨B, 0, none⟩ = some (.string key)) (hB : B < w.heap.size) :
    Calls Tryz.prog 140 #[.agg #[.string x, .slice A n c, .slice A' n' c'], .pointer (some ⟨B, 0, none⟩)] w fun e w' => e = .returned (.bool (decide (x = key))) ∧ Below w.heap.size w w' := by
  have hne : B ≠ w.heap.size := by omega
  have HE : Hid ((x.toList == key.toList) = decide (x = key)) := by
    unfold Hid; rw [Bool.eq_iff_iff]; simp [bytes_inj]
  go_enter Tryz.func140, Tryz.ntmps140
  go_wp2_with fail
  go_ret
  exact ⟨ret_bool HE.out, by go_grown⟩
theorem getTest {key : ByteArray} {B : Nat} {w : World} (hc : w.cell? ⟨B, 0, none⟩ = some (.string key)) (hB : B < w.heap.size) : TestKid 140 #[.pointer (some ⟨B, 0, none⟩)] (fun x => decide (x = key)) w :=
  ⟨enters_of Tryz.func140 (by kernel_rfl) rfl, fun x A A' n c n' c' W _ hW => getClo_any key x A A' n c n' c' B W ((hW.cell (p := ⟨B, 0, none⟩) hB).trans hc) (by have := hW.size; omega)⟩

theorem kid_idx (t : Tr) (s : ByteArray) : (idxI (fun y : Kd => decide (y.1 = s)) t.ks = -1 ∧ kidT t s = .mk [] []) ∨ ∃ (k : Nat) (u : Tr), idxI (fun y : Kd => decide (y.1 = s)) t.ks = (k : Int) ∧ t.ks[k]? = some (s, u) ∧ kidT t s = u := by
  unfold idxI kidT
  cases h : t.ks.findIdx? fun y => decide (y.1 = s) with
  | none =>
    rw [List.findIdx?_eq_none_iff] at h
    exact .inl ⟨rfl, by rw [List.find?_eq_none.2 fun x hx => by simpa using h x hx]⟩
  | some i =>
    rw [List.findIdx?_eq_some_iff_getElem] at h
    obtain ⟨hlt, hp, hm⟩ := h
    have hf : t.ks.find? (fun x => decide (x.1 = s)) = some t.ks[i] := by
      rw [List.find?_eq_some_iff_getElem]
      exact ⟨hp, i, hlt, rfl, fun j hj => by simpa using hm j hj⟩
    refine .inr ⟨i, t.ks[i].2, rfl, ?_, by rw [hf]⟩
    rw [List.getElem?_eq_getElem hlt]
    have : t.ks[i].1 = s := by simpa using hp
    rw [← this]
theorem getK_nil : ∀ p : List ByteArray, getK (.mk [] []) p = .mk [] []
  | [] => rfl
  | s :: p => by
    show getK (kidT (.mk [] []) s) p = _
    rw [show kidT (.mk [] []) s = .mk [] [] from rfl]; exact getK_nil p
/-- What tree.Get tells. -/
def tgetT (t : Tr) (p : List ByteArray) : Tr := if t.right 5 then getK t p else .mk [] []

theorem kids_slp {t : Tr} {w : World} {B : Nat} {ve vk : Value} (h : t.rd w B ve vk) : SlP w B 3 (KdE w B) vk t.ks := by
  obtain ⟨es, ks⟩ := t; exact (rd_iff.1 h).2
set_option maxHeartbeats 4000000 in
theorem tget_any (t : Tr) (p : List ByteArray) (ve vk vp : Value) (w : World) (h : t.rd w w.heap.size ve vk) (hp : SlP w w.heap.size 1 StE vp p) (hN : t.sz ≤ 900000) :
    Calls Tryz.prog 61 #[.agg #[ve, vk], vp] w (RetT w (tgetT t p)) := by
  have HC : Hid (∀ w', Below w.heap.size w w' → t.rd w' w'.heap.size ve vk) := fun w' hb => rd_below hb hb.size _ _ _ h
  have HD := hid h
  obtain ⟨A3, n3, A4, n4, rfl, rfl⟩ := rd_shape h
  obtain ⟨Ap, cp, rfl, p1, p2, p3⟩ := hp
  unfold Big at p2
  have hb0 : Below w.heap.size w ((w.alloc (.cells #[.slice A3 t.es.length n3, .slice A4 t.ks.length n4] 27)).alloc (.cells #[.slice none 0 0, .slice none 0 0] 27)) := ((Below.refl _ w).alloc (Nat.le_refl _) _).alloc (by simp) _
  have HW : Hid (∀ w', Below (w.heap.size + 2) ((w.alloc (.cells #[.slice A3 t.es.length n3, .slice A4 t.ks.length n4] 27)).alloc (.cells #[.slice none 0 0, .slice none 0 0] 27)) w' → Below w.heap.size w w' ∧ w.heap.size + 2 ≤ w'.heap.size ∧ w'.heap[w.heap.size]? = some (.cells #[.slice A3 t.es.length n3, .slice A4 t.ks.length n4] 27 (0, 0)) ∧ w'.heap[w.heap.size + 1]? = some (.cells #[.slice none 0 0, .slice none 0 0] 27 (0, 0))) := fun w' hb => by
    have hB : Below w.heap.size w w' := hb0.trans (hb.mono (by omega))
    exact ⟨hB, by have := hb.size; simpa using this, (hb.block _ (by omega)).trans ((heap_old (by simp)).trans (heap_new rfl)), (hb.block _ (by omega)).trans (heap_new (by simp))⟩
  clear h
  go_enter Tryz.func61, Tryz.ntmps61
  go_wp2_with fail
  refine (tRight_any t _ _ _ (HC.out _ hb0)).mono ?_
  rintro e w1 ⟨rfl, hb1⟩
  obtain ⟨hB1, hs1, g2, g4⟩ := HW.out _ (hb1.mono (show w.heap.size + 2 ≤ _ by simp))
  have HG2 := hid g2
  have HG4 := hid g4
  have k0 : w1.cell? ⟨w.heap.size + 1, 0, none⟩ = some (.slice none 0 0) := cell_cells (i := 0) g4
  have k1 : w1.cell? ⟨w.heap.size + 1, 1, none⟩ = some (.slice none 0 0) := cell_cells (i := 1) g4
  have z0 := cells_frz (i := 0) g4
  have z1 := cells_frz (i := 1) g4
  clear hb1 g2 g4
  cases hr : t.right 5
  · have HTT : Hid (tgetT t p = .mk [] []) := by unfold Hid tgetT; rw [hr]; rfl
    clear hr
    go_wp2_with fail
    have hW0 := cells_set (i := 1) (cells_set (i := 0) HG4.out (.slice none 0 0)) (.slice none 0 0)
    have r0 := (cell_cells (i := 0) hW0).trans (show _ = some (.slice none 0 0) by simp)
    have r1 := (cell_cells (i := 1) hW0).trans (show _ = some (.slice none 0 0) by simp)
    refine bodyPost_ret (v := .agg #[.slice none 0 0, .slice none 0 0]) (by simp [results, Tryz.results61, go_sem, r0, r1]) rfl ⟨_, _, rfl, by rw [HTT.out]; exact rda_nil _ _, ((hB1).setCell (by simp) _).setCell (by simp) _⟩
  have HTT0 : Hid (tgetT t p = getK t p) := by unfold Hid tgetT; rw [hr]; rfl
  clear hr k0 k1 z0 z1
  go_wp2_with fail
  go_loopw [14] (fun i wr => ∃ (k : Nat) (u : Tr) (Ae : Option Addr) (ne : Nat) (Ak : Option Addr) (nk : Nat), k ≤ p.length ∧ i = .int .i64 k ∧ Hid (u.rd w w.heap.size (.slice Ae u.es.length ne) (.slice Ak u.ks.length nk)) ∧ u.sz ≤ 900000 ∧ Hid (getK u (p.drop k) = getK t p) ∧ Hid (wr.heap[w.heap.size]? = some (.cells #[.slice Ae u.es.length ne, .slice Ak u.ks.length nk] 27 (0, 0))) ∧ Hid (wr.heap[w.heap.size + 1]? = some (.cells #[.slice none 0 0, .slice none 0 0] 27 (0, 0))) ∧ w.heap.size + 2 ≤ wr.heap.size ∧ Below w.heap.size w wr) (fun i _ => p.length - (intOf i).toNat)
  case atStart => exact ⟨0, t, A3, n3, A4, n4, Nat.zero_le _, rfl, HD, hN, rfl, HG2, HG4, hs1, hB1⟩
  case round =>
    clear HG2 HG4 hs1 hB1
    obtain ⟨k, u, Ae, ne, Ak, nk, hk, rfl, HRD, husz, HK, HG2, HG4, hsw, hB⟩ := hrel
    have c0 : wr.cell? ⟨w.heap.size, 0, none⟩ = some (.slice Ae u.es.length ne) := cell_cells (i := 0) HG2.out
    have c1 : wr.cell? ⟨w.heap.size, 1, none⟩ = some (.slice Ak u.ks.length nk) := cell_cells (i := 1) HG2.out
    by_cases hlt : k < p.length
    · obtain ⟨x, hx⟩ : ∃ x, p[k]? = some x := ⟨_, List.getElem?_eq_getElem hlt⟩
      obtain ⟨b, off, rfl, hbB, hc⟩ := p3 (by rintro rfl; simp at hlt)
      obtain ⟨cs, ⟨rfl, hok⟩, _, hu⟩ := hc k _ hx
      have e0 : wr.cell? ⟨b, off + k, none⟩ = some (.string x) := (hB.cell (p := ⟨b, off + k, none⟩) hbB).trans (by simpa using hu 0 _ rfl)
      have HX : Hid (getK (kidT u x) (p.drop (k + 1)) = getK t p) := by unfold Hid; rw [← HK.out, drop_cons hx]; rfl
      have hne : w.heap.size ≠ wr.heap.size := by omega
      have hlt0 : w.heap.size < wr.heap.size := by omega
      clear hu hc p3 hx HK
      go_wp2_with fail
      refine (idxKid_any (fun y => decide (y = x)) _ _ u.ks _ _ (kids_slp (rd_below (hB.alloc (by omega) (.cells #[.string x] 9)) (hB.alloc (by omega) (.cells #[.string x] 9)).size u _ _ HRD.out)) (getTest (key := x) (B := wr.heap.size) (by simp) (by simp))).mono ?_
      rintro e w1 ⟨rfl, hb1⟩
      have hs1 := hb1.size
      simp only [World.size_alloc] at hs1
      have hB1 : Below w.heap.size w w1 := (hB.alloc (by omega) _).trans (hb1.mono (by rw [World.size_alloc]; omega))
      have HG2' := hid ((hb1.block w.heap.size (by rw [World.size_alloc]; omega)).trans ((heap_old (by omega)).trans HG2.out))
      have HG4' := hid ((hb1.block (w.heap.size + 1) (by rw [World.size_alloc]; omega)).trans ((heap_old (by omega)).trans HG4.out))
      clear hb1 c0 c1 e0 HG2 HG4
      have c0 : w1.cell? ⟨w.heap.size, 0, none⟩ = some (.slice Ae u.es.length ne) := cell_cells (i := 0) HG2'.out
      have c1 : w1.cell? ⟨w.heap.size, 1, none⟩ = some (.slice Ak u.ks.length nk) := cell_cells (i := 1) HG2'.out
      have k0 : w1.cell? ⟨w.heap.size + 1, 0, none⟩ = some (.slice none 0 0) := cell_cells (i := 0) HG4'.out
      have k1 : w1.cell? ⟨w.heap.size + 1, 1, none⟩ = some (.slice none 0 0) := cell_cells (i := 1) HG4'.out
      have y0 := cells_frz (i := 0) HG2'.out
      have y1 := cells_frz (i := 1) HG2'.out
      have z0 := cells_frz (i := 0) HG4'.out
      have z1 := cells_frz (i := 1) HG4'.out
      rcases kid_idx u x with ⟨hi, hkn⟩ | ⟨j, v, hi, hj, hkv⟩
      · have HTT : Hid (tgetT t p = .mk [] []) := by unfold Hid; rw [HTT0.out, ← HX.out, hkn, getK_nil]
        have HG4 := HG4'
        rw [hi]
        clear hi hkn y0 y1
        go_wp2_with fail
        have hW0 := cells_set (i := 1) (cells_set (i := 0) HG4.out (.slice none 0 0)) (.slice none 0 0)
        have r0 := (cell_cells (i := 0) hW0).trans (show _ = some (.slice none 0 0) by simp)
        have r1 := (cell_cells (i := 1) hW0).trans (show _ = some (.slice none 0 0) by simp)
        refine bodyPost_ret (v := .agg #[.slice none 0 0, .slice none 0 0]) (by simp [results, Tryz.results61, go_sem, r0, r1]) rfl ⟨_, _, rfl, by rw [HTT.out]; exact rda_nil _ _, ((hB1).setCell (by simp) _).setCell (by simp) _⟩
      · rw [hi]
        have hjl : j < u.ks.length := (List.getElem?_eq_some_iff.1 hj).1
        have hmem := List.mem_of_getElem? hj
        have hvs : v.sz ≤ 900000 := by
          have h1 := kidT_sz u x
          rw [hkv] at h1; omega
        have hkl : u.ks.length ≤ 140737488355328 := by
          have h1 := HRD.out; obtain ⟨es, ks⟩ := u; obtain ⟨_, _, _, _, h2, _⟩ := (rd_iff.1 h1).2; exact h2
        obtain ⟨b', off', rfl, hbB', vAe, vne, vAk, vnk, HRV, q1, q2⟩ : ∃ b' off', Ak = some ⟨b', off', none⟩ ∧ b' < w.heap.size ∧ ∃ vAe vne vAk vnk, Hid (v.rd w w.heap.size (.slice vAe v.es.length vne) (.slice vAk v.ks.length vnk)) ∧ w1.cell? ⟨b', off' + j * 3 + 1, none⟩ = some (.slice vAe v.es.length vne) ∧ w1.cell? ⟨b', off' + j * 3 + 2, none⟩ = some (.slice vAk v.ks.length vnk) := by
          have h1 := HRD.out
          obtain ⟨es, ks⟩ := u
          obtain ⟨Ak', ck', he, _, _, h3⟩ := (rd_iff.1 h1).2
          cases he
          obtain ⟨b', off', rfl, hbB', hc'⟩ := h3 (by rintro rfl; simp [Tr.ks] at hjl)
          obtain ⟨cs, ⟨ve', vk', rfl, _, hrd'⟩, _, hu'⟩ := hc' j _ hj
          obtain ⟨vAe, vne, vAk, vnk, rfl, rfl⟩ := rd_shape hrd'
          exact ⟨b', off', rfl, hbB', vAe, vne, vAk, vnk, hrd', (hB1.cell (p := ⟨b', off' + j * 3 + 1, none⟩) hbB').trans (hu' 1 _ rfl), (hB1.cell (p := ⟨b', off' + j * 3 + 2, none⟩) hbB').trans (hu' 2 _ rfl)⟩
        have HKV := hid hkv
        clear hi hj hmem hkv k0 k1 z0 z1
        go_wp2_with fail
        go_roundw
        case rel => exact ⟨k + 1, v, vAe, vne, vAk, vnk, by omega, by go_num, HRV, hvs, by unfold Hid; rw [← HX.out, HKV.out], hid (by simpa using cells_set (i := 1) (cells_set (i := 0) HG2'.out (.slice vAe v.es.length vne)) (.slice vAk v.ks.length vnk)), hid ((Below.heap_setCell _ _ _ _ (by simp)).trans ((Below.heap_setCell _ _ _ _ (by simp)).trans HG4'.out)), by simp; omega, (hB1.setCell (by simp) _).setCell (by simp) _⟩
        case measure => simp [intOf]; omega
    · obtain rfl : k = p.length := by omega
      have HU : Hid (tgetT t p = u) := by
        have := HK.out
        rw [List.drop_of_length_le (Nat.le_refl _)] at this
        unfold Hid; rw [HTT0.out, ← this]; rfl
      clear p3 HK
      go_wp2_with fail
      refine (tclone_any u wr _ _ (rd_below hB hB.size _ _ _ HRD.out) husz).mono ?_
      rintro e w2 ⟨ve2, vk2, rfl, hrd, hb2⟩
      obtain ⟨Av, nv, Aw, nw, rfl, rfl⟩ := rda_shape hrd
      have hs2 := hb2.size
      have hB2 : Below w.heap.size w w2 := hB.trans (hb2.mono (by omega))
      have HG4' := hid ((hb2.block (w.heap.size + 1) (by omega)).trans HG4.out)
      have HRU := hid hrd
      clear hb2 c0 c1 HG2 HG4 hrd
      have k0 : w2.cell? ⟨w.heap.size + 1, 0, none⟩ = some (.slice none 0 0) := cell_cells (i := 0) HG4'.out
      have k1 : w2.cell? ⟨w.heap.size + 1, 1, none⟩ = some (.slice none 0 0) := cell_cells (i := 1) HG4'.out
      have z0 := cells_frz (i := 0) HG4'.out
      have z1 := cells_frz (i := 1) HG4'.out
      go_wp2_with fail
      obtain ⟨r0, r1, hrW, hsW⟩ := box_tree HG4'.out HRU.out (fun b hb => by have := hb.1; omega)
      refine bodyPost_ret (v := .agg #[.slice Av u.es.length nv, .slice Aw u.ks.length nw]) (by simp [results, Tryz.results61, go_sem, r0, r1]) rfl ⟨_, _, rfl, ?_, (hB2.setCell (by simp) _).setCell (by simp) _⟩
      rw [HU.out]
      exact rda_up (fun _ _ => rfl) (fun b hb => ⟨by have := hb.1; omega, by rw [hsW]; exact hb.2⟩) _ _ _ hrW
end Go.Proofs.YtmphgnjodangcaaGreat

namespace Go.Proofs.YtmphgnjodangcaaGreat
open Go.RowKit
set_option maxRecDepth 100000

/-- The call hands back a tree that lay in memory before. -/
def RetS (w : World) (t : Tr) (e : Ending) (w' : World) : Prop :=
  ∃ ve vk, e = .returned (.agg #[ve, vk]) ∧ t.rd w w.heap.size ve vk ∧ Below w.heap.size w w'
set_option maxHeartbeats 4000000 in
theorem ckid_any (t : Tr) (s : ByteArray) (ve vk : Value) (w : World) (h : t.rd w w.heap.size ve vk) (ho : t.Ord) :
    Calls Tryz.prog 231 #[.agg #[ve, vk], .string s] w (RetS w (kidT t s)) := by
  have HD := hid h
  have hS : t.ks.Pairwise fun a b => ltS a.1 b.1 = true := by obtain ⟨es, ks⟩ := t; exact (ord_iff.1 ho).2.1
  have HO := hid ho
  obtain ⟨A3, n3, A4, n4, rfl, rfl⟩ := rd_shape h
  have hb0 : Below w.heap.size w ((w.alloc (.cells #[.slice A3 t.es.length n3, .slice A4 t.ks.length n4] 27)).alloc (.cells #[.slice none 0 0, .slice none 0 0] 27)) := ((Below.refl _ w).alloc (Nat.le_refl _) _).alloc (by simp) _
  have hkl : t.ks.length ≤ 140737488355328 := by
    have h1 := HD.out; obtain ⟨es, ks⟩ := t; obtain ⟨_, _, _, _, h2, _⟩ := (rd_iff.1 h1).2; exact h2
  clear h
  go_enter Tryz.func231, Tryz.ntmps231
  go_wp2_with fail
  refine (bsf_any t.ks s _ _ (kids_slp (rd_below hb0 hb0.size t _ _ HD.out)) hS).mono ?_
  rintro e w1 ⟨he, hb1⟩
  have hs1 := hb1.size
  simp only [World.size_alloc] at hs1
  have hB1 : Below w.heap.size w w1 := hb0.trans (hb1.mono (by simp; omega))
  have g2 := (hb1.block w.heap.size (by simp; omega)).trans ((heap_old (by simp)).trans (heap_new (o := .cells #[.slice A3 t.es.length n3, .slice A4 t.ks.length n4] 27) rfl))
  have g4 := (hb1.block (w.heap.size + 1) (by simp)).trans (heap_new (w := w.alloc (.cells #[.slice A3 t.es.length n3, .slice A4 t.ks.length n4] 27)) (by simp))
  have HG4 := hid g4
  have c0 := cell_cells (i := 0) g2
  have c1 := cell_cells (i := 1) g2
  have k0 := cell_cells (i := 0) g4
  have k1 := cell_cells (i := 1) g4
  have z0 := cells_frz (i := 0) g4
  have z1 := cells_frz (i := 1) g4
  simp only [List.getElem?_toArray, List.getElem?_cons_zero, List.getElem?_cons_succ] at c0 c1 k0 k1
  clear g2 g4 hS hb1
  rcases he with ⟨i, u, rfl, hi⟩ | ⟨i, rfl, hn⟩
  · have hil : i < t.ks.length := (List.getElem?_eq_some_iff.1 hi).1
    have hKT : kidT t s = u := kidT_mem HO.out (List.mem_of_getElem? hi)
    obtain ⟨b', off', rfl, hbB', vAe, vne, vAk, vnk, HRV, q1, q2⟩ : ∃ b' off', A4 = some ⟨b', off', none⟩ ∧ b' < w.heap.size ∧ ∃ vAe vne vAk vnk, Hid (u.rd w w.heap.size (.slice vAe u.es.length vne) (.slice vAk u.ks.length vnk)) ∧ w1.cell? ⟨b', off' + i * 3 + 1, none⟩ = some (.slice vAe u.es.length vne) ∧ w1.cell? ⟨b', off' + i * 3 + 2, none⟩ = some (.slice vAk u.ks.length vnk) := by
      have h1 := HD.out
      obtain ⟨es, ks⟩ := t
      obtain ⟨Ak', ck', he, _, _, h3⟩ := (rd_iff.1 h1).2
      cases he
      obtain ⟨b', off', rfl, hbB', hc'⟩ := h3 (by rintro rfl; simp [Tr.ks] at hil)
      obtain ⟨cs, ⟨ve', vk', rfl, _, hrd'⟩, _, hu'⟩ := hc' i _ hi
      obtain ⟨vAe, vne, vAk, vnk, rfl, rfl⟩ := rd_shape hrd'
      exact ⟨b', off', rfl, hbB', vAe, vne, vAk, vnk, hrd', (hB1.cell (p := ⟨b', off' + i * 3 + 1, none⟩) hbB').trans (hu' 1 _ rfl), (hB1.cell (p := ⟨b', off' + i * 3 + 2, none⟩) hbB').trans (hu' 2 _ rfl)⟩
    have HKT := hid hKT
    clear hi hKT
    go_wp2_with fail
    have hW0 := cells_set (i := 1) (cells_set (i := 0) HG4.out (.slice vAe u.es.length vne)) (.slice vAk u.ks.length vnk)
    have r0 := (cell_cells (i := 0) hW0).trans (show _ = some (.slice vAe u.es.length vne) by simp)
    have r1 := (cell_cells (i := 1) hW0).trans (show _ = some (.slice vAk u.ks.length vnk) by simp)
    refine bodyPost_ret (v := .agg #[.slice vAe u.es.length vne, .slice vAk u.ks.length vnk]) (by simp [results, Tryz.results231, go_sem, r0, r1]) rfl ⟨_, _, rfl, (by rw [HKT.out]; exact HRV.out), (hB1.setCell (by simp) _).setCell (by simp) _⟩
  · have HKT : Hid (kidT t s = .mk [] []) := kidT_none hn
    go_wp2_with fail
    have hW0 := cells_set (i := 1) (cells_set (i := 0) HG4.out (.slice none 0 0)) (.slice none 0 0)
    have r0 := (cell_cells (i := 0) hW0).trans (show _ = some (.slice none 0 0) by simp)
    have r1 := (cell_cells (i := 1) hW0).trans (show _ = some (.slice none 0 0) by simp)
    refine bodyPost_ret (v := .agg #[.slice none 0 0, .slice none 0 0]) (by simp [results, Tryz.results231, go_sem, r0, r1]) rfl ⟨_, _, rfl, (by rw [HKT.out]; exact rd_empty), (hB1.setCell (by simp) _).setCell (by simp) _⟩
end Go.Proofs.YtmphgnjodangcaaGreat

namespace Go.Proofs.YtmphgnjodangcaaGreat
open Go.RowKit

theorem dcsOk_of : ∀ (c : List Sp) (L : Int), c.Pairwise (fun a b => a.dc ≤ b.dc) → (∀ s ∈ c, L ≤ s.dc ∧ s.dc < 4) → dcsOk L c = true
  | [], _, _, _ => rfl
  | s :: c, L, hp, ha => by
    rw [List.pairwise_cons] at hp
    rw [dcsOk, dcsOk_of c s.dc hp.2 (fun x hx => ⟨hp.1 x hx, (ha x (by simp [hx])).2⟩)]
    have := ha s (by simp)
    simp [this]
theorem wholeK_dc (ls : Nat → List (Int × Int)) : ∀ k, ∀ s ∈ wholeK ls k, 0 ≤ s.dc ∧ s.dc < k
  | 0, s, h => by simp [wholeK] at h
  | k + 1, s, h => by
    rw [wholeK_succ] at h
    rcases List.mem_append.1 h with h | h
    · have := wholeK_dc ls k s h; omega
    · obtain ⟨r, _, rfl⟩ := List.mem_map.1 h
      show 0 ≤ (k : Int) ∧ (k : Int) < _
      omega
theorem wholeK_pw (ls : Nat → List (Int × Int)) : ∀ k, (wholeK ls k).Pairwise fun a b => a.dc ≤ b.dc
  | 0 => by simp [wholeK]
  | k + 1 => by
    rw [wholeK_succ, List.pairwise_append]
    refine ⟨wholeK_pw ls k, ?_, fun a ha b hb => ?_⟩
    · unfold spansL
      rw [List.pairwise_map]
      exact List.pairwise_of_forall fun _ _ => Int.le_refl _
    · obtain ⟨r, _, rfl⟩ := List.mem_map.1 hb
      have := wholeK_dc ls k a ha
      show a.dc ≤ (k : Int)
      omega
theorem partL_app (a b : List Sp) (dc : Int) : partL (a ++ b) dc = partL a dc ++ partL b dc := by simp [partL]
theorem partL_spans (l : List (Int × Int)) (d dc : Int) : partL (spansL d l) dc = if d = dc then l else [] := by
  unfold partL spansL
  rw [List.filter_map, List.map_map]
  by_cases e : d = dc
  · rw [if_pos e]
    rw [List.filter_eq_self.2 (fun x _ => by simp [e])]
    exact List.map_id'' (fun x => rfl) l
  · rw [if_neg e, List.filter_eq_nil_iff.2 (fun x _ => by simp [e])]; rfl
theorem partL_whole (ls : Nat → List (Int × Int)) : ∀ (k d : Nat), partL (wholeK ls k) d = if d < k then ls d else []
  | 0, d => by simp [wholeK, partL]
  | k + 1, d => by
    rw [wholeK_succ, partL_app, partL_whole ls k d, partL_spans]
    by_cases e : d = k
    · subst e; rw [if_neg (Nat.lt_irrefl _), if_pos rfl, if_pos (Nat.lt_succ_self _)]; rfl
    · rw [if_neg (show ¬ (k : Int) = (d : Int) by omega), List.append_nil]
      by_cases h : d < k
      · rw [if_pos h, if_pos (by omega)]
      · rw [if_neg h, if_neg (by omega)]
theorem apart_whole {ls : Nat → List (Int × Int)} (h : ∀ i, i < 4 → runsR none (ls i) = true) : apartB (wholeK ls 4) = true := by
  unfold apartB
  rw [dcsOk_of _ 0 (wholeK_pw ls 4) (fun s hs => by have := wholeK_dc ls 4 s hs; omega), Bool.true_and, List.all_eq_true]
  intro i hi
  have hi4 : i < 4 := List.mem_range.1 hi
  rw [partL_whole, if_pos hi4]
  exact h i hi4
/-- Two contexts put together of sets of the same numbers are the same. -/
theorem whole_eq {ls ms : Nat → List (Int × Int)} (h : ∀ i, i < 4 → ls i = ms i) : wholeK ls 4 = wholeK ms 4 := by
  unfold wholeK
  rw [List.flatMap_def, List.flatMap_def]
  congr 1
  apply List.map_congr_left
  intro i hi
  rw [h i (List.mem_range.1 hi)]

theorem ctxOf_whole (l : List Dt) : ctxOf l = wholeK (fun i => ofL (numsL l i)) 4 := rfl
theorem nums_ok {l : List Dt} (h : ∀ d ∈ l, d.right = true) (dc : Int) : ∀ x ∈ numsL l dc, 1 ≤ x ∧ x ≤ 1099511627776 := fun x hx => by
  unfold numsL at hx
  obtain ⟨d, hd, rfl⟩ := List.mem_map.1 hx
  have h1 := h d (List.mem_filter.1 hd).1
  simp [Dt.right] at h1
  omega
theorem apart_ctxOf {l : List Dt} (h : ∀ d ∈ l, d.right = true) : apartB (ctxOf l) = true := by
  rw [ctxOf_whole]
  exact apart_whole fun i _ => (ofL_right (nums_ok h i)).1
theorem part_ctxOf (l : List Dt) {d : Nat} (hd : d < 4) : partL (ctxOf l) d = ofL (numsL l d) := by
  rw [ctxOf_whole, partL_whole, if_pos hd]
/-- Of right contexts, context.Has tells what the reference's tells. -/
theorem cHas_eq {c : List Sp} (h : apartB c = true) (d : Dt) : cHas c d = hasC c d := by
  unfold cHas hasC sHas
  rw [h, Bool.true_and]
  cases hd : d.right with
  | false => rfl
  | true =>
    simp only [Bool.true_and]
    have hb : 0 ≤ d.dc ∧ d.dc < 4 := by simp [Dt.right] at hd; omega
    obtain ⟨n, hn⟩ : ∃ n : Nat, d.dc = (n : Int) := ⟨d.dc.toNat, by omega⟩
    unfold apartB at h
    rw [Bool.and_eq_true, List.all_eq_true] at h
    have := h.2 n (List.mem_range.2 (by omega))
    rw [hn, this]; rfl
theorem hasC_ctxOf {l : List Dt} (h : ∀ d ∈ l, d.right = true) {d : Dt} (hd : d.right = true) : hasC (ctxOf l) d = decide (d ∈ l) := by
  have hb : 0 ≤ d.dc ∧ d.dc < 4 := by simp [Dt.right] at hd; omega
  obtain ⟨n, hn⟩ : ∃ n : Nat, d.dc = (n : Int) := ⟨d.dc.toNat, by omega⟩
  unfold hasC
  rw [hd, Bool.true_and, hn, part_ctxOf l (by omega), Bool.eq_iff_iff, (ofL_right (nums_ok h n)).2, decide_eq_true_eq]
  unfold numsL
  rw [List.mem_map]
  constructor
  · rintro ⟨x, hx, he⟩
    obtain ⟨hx1, hx2⟩ := List.mem_filter.1 hx
    have : x = d := by cases x; cases d; simp at *; exact ⟨hx2.trans hn.symm, he⟩
    rw [← this]; exact hx1
  · intro hm
    exact ⟨d, List.mem_filter.2 ⟨hm, by simp [hn]⟩, rfl⟩
end Go.Proofs.YtmphgnjodangcaaGreat

namespace Go.Proofs.YtmphgnjodangcaaGreat
open Go.RowKit

theorem build_one_leaf (x : En) : buildL [([], x)] = .mk [x] [] := by
  unfold buildL deepL
  simp only [List.map_cons, List.map_nil, List.length_nil, List.sum_cons, List.sum_nil, Nat.add_zero]
  rw [buildT]
  have h1 : selEnts [([], x)] = [x] := by
    unfold selEnts
    have hi := lt_irrefl' x.dot
    simp [entsGo, bestE, selS, selC, okP, hi]
  have h2 : bestK [(([] : List ByteArray), x)] ByteArray.empty = ByteArray.empty := by simp [bestK, keyS, keyC]
  rw [h1]
  simp [kidsGo, h2]
theorem ofL_nil : ofL [] = [] := by simp [ofL, ofGo, nextL]
theorem ofL_one {n : Int} (h : 1 ≤ n ∧ n ≤ 1099511627776) : ofL [n] = [(n, n)] := by
  obtain ⟨h1, h2⟩ := ofL_right (ps := [n]) (fun x hx => by simp at hx; subst hx; exact h)
  refine runs_eq _ _ none none h1 ((runsR_one none (n, n)).2 ⟨⟨h.1, Int.le_refl _, h.2⟩, rfl⟩) fun m => ?_
  rw [Bool.eq_iff_iff, h2]
  simp [hasL, inR]
  omega
theorem right_bd {d : Dt} (h : d.right = true) : (0 ≤ d.dc ∧ d.dc < 4) ∧ 1 ≤ d.n ∧ d.n ≤ 1099511627776 := by simpa [Dt.right, and_assoc] using h
theorem ctxOf_one {d : Dt} (h : d.right = true) : ctxOf [d] = [⟨d.dc, d.n, d.n⟩] := by
  obtain ⟨h1, h2⟩ := right_bd h
  rw [ctxOf_whole]
  have hk : ∀ i : Nat, ofL (numsL [d] (i : Int)) = if d.dc = (i : Int) then [(d.n, d.n)] else [] := fun i => by
    by_cases e : d.dc = (i : Int)
    · rw [if_pos e, show numsL [d] (i : Int) = [d.n] by simp [numsL, e], ofL_one h2]
    · rw [if_neg e, show numsL [d] (i : Int) = [] by simp [numsL, e], ofL_nil]
  unfold wholeK
  simp only [hk]
  rcases (show d.dc = 0 ∨ d.dc = 1 ∨ d.dc = 2 ∨ d.dc = 3 by omega) with e | e | e | e <;> simp [e, List.range_succ, spansL]
theorem ctxBy_whole (a b : List Sp) (how : Int) : ctxBy a b how = wholeK (fun i => byL (partL a i) (partL b i) how) 4 := rfl
theorem runs_ok : ∀ (l : List (Int × Int)) (p : Option Int), runsR p l = true → ∀ r ∈ l, runOk r
  | x :: l, p, h, r, hr => by
    rw [runsR_iff] at h
    rcases List.mem_cons.1 hr with rfl | hr
    · exact h.1
    · exact runs_ok l _ h.2.2 r hr
theorem apart_part {c : List Sp} (h : apartB c = true) {i : Nat} (hi : i < 4) : runsR none (partL c i) = true := by
  unfold apartB at h
  rw [Bool.and_eq_true, List.all_eq_true] at h
  exact h.2 i (List.mem_range.2 hi)
theorem apart_dcs : ∀ (c : List Sp) (L : Int), dcsOk L c = true → ∀ s ∈ c, L ≤ s.dc ∧ s.dc < 4
  | s :: c, L, h, x, hx => by
    rw [dcsOk, Bool.and_eq_true, Bool.and_eq_true, decide_eq_true_eq, decide_eq_true_eq] at h
    rcases List.mem_cons.1 hx with rfl | hx
    · exact ⟨h.1.1, h.1.2⟩
    · have := apart_dcs c s.dc h.2 x hx; exact ⟨by omega, this.2⟩
theorem dcs_split : ∀ (c : List Sp) (L : Nat), dcsOk (L : Int) c = true → ∀ n, L + n = 4 → c = (List.range' L n).flatMap fun (dc : Nat) => spansL (dc : Int) (partL c (dc : Int))
  | c, L, h, 0, hn => by
    cases c with
    | nil => rfl
    | cons s c => have := apart_dcs _ _ h s (by simp); omega
  | c, L, h, n + 1, hn => by
    rw [List.range'_succ, List.flatMap_cons]
    have key : ∀ (c : List Sp) (L : Int), dcsOk L c = true → ∃ c', c = spansL L (partL c L) ++ c' ∧ dcsOk (L + 1) c' = true := by
      intro c
      induction c with
      | nil => intro L _; exact ⟨[], by simp [partL, spansL], rfl⟩
      | cons s c ih =>
        intro L h
        rw [dcsOk, Bool.and_eq_true, Bool.and_eq_true, decide_eq_true_eq, decide_eq_true_eq] at h
        obtain ⟨⟨h1, h2⟩, h3⟩ := h
        by_cases e : s.dc = L
        · rw [e] at h3
          obtain ⟨c', hc, hd⟩ := ih L h3
          refine ⟨c', ?_, hd⟩
          have hp : partL (s :: c) L = (s.fr, s.hi) :: partL c L := by simp [partL, e]
          rw [hp]
          conv => lhs; rw [hc]
          unfold spansL
          rw [List.map_cons, List.cons_append]
          congr 1
          cases s; simp at e; simp [e]
        · refine ⟨s :: c, ?_, ?_⟩
          · have hp : partL (s :: c) L = [] := by
              unfold partL
              rw [List.filter_eq_nil_iff.2, List.map_nil]
              intro x hx
              have : s.dc ≤ x.dc := by
                rcases List.mem_cons.1 hx with rfl | hx
                · exact Int.le_refl _
                · exact (apart_dcs c s.dc h3 x hx).1
              simp; omega
            rw [hp]; rfl
          · rw [dcsOk, h3]; simp; omega
    obtain ⟨c', hc, hd⟩ := key c L h
    have ih := dcs_split c' (L + 1) (by exact_mod_cast hd) n (by omega)
    have hpc : ∀ dc : Nat, L + 1 ≤ dc → partL c dc = partL c' dc := fun dc hdc => by
      rw [hc, partL_app, partL_spans, if_neg (by omega)]; rfl
    conv => lhs; rw [hc, ih]
    congr 1
    rw [List.flatMap_def, List.flatMap_def]
    congr 1
    apply List.map_congr_left
    intro i hi
    rw [hpc i (by have := List.mem_range'_1.1 hi; omega)]
/-- A right context is put together of its parts. -/
theorem whole_part {c : List Sp} (h : apartB c = true) : wholeK (fun i => partL c i) 4 = c := by
  unfold apartB at h
  rw [Bool.and_eq_true] at h
  have := dcs_split c 0 h.1 4 rfl
  unfold wholeK
  rw [List.range_eq_range']
  exact this.symm
/-- The reference's union with nothing. -/
theorem union_nil {c : List Sp} (h : apartB c = true) : ctxBy [] c 0 = c := by
  rw [ctxBy_whole]
  conv => rhs; rw [← whole_part h]
  refine whole_eq fun i hi => ?_
  have hr := apart_part h hi
  have ha : ∀ r ∈ partL ([] : List Sp) i, runOk r := fun r hr => by simp [partL] at hr
  obtain ⟨h1, h2⟩ := byL_right (a := partL ([] : List Sp) i) (b := partL c i) 0 ha (runs_ok _ _ hr)
  refine runs_eq _ _ none none h1 hr fun n => ?_
  rw [h2]
  simp [inn, hasL, partL]
theorem put_ctx {d : Dt} (h : d.right = true) : ctxBy [] [⟨d.dc, d.n, d.n⟩] 0 = ctxOf [d] := by
  rw [← ctxOf_one h]
  exact union_nil (apart_ctxOf fun x hx => by simp at hx; subst hx; exact h)
end Go.Proofs.YtmphgnjodangcaaGreat

namespace Go.Proofs.YtmphgnjodangcaaGreat
open Go.RowKit
set_option maxRecDepth 100000

theorem updClo_any (key x : ByteArray) (A A' : Option Addr) (n c n' c' : Nat) (B : Nat) (w : World) (hc : w.cell? ⟨B, 0, none⟩ = some (.string key)) (hB : B < w.heap.size) :
    Calls Tryz.prog 134 #[.agg #[.string x, .slice A n c, .slice A' n' c'], .pointer (some ⟨B, 0, none⟩)] w fun e w' => e = .returned (.bool (decide (x = key))) ∧ Below w.heap.size w w' := by
  have hne : B ≠ w.heap.size := by omega
  have HE : Hid ((x.toList == key.toList) = decide (x = key)) := by
    unfold Hid; rw [Bool.eq_iff_iff]; simp [bytes_inj]
  go_enter Tryz.func134, Tryz.ntmps134
  go_wp2_with fail
  go_ret
  exact ⟨ret_bool HE.out, by go_grown⟩
theorem updTest {key : ByteArray} {B : Nat} {w : World} (hc : w.cell? ⟨B, 0, none⟩ = some (.string key)) (hB : B < w.heap.size) : TestKid 134 #[.pointer (some ⟨B, 0, none⟩)] (fun x => decide (x = key)) w :=
  ⟨enters_of Tryz.func134 (by kernel_rfl) rfl, fun x A A' n c n' c' W _ hW => updClo_any key x A A' n c n' c' B W ((hW.cell (p := ⟨B, 0, none⟩) hB).trans hc) (by have := hW.size; omega)⟩
end Go.Proofs.YtmphgnjodangcaaGreat

namespace Go.Proofs.YtmphgnjodangcaaGreat
open Go.RowKit
set_option maxRecDepth 100000

set_option maxHeartbeats 1000000 in
theorem eqSps_any (a b : List Sp) (va vb : Value) (w : World) (B : Nat) (ha : SlP w B 3 SpE va a) (hb : SlP w B 3 SpE vb b) :
    Calls Tryz.prog 191 #[va, vb] w fun e w' => e = .returned (.bool (decide (a = b))) ∧ ∃ n, w' = w.drewN n := by
  obtain ⟨A1, n1, rfl, b1, b2, b3⟩ := ha
  obtain ⟨A2, n2, rfl, c1, c2, c3⟩ := hb
  unfold Big at b2 c2
  by_cases hl : a.length = b.length
  · have hl' : ((a.length : Int) != (b.length : Int)) = false := by simp [hl]
    have HL := hid hl
    clear hl
    have gg := guardSpan
    have nn := neqSpan
    go_enter Tryz.func191, Tryz.ntmps191
    go_wp2_with fail
    go_loopw [13] (fun i wr => ∃ k : Nat, k ≤ a.length ∧ i = .int .i64 k ∧ Hid (a.take k = b.take k) ∧ ∃ n, wr = w.drewN n) (fun i _ => a.length - (intOf i).toNat)
    case atStart => exact ⟨0, Nat.zero_le _, rfl, rfl, 0, rfl⟩
    case round =>
      obtain ⟨k, hk, rfl, hrel, q, rfl⟩ := hrel
      by_cases hlt : k < a.length
      · have hlt2 : k < b.length := by have := HL.out; omega
        obtain ⟨x, hx⟩ : ∃ x, a[k]? = some x := ⟨_, List.getElem?_eq_getElem hlt⟩
        obtain ⟨y, hy⟩ : ∃ y, b[k]? = some y := ⟨_, List.getElem?_eq_getElem hlt2⟩
        obtain ⟨ba, oa, rfl, hbA, hc⟩ := b3 (by rintro rfl; simp at hlt)
        obtain ⟨bb, ob, rfl, hbB, hd⟩ := c3 (by rintro rfl; simp at hlt2)
        obtain ⟨cs, ⟨rfl, hok⟩, _, hu⟩ := hc k _ hx
        obtain ⟨ds, ⟨rfl, hok2⟩, _, hv⟩ := hd k _ hy
        have e0 : w.cell? ⟨ba, oa + k * 3, none⟩ = some (.int .i64 x.dc) := hu 0 _ rfl
        have e1 : w.cell? ⟨ba, oa + k * 3 + 1, none⟩ = some (.int .i64 x.fr) := hu 1 _ rfl
        have e2 : w.cell? ⟨ba, oa + k * 3 + 2, none⟩ = some (.int .i64 x.hi) := hu 2 _ rfl
        have g0 : w.cell? ⟨bb, ob + k * 3, none⟩ = some (.int .i64 y.dc) := hv 0 _ rfl
        have g1 : w.cell? ⟨bb, ob + k * 3 + 1, none⟩ = some (.int .i64 y.fr) := hv 1 _ rfl
        have g2 : w.cell? ⟨bb, ob + k * 3 + 2, none⟩ = some (.int .i64 y.hi) := hv 2 _ rfl
        have HT := hid (take_eq_succ hx hy hrel.out)
        have HXY : Hid (a = b → x = y) := fun e => by subst e; rw [hx] at hy; exact Option.some.inj hy
        have hi1 : ((k : Int)) < (a.length : Int) := by omega
        have hi2 : ((k : Int)) < (b.length : Int) := by omega
        clear hu hv hc hd b3 c3 hx hy hok hok2
        rcases hxy : decide (x = y)
        · have hne : x ≠ y := by simpa using hxy
          go_wp2_with fail
          go_quiet (fail)
          go_wp2_with fail
          go_ret
          exact ⟨ret_bool (by simpa using fun e => hne (HXY.out e)), q + nq, by first | rfl | exact World.drewN_drewN _ _ _⟩
        · have hE := hid (of_decide_eq_true hxy)
          go_wp2_with fail
          go_quiet (fail)
          go_wp2_with fail
          go_roundw
          case rel => exact ⟨k + 1, by omega, by go_num, HT.out.2 hE.out, q + nq, by first | rfl | exact World.drewN_drewN _ _ _⟩
          case measure => simp [intOf]; omega
      · obtain rfl : k = a.length := by omega
        have HR := hid hrel.out
        clear hrel
        go_wp2_with fail
        go_ret
        refine ⟨ret_bool ?_, q, rfl⟩
        have h1 := HR.out
        rw [List.take_of_length_le (Nat.le_refl _), List.take_of_length_le (by rw [HL.out]; exact Nat.le_refl _)] at h1
        simp [h1]
  · have hl' : ((a.length : Int) != (b.length : Int)) = true := by simp; omega
    have HL := hid hl
    clear hl
    go_enter Tryz.func191, Tryz.ntmps191
    go_wp2_with fail
    go_ret
    refine ⟨ret_bool ?_, 0, rfl⟩
    have : a ≠ b := fun e => HL.out (by rw [e])
    simp [this]
set_option maxHeartbeats 1000000 in
theorem eqEnts_any (a b : List En) (va vb : Value) (w : World) (B : Nat) (ha : SlP w B 4 EnE va a) (hb : SlP w B 4 EnE vb b) :
    Calls Tryz.prog 198 #[va, vb] w fun e w' => e = .returned (.bool (decide (a = b))) ∧ ∃ n, w' = w.drewN n := by
  obtain ⟨A1, n1, rfl, b1, b2, b3⟩ := ha
  obtain ⟨A2, n2, rfl, c1, c2, c3⟩ := hb
  unfold Big at b2 c2
  by_cases hl : a.length = b.length
  · have hl' : ((a.length : Int) != (b.length : Int)) = false := by simp [hl]
    have HL := hid hl
    clear hl
    have gg := guardEntry
    have nn := neqEntry
    go_enter Tryz.func198, Tryz.ntmps198
    go_wp2_with fail
    go_loopw [13] (fun i wr => ∃ k : Nat, k ≤ a.length ∧ i = .int .i64 k ∧ Hid (a.take k = b.take k) ∧ ∃ n, wr = w.drewN n) (fun i _ => a.length - (intOf i).toNat)
    case atStart => exact ⟨0, Nat.zero_le _, rfl, rfl, 0, rfl⟩
    case round =>
      obtain ⟨k, hk, rfl, hrel, q, rfl⟩ := hrel
      by_cases hlt : k < a.length
      · have hlt2 : k < b.length := by have := HL.out; omega
        obtain ⟨x, hx⟩ : ∃ x, a[k]? = some x := ⟨_, List.getElem?_eq_getElem hlt⟩
        obtain ⟨y, hy⟩ : ∃ y, b[k]? = some y := ⟨_, List.getElem?_eq_getElem hlt2⟩
        obtain ⟨ba, oa, rfl, hbA, hc⟩ := b3 (by rintro rfl; simp at hlt)
        obtain ⟨bb, ob, rfl, hbB, hd⟩ := c3 (by rintro rfl; simp at hlt2)
        obtain ⟨cs, ⟨rfl, hok⟩, _, hu⟩ := hc k _ hx
        obtain ⟨ds, ⟨rfl, hok2⟩, _, hv⟩ := hd k _ hy
        have e0 : w.cell? ⟨ba, oa + k * 4, none⟩ = some (.int .i64 x.dc) := hu 0 _ rfl
        have e1 : w.cell? ⟨ba, oa + k * 4 + 1, none⟩ = some (.int .i64 x.n) := hu 1 _ rfl
        have e2 : w.cell? ⟨ba, oa + k * 4 + 2, none⟩ = some (.string x.s) := hu 2 _ rfl
        have e3 : w.cell? ⟨ba, oa + k * 4 + 3, none⟩ = some (.int .i64 x.v) := hu 3 _ rfl
        have g0 : w.cell? ⟨bb, ob + k * 4, none⟩ = some (.int .i64 y.dc) := hv 0 _ rfl
        have g1 : w.cell? ⟨bb, ob + k * 4 + 1, none⟩ = some (.int .i64 y.n) := hv 1 _ rfl
        have g2 : w.cell? ⟨bb, ob + k * 4 + 2, none⟩ = some (.string y.s) := hv 2 _ rfl
        have g3 : w.cell? ⟨bb, ob + k * 4 + 3, none⟩ = some (.int .i64 y.v) := hv 3 _ rfl
        have HT := hid (take_eq_succ hx hy hrel.out)
        have HXY : Hid (a = b → x = y) := fun e => by subst e; rw [hx] at hy; exact Option.some.inj hy
        have hi1 : ((k : Int)) < (a.length : Int) := by omega
        have hi2 : ((k : Int)) < (b.length : Int) := by omega
        clear hu hv hc hd b3 c3 hx hy hok hok2
        rcases hxy : decide (x = y)
        · have hne : x ≠ y := by simpa using hxy
          go_wp2_with fail
          go_quiet (fail)
          go_wp2_with fail
          go_ret
          exact ⟨ret_bool (by simpa using fun e => hne (HXY.out e)), q + nq, by first | rfl | exact World.drewN_drewN _ _ _⟩
        · have hE := hid (of_decide_eq_true hxy)
          go_wp2_with fail
          go_quiet (fail)
          go_wp2_with fail
          go_roundw
          case rel => exact ⟨k + 1, by omega, by go_num, HT.out.2 hE.out, q + nq, by first | rfl | exact World.drewN_drewN _ _ _⟩
          case measure => simp [intOf]; omega
      · obtain rfl : k = a.length := by omega
        have HR := hid hrel.out
        clear hrel
        go_wp2_with fail
        go_ret
        refine ⟨ret_bool ?_, q, rfl⟩
        have h1 := HR.out
        rw [List.take_of_length_le (Nat.le_refl _), List.take_of_length_le (by rw [HL.out]; exact Nat.le_refl _)] at h1
        simp [h1]
  · have hl' : ((a.length : Int) != (b.length : Int)) = true := by simp; omega
    have HL := hid hl
    clear hl
    go_enter Tryz.func198, Tryz.ntmps198
    go_wp2_with fail
    go_ret
    refine ⟨ret_bool ?_, 0, rfl⟩
    have : a ≠ b := fun e => HL.out (by rw [e])
    simp [this]
open Classical in
noncomputable def ksEq (a b : List Kd) : Bool := decide (a = b)
theorem ksEq_iff {a b : List Kd} : ksEq a b = true ↔ a = b := by simp [ksEq]
theorem ksEq_no {a b : List Kd} : ksEq a b = false ↔ a ≠ b := by simp [ksEq]
open Classical in
noncomputable def kdEq (a b : Kd) : Bool := decide (a = b)
theorem kdEq_iff {a b : Kd} : kdEq a b = true ↔ a = b := by simp [kdEq]
theorem kdEq_no {a b : Kd} : kdEq a b = false ↔ a ≠ b := by simp [kdEq]
/-- A test on two kids: are they alike? -/
def TestKids (g : Nat) (l m : List Kd) (w : World) : Prop :=
  (∀ args W, (callFunc g args).run Tryz.prog W = .ok (.enter g args) W) ∧
  ∀ (x : Kd) (y : Kd) (xe xk ye yk : Value) (W : World), x ∈ l → y ∈ m → Below w.heap.size w W → x.2.rd W W.heap.size xe xk → y.2.rd W W.heap.size ye yk → Calls Tryz.prog g #[.agg #[.string x.1, xe, xk], .agg #[.string y.1, ye, yk]] W fun e w' => e = .returned (.bool (kdEq x y)) ∧ Below W.heap.size W w'
set_option maxHeartbeats 2000000 in
theorem eqKids_any (g : Nat) (l m : List Kd) (vl vm : Value) (w : World) (h : SlP w w.heap.size 3 (KdE w w.heap.size) vl l) (h' : SlP w w.heap.size 3 (KdE w w.heap.size) vm m) (ht : TestKids g l m w) :
    Calls Tryz.prog 199 #[vl, vm, .func (.func g) #[] #[]] w fun e w' => e = .returned (.bool (ksEq l m)) ∧ Below w.heap.size w w' := by
  obtain ⟨A1, n1, rfl, b1, b2, b3⟩ := h
  obtain ⟨A2, n2, rfl, c1, c2, c3⟩ := h'
  obtain ⟨eg, ht⟩ := ht
  unfold Big at b2 c2
  by_cases hl : l.length = m.length
  case neg =>
    have hl' : ((l.length : Int) != (m.length : Int)) = true := by simp; omega
    have HL := hid hl
    clear hl
    go_enter Tryz.func199, Tryz.ntmps199
    go_wp2_with fail
    go_ret
    exact ⟨ret_bool (by rw [eq_comm, ksEq_no]; rintro rfl; exact HL.out rfl), Below.refl _ _⟩
  have hl' : ((l.length : Int) != (m.length : Int)) = false := by simp [hl]
  have HL := hid hl
  clear hl
  go_enter Tryz.func199, Tryz.ntmps199
  go_wp2_with fail
  go_loopw [17] (fun i wr => ∃ k : Nat, k ≤ l.length ∧ i = .int .i64 k ∧ Hid (l.take k = m.take k) ∧ Below w.heap.size w wr) (fun i _ => l.length - (intOf i).toNat)
  case atStart => exact ⟨0, Nat.zero_le _, rfl, rfl, Below.refl _ _⟩
  case round =>
    obtain ⟨k, hk, rfl, hrel, hb⟩ := hrel
    have hsz := hb.size
    by_cases hlt : k < l.length
    · have hlt2 : k < m.length := by have := HL.out; omega
      obtain ⟨⟨xk, xt⟩, hx⟩ : ∃ x, l[k]? = some x := ⟨_, List.getElem?_eq_getElem hlt⟩
      obtain ⟨⟨yk, yt⟩, hy⟩ : ∃ y, m[k]? = some y := ⟨_, List.getElem?_eq_getElem hlt2⟩
      obtain ⟨ba, oa, rfl, hbA, hc⟩ := b3 (by rintro rfl; simp at hlt)
      obtain ⟨bb, ob, rfl, hbB, hd⟩ := c3 (by rintro rfl; simp at hlt2)
      obtain ⟨cs, ⟨v1, v2, rfl, _, hrs⟩, _, hu⟩ := hc k _ hx
      obtain ⟨ds, ⟨u1, u2, rfl, _, hrt⟩, _, hv⟩ := hd k _ hy
      simp only at hrs hrt
      have e0 : wr.cell? ⟨ba, oa + k * 3, none⟩ = some (.string xk) := (hb.cell hbA).trans (hu 0 _ rfl)
      have e1 : wr.cell? ⟨ba, oa + k * 3 + 1, none⟩ = some v1 := (hb.cell hbA).trans (hu 1 _ rfl)
      have e2 : wr.cell? ⟨ba, oa + k * 3 + 2, none⟩ = some v2 := (hb.cell hbA).trans (hu 2 _ rfl)
      have g0 : wr.cell? ⟨bb, ob + k * 3, none⟩ = some (.string yk) := (hb.cell hbB).trans (hv 0 _ rfl)
      have g1 : wr.cell? ⟨bb, ob + k * 3 + 1, none⟩ = some u1 := (hb.cell hbB).trans (hv 1 _ rfl)
      have g2 : wr.cell? ⟨bb, ob + k * 3 + 2, none⟩ = some u2 := (hb.cell hbB).trans (hv 2 _ rfl)
      have HT := hid (take_eq_succ hx hy hrel.out)
      have HXY : Hid (l = m → (xk, xt) = (yk, yt)) := fun e => by rw [e] at hx; rw [hx] at hy; exact Option.some.inj hy
      have hB2 : Below w.heap.size w ((wr.alloc (.cells #[.string xk, v1, v2] 155)).alloc (.cells #[.string yk, u1, u2] 155)) := (hb.alloc hsz _).alloc (by simp; omega) _
      have hcall := ht (xk, xt) (yk, yt) v1 v2 u1 u2 _ (List.mem_of_getElem? hx) (List.mem_of_getElem? hy) hB2 (rd_below hB2 hB2.size _ _ _ hrs) (rd_below hB2 hB2.size _ _ _ hrt)
      have HB2 := hid hB2
      obtain ⟨A3, n3, A4, n4, rfl, rfl⟩ := rd_shape hrs
      obtain ⟨A5, n5, A6, n6, rfl, rfl⟩ := rd_shape hrt
      have h1 : ba < wr.heap.size := by omega
      have h2 : bb < wr.heap.size := by omega
      have h3 : bb ≠ wr.heap.size := by omega
      have hi2 : ((k : Int)) < (m.length : Int) := by omega
      clear hu hv hc hd b3 c3 hx hy hrs hrt ht hB2
      cases hq : kdEq (xk, xt) (yk, yt)
      · rw [hq] at hcall
        have HQ := hid (kdEq_no.1 hq)
        clear hq
        go_wp2_with (go_at_fn g; refine hcall.mono ?_; rintro e w1 ⟨rfl, hb1⟩)
        go_ret
        exact ⟨ret_bool (by rw [eq_comm, ksEq_no]; exact fun e => HQ.out (HXY.out e)), HB2.out.trans (hb1.mono HB2.out.size)⟩
      · rw [hq] at hcall
        have HQ := hid (kdEq_iff.1 hq)
        clear hq
        go_wp2_with (go_at_fn g; refine hcall.mono ?_; rintro e w1 ⟨rfl, hb1⟩)
        go_roundw
        case rel => exact ⟨k + 1, by omega, by go_num, HT.out.2 HQ.out, HB2.out.trans (hb1.mono HB2.out.size)⟩
        case measure => simp [intOf]; omega
    · obtain rfl : k = l.length := by omega
      have HK : Hid (l = m) := by
        have h1 := hrel.out
        rw [List.take_of_length_le (Nat.le_refl _), List.take_of_length_le (by rw [HL.out]; exact Nat.le_refl _)] at h1
        exact h1
      go_wp2_with fail
      go_ret
      exact ⟨ret_bool (by rw [eq_comm, ksEq_iff]; exact HK.out), hb⟩
end Go.Proofs.YtmphgnjodangcaaGreat

namespace Go.Proofs.YtmphgnjodangcaaGreat
open Go.RowKit
set_option maxRecDepth 100000

set_option maxHeartbeats 2000000 in
theorem tsameClo_any (x y : Kd) (xe xk ye yk : Value) (W : World) (hx : x.2.rd W W.heap.size xe xk) (hy : y.2.rd W W.heap.size ye yk)
    (hc : ∀ W', Below W.heap.size W W' → Calls Tryz.prog 138 #[.agg #[xe, xk], .agg #[ye, yk]] W' fun e w' => e = .returned (.bool (trEq x.2 y.2)) ∧ Below W'.heap.size W' w') :
    Calls Tryz.prog 200 #[.agg #[.string x.1, xe, xk], .agg #[.string y.1, ye, yk]] W fun e w' => e = .returned (.bool (kdEq x y)) ∧ Below W.heap.size W w' := by
  obtain ⟨xn, xt⟩ := x
  obtain ⟨yn, yt⟩ := y
  simp only at hx hy hc
  obtain ⟨A3, n3, A4, n4, rfl, rfl⟩ := rd_shape hx
  obtain ⟨A5, n5, A6, n6, rfl, rfl⟩ := rd_shape hy
  have hB : Below W.heap.size W ((W.alloc (.cells #[.string xn, .slice A3 xt.es.length n3, .slice A4 xt.ks.length n4] 155)).alloc (.cells #[.string yn, .slice A5 yt.es.length n5, .slice A6 yt.ks.length n6] 155)) := ((Below.refl _ W).alloc (Nat.le_refl _) _).alloc (by simp) _
  have hcall := hc _ hB
  have HB := hid hB
  clear hx hy hB hc
  rcases hxy : (xn.toList == yn.toList)
  · have hne : xn ≠ yn := fun e => by rw [e] at hxy; simp at hxy
    go_enter Tryz.func200, Tryz.ntmps200
    go_wp2_with fail
    go_ret
    exact ⟨ret_bool (by rw [eq_comm, kdEq_no]; intro e; cases e; exact hne rfl), HB.out⟩
  · have hE := hid ((bytes_inj xn yn).1 (by simpa using hxy))
    cases hst : trEq xt yt
    · have hne := trEq_no.1 hst
      rw [hst] at hcall
      clear hst
      go_enter Tryz.func200, Tryz.ntmps200
      go_wp2_with (go_at_call 138; refine hcall.mono ?_; rintro e w1 ⟨rfl, hb1⟩)
      go_ret
      exact ⟨ret_bool (by rw [eq_comm, kdEq_no]; intro e; cases e; exact hne rfl), HB.out.trans (hb1.mono HB.out.size)⟩
    · have HT := hid (trEq_iff.1 hst)
      rw [hst] at hcall
      clear hst
      go_enter Tryz.func200, Tryz.ntmps200
      go_wp2_with (go_at_call 138; refine hcall.mono ?_; rintro e w1 ⟨rfl, hb1⟩)
      go_ret
      exact ⟨ret_bool (by rw [eq_comm, kdEq_iff, hE.out, HT.out]), HB.out.trans (hb1.mono HB.out.size)⟩
set_option maxHeartbeats 2000000 in
theorem tsame_any (s : Tr) : ∀ (t : Tr) (w : World) (ve vk ue uk : Value), s.rd w w.heap.size ve vk → t.rd w w.heap.size ue uk →
    Calls Tryz.prog 138 #[.agg #[ve, vk], .agg #[ue, uk]] w fun e w' => e = .returned (.bool (trEq s t)) ∧ Below w.heap.size w w' := by
  induction s using Tr.ind with
  | h es ks ih =>
  rintro ⟨es', ks'⟩ w ve vk ue uk h h'
  have h0 := h
  have h0' := h'
  rw [rd_iff] at h h'
  obtain ⟨hes, hks⟩ := h
  obtain ⟨hes', hks'⟩ := h'
  obtain ⟨A3, n3, A4, n4, rfl, rfl⟩ := rd_shape h0
  obtain ⟨A5, n5, A6, n6, rfl, rfl⟩ := rd_shape h0'
  simp only [Tr.es, Tr.ks] at hes hks hes' hks' ⊢
  have HK : Hid (∀ w', Below w.heap.size w w' → SlP w' w'.heap.size 3 (KdE w' w'.heap.size) (.slice A4 ks.length n4) ks) := fun w' hb => (rd_iff.1 (rd_below hb hb.size _ _ _ h0)).2
  have HK' : Hid (∀ w', Below w.heap.size w w' → SlP w' w'.heap.size 3 (KdE w' w'.heap.size) (.slice A6 ks'.length n6) ks') := fun w' hb => (rd_iff.1 (rd_below hb hb.size _ _ _ h0')).2
  have hB0 : Below w.heap.size w ((w.alloc (.cells #[.slice A3 es.length n3, .slice A4 ks.length n4] 27)).alloc (.cells #[.slice A5 es'.length n5, .slice A6 ks'.length n6] 27)) := ((Below.refl _ w).alloc (Nat.le_refl _) _).alloc (by simp) _
  have HB0 := hid hB0
  have HE := hid (hes.imp hB0 hB0.size fun _ _ _ h => h)
  have HE' := hid (hes'.imp hB0 hB0.size fun _ _ _ h => h)
  have HT : Hid (∀ w', TestKids 200 ks ks' w') := fun w' => ⟨enters_of Tryz.func200 (by kernel_rfl) rfl, fun x y xe xk ye yk W hx _ _ hrx hry =>
    tsameClo_any x y xe xk ye yk W hrx hry fun W' hb => ih x.1 x.2 hx y.2 W' xe xk ye yk (rd_below hb hb.size _ _ _ hrx) (rd_below hb hb.size _ _ _ hry)⟩
  clear hes hks hes' hks' h0 h0' hB0 ih
  by_cases he : es = es'
  · have hd : decide (es = es') = true := by simpa using he
    have HD := hid hd
    have HEQ := hid he
    clear he hd
    cases hk : ksEq ks ks'
    · have HKN := hid (ksEq_no.1 hk)
      have HKV := hid hk
      clear hk
      go_enter Tryz.func138, Tryz.ntmps138
      go_wp2_with fail
      refine (eqEnts_any es es' _ _ _ _ HE.out HE'.out).mono ?_
      rw [HD.out]
      rintro e w1 ⟨rfl, q, rfl⟩
      go_wp2_with fail
      refine (eqKids_any 200 ks ks' _ _ _ (HK.out _ (below_drewN HB0.out q)) (HK'.out _ (below_drewN HB0.out q)) (HT.out _)).mono ?_
      rw [HKV.out]
      rintro e w2 ⟨rfl, hb2⟩
      go_wp2_with fail
      go_ret
      exact ⟨ret_bool (by rw [eq_comm, trEq_no]; intro e; cases e; exact HKN.out rfl), (below_drewN HB0.out q).trans (hb2.mono (below_drewN HB0.out q).size)⟩
    · have HKN := hid (ksEq_iff.1 hk)
      have HKV := hid hk
      clear hk
      go_enter Tryz.func138, Tryz.ntmps138
      go_wp2_with fail
      refine (eqEnts_any es es' _ _ _ _ HE.out HE'.out).mono ?_
      rw [HD.out]
      rintro e w1 ⟨rfl, q, rfl⟩
      go_wp2_with fail
      refine (eqKids_any 200 ks ks' _ _ _ (HK.out _ (below_drewN HB0.out q)) (HK'.out _ (below_drewN HB0.out q)) (HT.out _)).mono ?_
      rw [HKV.out]
      rintro e w2 ⟨rfl, hb2⟩
      go_wp2_with fail
      go_ret
      exact ⟨ret_bool (by rw [eq_comm, trEq_iff, HEQ.out, HKN.out]), (below_drewN HB0.out q).trans (hb2.mono (below_drewN HB0.out q).size)⟩
  · have hd : decide (es = es') = false := by simpa using he
    have HD := hid hd
    have HEQ := hid he
    clear he hd
    go_enter Tryz.func138, Tryz.ntmps138
    go_wp2_with fail
    refine (eqEnts_any es es' _ _ _ _ HE.out HE'.out).mono ?_
    rw [HD.out]
    rintro e w1 ⟨rfl, q, rfl⟩
    go_wp2_with fail
    go_ret
    exact ⟨ret_bool (by rw [eq_comm, trEq_no]; intro e; cases e; exact HEQ.out rfl), below_drewN HB0.out q⟩
/-- What tree.Same tells. -/
noncomputable def tSame (s t : Tr) : Bool := s.right 5 && (t.right 5 && trEq s t)
set_option maxHeartbeats 2000000 in
theorem tSame_any (s t : Tr) (w : World) (ve vk ue uk : Value) (h : s.rd w w.heap.size ve vk) (h' : t.rd w w.heap.size ue uk) :
    Calls Tryz.prog 60 #[.agg #[ve, vk], .agg #[ue, uk]] w fun e w' => e = .returned (.bool (tSame s t)) ∧ Below w.heap.size w w' := by
  have HS : Hid (∀ w', Below w.heap.size w w' → s.rd w' w'.heap.size ve vk) := fun w' hb => rd_below hb hb.size _ _ _ h
  have HT : Hid (∀ w', Below w.heap.size w w' → t.rd w' w'.heap.size ue uk) := fun w' hb => rd_below hb hb.size _ _ _ h'
  obtain ⟨A3, n3, A4, n4, rfl, rfl⟩ := rd_shape h
  obtain ⟨A5, n5, A6, n6, rfl, rfl⟩ := rd_shape h'
  have HX : Hid (∀ W, Below (w.heap.size + 2) ((w.alloc (.cells #[.slice A3 s.es.length n3, .slice A4 s.ks.length n4] 27)).alloc (.cells #[.slice A5 t.es.length n5, .slice A6 t.ks.length n6] 27)) W → Below w.heap.size w W ∧ w.heap.size + 2 ≤ W.heap.size ∧ W.cell? ⟨w.heap.size, 0, none⟩ = some (.slice A3 s.es.length n3) ∧ W.cell? ⟨w.heap.size, 1, none⟩ = some (.slice A4 s.ks.length n4) ∧ W.cell? ⟨w.heap.size + 1, 0, none⟩ = some (.slice A5 t.es.length n5) ∧ W.cell? ⟨w.heap.size + 1, 1, none⟩ = some (.slice A6 t.ks.length n6)) := fun W hW => by
    have g0 : W.heap[w.heap.size]? = some (.cells #[.slice A3 s.es.length n3, .slice A4 s.ks.length n4] 27 (0, 0)) := (hW.block _ (by omega)).trans ((heap_old (by simp)).trans (heap_new rfl))
    have g1 : W.heap[w.heap.size + 1]? = some (.cells #[.slice A5 t.es.length n5, .slice A6 t.ks.length n6] 27 (0, 0)) := (hW.block _ (by omega)).trans (heap_new (by simp))
    exact ⟨(((Below.refl _ w).alloc (Nat.le_refl _) _).alloc (by simp) _).trans (hW.mono (by omega)), by have := hW.size; simpa using this, cell_cells (i := 0) g0, cell_cells (i := 1) g0, cell_cells (i := 0) g1, cell_cells (i := 1) g1⟩
  clear h h'
  have h0 := (HX.out _ (Below.refl _ _)).1
  cases hs : s.right 5
  · have HR : Hid (tSame s t = false) := by unfold Hid tSame; rw [hs]; rfl
    have H1 := hid hs
    clear hs
    go_enter Tryz.func60, Tryz.ntmps60
    go_wp2_with fail
    refine (tRight_any s _ _ _ (HS.out _ h0)).mono ?_
    rw [H1.out]
    rintro e w1 ⟨rfl, hb1⟩
    go_wp2_with fail
    go_ret
    exact ⟨ret_bool HR.out.symm, h0.trans (hb1.mono h0.size)⟩
  cases ht : t.right 5
  · have HR : Hid (tSame s t = false) := by unfold Hid tSame; rw [ht]; simp
    have H1 := hid hs
    have H2 := hid ht
    clear hs ht
    go_enter Tryz.func60, Tryz.ntmps60
    go_wp2_with fail
    refine (tRight_any s _ _ _ (HS.out _ h0)).mono ?_
    rw [H1.out]
    rintro e w1 ⟨rfl, hb1⟩
    have hbk1 := hid (hb1.mono (show w.heap.size + 2 ≤ _ by simp))
    clear hb1
    obtain ⟨hB1, hs1, q0, q1, q2, q3⟩ := HX.out _ hbk1.out
    go_wp2_with fail
    refine (tRight_any t _ _ _ (HT.out _ hB1)).mono ?_
    rw [H2.out]
    rintro e w2 ⟨rfl, hb2⟩
    go_wp2_with fail
    go_ret
    exact ⟨ret_bool HR.out.symm, hB1.trans (hb2.mono (by omega))⟩
  · have HR : Hid (tSame s t = trEq s t) := by unfold Hid tSame; rw [hs, ht]; rfl
    have H1 := hid hs
    have H2 := hid ht
    clear hs ht
    go_enter Tryz.func60, Tryz.ntmps60
    go_wp2_with fail
    refine (tRight_any s _ _ _ (HS.out _ h0)).mono ?_
    rw [H1.out]
    rintro e w1 ⟨rfl, hb1⟩
    have hbk1 := hid (hb1.mono (show w.heap.size + 2 ≤ _ by simp))
    clear hb1
    obtain ⟨hB1, hs1, q0, q1, q2, q3⟩ := HX.out _ hbk1.out
    go_wp2_with fail
    refine (tRight_any t _ _ _ (HT.out _ hB1)).mono ?_
    rw [H2.out]
    rintro e w2 ⟨rfl, hb2⟩
    have hbk2 := hid (hbk1.out.trans (hb2.mono hs1))
    clear hb2 q0 q1 q2 q3 hB1
    obtain ⟨hB2, hs2, q0, q1, q2, q3⟩ := HX.out _ hbk2.out
    go_wp2_with fail
    refine (tsame_any s t _ _ _ _ _ (HS.out _ hB2) (HT.out _ hB2)).mono ?_
    rintro e w3 ⟨rfl, hb3⟩
    go_wp2_with fail
    go_ret
    exact ⟨ret_bool HR.out.symm, hB2.trans (hb3.mono (by omega))⟩
end Go.Proofs.YtmphgnjodangcaaGreat

namespace Go.Proofs.YtmphgnjodangcaaGreat
open Go.RowKit Go.Sort
set_option maxRecDepth 100000

def toBy (s : ByteArray) : List UInt8 := s.data.toList
def ofBy (l : List UInt8) : ByteArray := ⟨l.toArray⟩
theorem ofBy_toBy (s : ByteArray) : ofBy (toBy s) = s := rfl
theorem toBy_ofBy (l : List UInt8) : toBy (ofBy l) = l := rfl
theorem map_of_to (ds : List ByteArray) : (ds.map toBy).map ofBy = ds := by
  rw [List.map_map]
  conv => rhs; rw [← List.map_id ds]
  rfl
theorem map_to_of (ds : List (List UInt8)) : (ds.map ofBy).map toBy = ds := by
  rw [List.map_map]
  conv => rhs; rw [← List.map_id ds]
  rfl
/-- Texts, in order. -/
def srtL (ds : List ByteArray) : List ByteArray := ((ds.map toBy).mergeSort fun x y => decide (x ≤ y)).map ofBy
/-- Texts, neighbours that are the same once. -/
def cmpL (ds : List ByteArray) : List ByteArray := (Lib.compact (ds.map toBy)).map ofBy
theorem flat_one {α : Type} (f : α → Value) (l : List α) : (l.map fun x => [f x]).flatten = l.map f := by
  induction l with
  | nil => rfl
  | cons x l ih => simp [ih]
theorem own_strs {w : World} {base : Nat} {e : TypeId} {v : Value} {ds : List ByteArray} (h : OwnP w base e 1 StE v ds) : (v = .slice none 0 0 ∧ ds = []) ∨
    ∃ b cap cur, v = .slice (some ⟨b, 0, none⟩) ds.length cap ∧ base ≤ b ∧ w.heap[b]? = some (.cells cur e (0, 0)) ∧ ds.length ≤ cap ∧ cap ≤ maxLen ∧ cur.size = cap * 1 ∧ cur.toList.take (ds.map toBy).length = (ds.map toBy).map encStr ∧ ∀ x ∈ ds, x.size ≤ Big := by
  obtain ⟨css, h1, h2, h3⟩ := h
  rcases h3 with ⟨rfl, hn⟩ | ⟨b, cap, cur, rfl, hb, hg, hnc, hm, hcs, ht⟩
  · exact .inl ⟨rfl, List.eq_nil_of_length_eq_zero hn⟩
  · refine .inr ⟨b, cap, cur, rfl, hb, hg, hnc, hm, hcs, ?_, fun x hx => ?_⟩
    · have hcss : css = ds.map fun x => [Value.string x] := by
        apply List.ext_getElem?
        intro j
        by_cases hj : j < ds.length
        · obtain ⟨cs, hcs, ⟨hcv, _⟩, _⟩ := h1.2 j ds[j] (List.getElem?_eq_getElem hj)
          rw [hcs, List.getElem?_map, List.getElem?_eq_getElem hj, hcv]; rfl
        · rw [List.getElem?_eq_none (by rw [h1.1]; omega), List.getElem?_eq_none (by simp; omega)]
      rw [Nat.mul_one, hcss, flat_one] at ht
      rw [List.length_map, ht, List.map_map]
      rfl
    · obtain ⟨j, hj⟩ := List.getElem?_of_mem hx
      obtain ⟨cs, _, ⟨_, hr⟩, _⟩ := h1.2 j x hj
      exact hr
theorem own_of {w : World} {base : Nat} {e : TypeId} {v : Value} {ts : List (List UInt8)} (h : w.ownsRow base e 1 v ts.length (ts.map encStr)) (hs : ∀ x ∈ ts, (ofBy x).size ≤ Big) : OwnP w base e 1 StE v (ts.map ofBy) := by
  refine ⟨ts.map fun l => [encStr l], ⟨by simp, fun j x hx => ?_⟩, ?_⟩
  · rw [List.getElem?_map] at hx
    obtain ⟨y, hy, rfl⟩ := Option.map_eq_some_iff.1 hx
    exact ⟨[encStr y], by rw [List.getElem?_map, hy]; rfl, ⟨rfl, hs y (List.mem_of_getElem? hy)⟩, rfl⟩
  · rw [flat_one, List.length_map]; exact h

theorem sortStr_any (ds : List ByteArray) (v : Value) (w : World) (base : Nat) (h : OwnP w base 9 1 StE v ds) (hl : ds.length ≤ 900000) (hbase : base ≤ w.heap.size) :
    Calls Tryz.prog 130 #[v] w fun e w' => e = .returned (.tuple #[]) ∧ OwnP w' base 9 1 StE v (srtL ds) ∧ Below base w w' := by
  rcases own_strs h with ⟨rfl, rfl⟩ | ⟨b, cap, cur, rfl, hb, hg, hnc, hm, hcs, ht, hz⟩
  · refine (Any.slices_Sort_string_none Tryz.sortStr none 0 w).mono ?_
    rintro e w' ⟨rfl, rfl⟩
    exact ⟨rfl, by simpa [srtL] using OwnP.nil, Below.refl _ _⟩
  · have hlt : b < w.heap.size := (Array.getElem?_eq_some_iff.1 hg).1
    have hH : Holds encStr w b 0 (ds.map toBy).toArray := holds_of_block hg ht
    have hcon := Any.slices_Sort_string Tryz.sortStr b 0 cap (ds.map toBy) w hH hlt (by rw [List.length_map]; omega)
    rw [List.length_map] at hcon
    refine Calls.mono hcon ?_
    rintro e w' ⟨rfl, n, os, rfl⟩
    have hp : ((ds.map toBy).mergeSort fun x y => decide (x ≤ y)).Perm (ds.map toBy) := List.mergeSort_perm _ _
    have hrow := ownsRow_sorted (n := n) (os := os) (ss := ds.map toBy) (ts := (ds.map toBy).mergeSort fun x y => decide (x ≤ y)) hp.length_eq hb hg (by rw [List.length_map]; exact hnc) hm hcs
    rw [← hp.length_eq] at hrow
    refine ⟨rfl, ?_, (Below.refl base w).grown (grownBy_sorted _) hbase (fun g hg => by cases hg; exact hb)⟩
    have hlen : ((ds.map toBy).mergeSort fun x y => decide (x ≤ y)).length = ds.length := by rw [hp.length_eq, List.length_map]
    have := own_of hrow (fun x hx => by
      obtain ⟨y, hy, rfl⟩ := List.mem_map.1 (hp.subset hx)
      exact hz y hy)
    rw [hlen] at this
    exact this

theorem compactStr_any (ds : List ByteArray) (v : Value) (w : World) (base : Nat) (h : OwnP w base 9 1 StE v ds) (hl : ds.length ≤ 900000) (hbase : base ≤ w.heap.size) :
    Calls Tryz.prog 131 #[v] w fun e w' => ∃ v', e = .returned v' ∧ OwnP w' base 9 1 StE v' (cmpL ds) ∧ Below base w w' := by
  rcases own_strs h with ⟨rfl, rfl⟩ | ⟨b, cap, cur, rfl, hb, hg, hnc, hm, hcs, ht, hz⟩
  · refine (Any.slices_Compact_string_empty Tryz.compactStr none 0 w).mono ?_
    rintro e w' ⟨rfl, rfl⟩
    exact ⟨_, rfl, by simpa [cmpL, Lib.compact, Lib.compactUpTo] using OwnP.nil, Below.refl _ _⟩
  · have hlt : b < w.heap.size := (Array.getElem?_eq_some_iff.1 hg).1
    have hH : Holds encStr w b 0 (ds.map toBy).toArray := holds_of_block hg ht
    have hcon := Any.slices_Compact_string Tryz.compactStr b 0 cap (ds.map toBy) w hH (by rw [List.length_map]; omega) (by rw [List.length_map]; exact hnc)
    rw [List.length_map] at hcon
    refine Calls.mono hcon ?_
    rintro e w' ⟨rfl, n, rfl⟩
    have hcl := Lib.compact_length_le (ds.map toBy)
    rw [List.length_map] at hcl
    have hm2 : ∀ x ∈ Lib.compact (ds.map toBy), x ∈ ds.map toBy := fun x hx => by
      unfold Lib.compact Lib.compactUpTo at hx
      obtain ⟨j, hj, rfl⟩ := List.mem_map.1 hx
      have hj' : j < (ds.map toBy).length := List.mem_range.1 (List.mem_filter.1 hj).1
      rw [getElem!_pos _ j (by simpa using hj')]
      simpa using List.getElem_mem hj'
    have hcm : cmpL ds = (Lib.compact (ds.map toBy)).map ofBy := rfl
    rw [hcm]
    generalize Lib.compact (ds.map toBy) = ts at hcl hm2 ⊢
    refine ⟨_, rfl, ?_, ?_⟩
    · have hF : (ts ++ List.replicate (ds.length - ts.length) []).length = ds.length := by simp; omega
      have htk := take_putCells cur (ts ++ List.replicate (ds.length - ts.length) []) (by rw [hF, hcs]; omega)
      have hheap : (putRow encStr (Sort.ahead w n) b 0 (ts ++ List.replicate (ds.length - ts.length) []).toArray).heap[b]? = some (.cells (putCells encStr 0 (ts ++ List.replicate (ds.length - ts.length) []).toArray cur) 9 (0, 0)) := by
        simp [putRow, mapBlock, Sort.ahead, Array.getElem?_modify, hg, onCells]
      refine own_of (v := .slice (some ⟨b, 0, none⟩) ts.length cap) ⟨by simp, .inr ⟨b, cap, _, rfl, hb, hheap, by omega, hm, by simp [putCells, hcs], ?_⟩⟩ (fun x hx => by
        obtain ⟨y, hy, rfl⟩ := List.mem_map.1 (hm2 x hx)
        exact hz y hy)
      have := congrArg (List.take ts.length) htk
      rw [List.take_take, hF, Nat.min_eq_left hcl, ← List.map_take, List.take_left] at this
      rw [Nat.mul_one]; exact this
    · refine (Below.refl base w).grown (w' := putRow encStr (Sort.ahead w n) b 0 (ts ++ List.replicate (ds.length - ts.length) []).toArray) (row := some b) ⟨rfl, rfl, rfl, by simp, fun k hk hne => ?_⟩ hbase (fun g hg => by cases hg; exact hb)
      have : b ≠ k := fun e => hne (by rw [e])
      simp [putRow, mapBlock, Sort.ahead, Array.getElem?_modify, this]
end Go.Proofs.YtmphgnjodangcaaGreat

namespace Go.Proofs.YtmphgnjodangcaaGreat
open Go.RowKit
set_option maxRecDepth 100000

/-- The texts of a tree's own entries. -/
def txtL (t : Tr) : List ByteArray := t.es.map (·.s)
/-- What register.Values tells. -/
def valsOf (t : Tr) : List ByteArray := cmpL (srtL (if t.right 5 then txtL t else []))
theorem srtL_len (l : List ByteArray) : (srtL l).length = l.length := by unfold srtL; rw [List.length_map, (List.mergeSort_perm _ _).length_eq, List.length_map]
set_option maxHeartbeats 4000000 in
theorem rvals_any (t : Tr) (w : World) (ve vk : Value) (h : t.rd w w.heap.size ve vk) (hN : t.es.length ≤ 900000) :
    Calls Tryz.prog 53 #[.agg #[ve, vk]] w (RetO w 9 1 (fun _ => StE) (valsOf t)) := by
  have HC : Hid (∀ w', Below w.heap.size w w' → t.rd w' w'.heap.size ve vk) := fun w' hb => rd_below hb hb.size _ _ _ h
  have HK0 : Hid (valsOf t = cmpL (srtL (if t.right 5 then t.es.map (·.s) else []))) := rfl
  obtain ⟨es, ks⟩ := t
  rw [rd_iff] at h
  obtain ⟨⟨A, m, rfl, c1, c2, c3⟩, ⟨A0, n0, rfl, d1, d2, d3⟩⟩ := h
  unfold Big at c2 d2
  simp only [Tr.es] at hN HK0 ⊢
  have hb0 : Below w.heap.size w (w.alloc (.cells #[.slice A es.length m, .slice A0 ks.length n0] 27)) := (Below.refl _ w).alloc (Nat.le_refl _) _
  go_enter Tryz.func53, Tryz.ntmps53
  go_wp2_with fail
  refine (tRight_any _ _ _ _ (HC.out _ hb0)).mono ?_
  rintro e w1 ⟨rfl, hb1⟩
  have hs1 := hb1.size
  simp only [World.size_alloc] at hs1
  have hB1 : Below w.heap.size w w1 := hb0.trans (hb1.mono (by simp))
  have b0 : w1.cell? ⟨w.heap.size, 0, none⟩ = some (.slice A es.length m) := by rw [hb1.cell (p := ⟨w.heap.size, 0, none⟩) (by simp)]; simp
  cases hr : (Tr.mk es ks).right 5
  · have HK1 : Hid (valsOf (.mk es ks) = cmpL (srtL [])) := by unfold Hid; rw [HK0.out, hr]; rfl
    obtain ⟨L, hL⟩ : ∃ L : List ByteArray, L = [] := ⟨_, rfl⟩
    have HK : Hid (valsOf (.mk es ks) = cmpL (srtL L)) := by unfold Hid; rw [hL]; exact HK1.out
    have hLl : L.length ≤ 900000 := by rw [hL]; simp
    obtain ⟨wr, hwr⟩ : ∃ wr, wr = w1 := ⟨_, rfl⟩
    subst hwr
    have hown : OwnP wr (w.heap.size + 1) 9 1 StE (.slice none 0 0) L := by rw [hL]; exact OwnP.nil
    have hB0 := hB1
    clear hr hL
    go_wp2_with fail
    refine (sortStr_any L _ wr (w.heap.size + 1) hown hLl (by omega)).mono ?_
    rintro e w2 ⟨rfl, ho2, hb2⟩
    have hs2 := hb2.size
    have hll := srtL_len L
    go_wp2_with fail
    refine (compactStr_any (srtL L) _ w2 (w.heap.size + 1) ho2 (by omega) (by omega)).mono ?_
    rintro e w3 ⟨v3, rfl, ho3, hb3⟩
    go_wp2_with fail
    go_ret
    exact ⟨_, rfl, by rw [HK.out]; exact ho3.mono (by omega), hB0.trans ((hb2.trans hb3).mono (by omega))⟩
  have HK1 : Hid (valsOf (.mk es ks) = cmpL (srtL (es.map (·.s)))) := by unfold Hid; rw [HK0.out, hr]; rfl
  clear hr d3 d2 d1
  go_wp2_with fail
  go_loopw [3, 11] (fun v i wr => ∃ k : Nat, k ≤ es.length ∧ i = .int .i64 k ∧ OwnP wr (w.heap.size + 1) 9 1 StE v ((es.take k).map (·.s)) ∧ Below (w.heap.size + 1) w1 wr) (fun _ i _ => es.length - (intOf i).toNat)
  case atStart => exact ⟨0, Nat.zero_le _, rfl, OwnP.nil, Below.refl _ _⟩
  case round =>
    obtain ⟨k, hk, rfl, hown, hb⟩ := hrel
    have hsz := hb.size
    have hB0 : Below w.heap.size w wr := hB1.trans (hb.mono (by omega))
    by_cases hlt : k < es.length
    · obtain ⟨x, hx⟩ : ∃ x, es[k]? = some x := ⟨_, List.getElem?_eq_getElem hlt⟩
      obtain ⟨b, off, rfl, hbB, hc⟩ := c3 (by rintro rfl; simp at hlt)
      obtain ⟨cs, ⟨rfl, hok⟩, _, hu⟩ := hc k _ hx
      have e0 : wr.cell? ⟨b, off + k * 4, none⟩ = some (.int .i64 x.dc) := (hB0.cell hbB).trans (hu 0 _ rfl)
      have e1 : wr.cell? ⟨b, off + k * 4 + 1, none⟩ = some (.int .i64 x.n) := (hB0.cell hbB).trans (hu 1 _ rfl)
      have e2 : wr.cell? ⟨b, off + k * 4 + 2, none⟩ = some (.string x.s) := (hB0.cell hbB).trans (hu 2 _ rfl)
      have e3 : wr.cell? ⟨b, off + k * 4 + 3, none⟩ = some (.int .i64 x.v) := (hB0.cell hbB).trans (hu 3 _ rfl)
      have HX : Hid ((es.take (k + 1)).map (·.s) = (es.take k).map (·.s) ++ [x.s]) := by unfold Hid; rw [List.take_add_one, hx]; simp
      have HL : Hid (((es.take k).map (·.s)).length + [x.s].length ≤ Few) := by unfold Hid Few; simp; omega
      have HKY : Hid (StE x.s [.string x.s]) := ⟨rfl, hok.s⟩
      clear hu hc c3 hx hb0 hb1 b0 hok
      go_wp2_with (at_builtin; go_loud ((with_reducible refine wpList_few rfl (.tmp 15) (.tmp 18) _ rfl eiStr (by decide) (by decide) (fun _ _ h => StE.one h) rfl ((hown.alloc _).alloc _) rfl (SlP.oneN (x := x.s) HKY.out rfl _ rfl) HL.out (by simp only [World.size_alloc]; omega) ?_); intro v1 w2 hown1 hb2 _; have hb3 := (((Below.refl (w.heap.size + 1) wr).alloc (by omega) _).alloc (by simp only [World.size_alloc]; omega) _).trans hb2))
      go_roundw
      case rel => exact ⟨k + 1, by omega, by go_num, by rw [HX.out]; exact hown1, hb.trans hb3⟩
      case measure => simp [intOf]; omega
    · obtain rfl : k = es.length := by omega
      rw [List.take_of_length_le (Nat.le_refl _)] at hown
      have hLl : (es.map (·.s)).length ≤ 900000 := by simp; omega
      have HK := HK1
      clear HK1 HK0 c3
      generalize es.map (·.s) = L at *
      go_wp2_with fail
      refine (sortStr_any L _ wr (w.heap.size + 1) hown hLl (by omega)).mono ?_
      rintro e w2 ⟨rfl, ho2, hb2⟩
      have hs2 := hb2.size
      have hll := srtL_len L
      go_wp2_with fail
      refine (compactStr_any (srtL L) _ w2 (w.heap.size + 1) ho2 (by omega) (by omega)).mono ?_
      rintro e w3 ⟨v3, rfl, ho3, hb3⟩
      go_wp2_with fail
      go_ret
      exact ⟨_, rfl, by rw [HK.out]; exact ho3.mono (by omega), hB0.trans ((hb2.trans hb3).mono (by omega))⟩
end Go.Proofs.YtmphgnjodangcaaGreat

namespace Go.Proofs.YtmphgnjodangcaaGreat
open Go.RowKit
set_option maxRecDepth 100000

def okT : Option ByteArray → ByteArray → Bool
  | none, _ => true
  | some q, x => ltS q x
/-- Is a text the next one? -/
def pickC (last b : Option ByteArray) (x : ByteArray) : Bool := okT last x && (match b with | none => true | some c => ltS x c)
def pickS (last b : Option ByteArray) (x : ByteArray) : Option ByteArray := if pickC last b x then some x else b
def sdGo (l : List ByteArray) : Nat → List ByteArray → List ByteArray
  | 0, out => out
  | n + 1, out => match l.foldl (pickS out.getLast?) none with | none => out | some b => sdGo l n (out ++ [b])
/-- What tributaryref10.Sorted tells. -/
def sdL (l : List ByteArray) : List ByteArray := sdGo l (l.length + 1) []
def ahT (l : List ByteArray) (last : Option ByteArray) : Nat := (l.filter fun x => okT last x).length
theorem pick_take {l : List ByteArray} {k : Nat} {x : ByteArray} (h : l[k]? = some x) (last b : Option ByteArray) : (l.take (k + 1)).foldl (pickS last) b = pickS last ((l.take k).foldl (pickS last) b) x := by
  rw [List.take_add_one, h, List.foldl_append]; rfl
theorem pick_mem (l : List ByteArray) (last : Option ByteArray) : ∀ (b : Option ByteArray), (∀ e, b = some e → okT last e = true) → ∀ e, l.foldl (pickS last) b = some e → (b = some e ∨ e ∈ l) ∧ okT last e = true := by
  induction l with
  | nil => intro b hb e he; exact ⟨.inl he, hb e he⟩
  | cons x l ih =>
    intro b hb e he
    rw [List.foldl_cons] at he
    by_cases hc : pickC last b x = true
    · have e1 : pickS last b x = some x := by simp [pickS, hc]
      rw [e1] at he
      simp only [pickC, Bool.and_eq_true] at hc
      obtain ⟨h1, h2⟩ := ih (some x) (fun e he => by cases he; exact hc.1) e he
      refine ⟨.inr ?_, h2⟩
      rcases h1 with h1 | h1
      · cases h1; simp
      · exact List.mem_cons_of_mem _ h1
    · have e1 : pickS last b x = b := by simp [pickS, hc]
      rw [e1] at he
      obtain ⟨h1, h2⟩ := ih b hb e he
      refine ⟨?_, h2⟩
      rcases h1 with h1 | h1
      · exact .inl h1
      · exact .inr (List.mem_cons_of_mem _ h1)
theorem pick_min (l : List ByteArray) (last : Option ByteArray) : ∀ (b : Option ByteArray), (∀ c, b = some c → ∃ e, l.foldl (pickS last) b = some e ∧ ltS c e = false) ∧ ∀ x ∈ l, okT last x = true → ∃ e, l.foldl (pickS last) b = some e ∧ ltS x e = false := by
  induction l with
  | nil => intro b; exact ⟨fun c h => ⟨c, h, ltS_irrefl _⟩, fun _ h => by cases h⟩
  | cons y l ih =>
    intro b
    rw [List.foldl_cons]
    obtain ⟨i1, i2⟩ := ih (pickS last b y)
    refine ⟨fun c hc => ?_, fun x hx h2 => ?_⟩
    · subst hc
      by_cases hs : pickC last (some c) y = true
      · obtain ⟨e, he, hle⟩ := i1 y (by simp [pickS, hs])
        refine ⟨e, he, ?_⟩
        simp only [pickC, Bool.and_eq_true] at hs
        cases hce : ltS c e
        · rfl
        · rw [ltS_trans hs.2 hce] at hle; cases hle
      · exact i1 c (by simp [pickS, hs])
    · rcases List.mem_cons.1 hx with rfl | hx
      · cases b with
        | none =>
          have hs : pickC last none x = true := by simp [pickC, h2]
          exact i1 x (by simp [pickS, hs])
        | some c =>
          by_cases hs : pickC last (some c) x = true
          · exact i1 x (by simp [pickS, hs])
          · obtain ⟨e, he, hle⟩ := i1 c (by simp [pickS, hs])
            refine ⟨e, he, ?_⟩
            have hxc : ltS x c = false := by
              cases hxc : ltS x c
              · rfl
              · exact absurd (by simp [pickC, h2, hxc]) hs
            cases hxe : ltS x e
            · rfl
            · cases hec : ltS e c
              · have := ltS_total hec hle; rw [this] at hxe; rw [hxe] at hxc; cases hxc
              · rw [ltS_trans hxe hec] at hxc; cases hxc
      · exact i2 x hx h2
theorem okT_trans {last : Option ByteArray} {a b : ByteArray} (h : okT last a = true) (k : ltS a b = true) : okT last b = true := by
  cases last with
  | none => rfl
  | some q => exact ltS_trans h k
theorem ahT_lt {l : List ByteArray} {last : Option ByteArray} {e : ByteArray} (h : l.foldl (pickS last) none = some e) : ahT l (some e) < ahT l last := by
  obtain ⟨h1, h2⟩ := pick_mem l last none (fun _ h => by cases h) e h
  rcases h1 with h1 | h1
  · cases h1
  · exact filter_lt h1 (fun y hy => okT_trans h2 hy) h2 (ltS_irrefl _)
theorem ahT_le (l : List ByteArray) (last : Option ByteArray) : ahT l last ≤ l.length := List.length_filter_le _ _
theorem sdGo_spec (l : List ByteArray) : ∀ (n : Nat) (out : List ByteArray), ahT l out.getLast? < n → (out.Pairwise fun a b => ltS a b = true) → (∀ e ∈ out, e ∈ l) → (∀ x ∈ l, okT out.getLast? x = false → x ∈ out) →
    ((sdGo l n out).Pairwise fun a b => ltS a b = true) ∧ (∀ e ∈ sdGo l n out, e ∈ l) ∧ ∀ x ∈ l, x ∈ sdGo l n out
  | 0, _, h, _, _, _ => absurd h (Nat.not_lt_zero _)
  | n + 1, out, h, h1, h2, h3 => by
    rw [sdGo]
    cases hb : l.foldl (pickS out.getLast?) none with
    | none =>
      refine ⟨h1, h2, fun x hx => ?_⟩
      cases ho : okT out.getLast? x
      · exact h3 x hx ho
      · obtain ⟨e, he, _⟩ := (pick_min l out.getLast? none).2 x hx ho
        rw [hb] at he; cases he
    | some e =>
      obtain ⟨hm, hok⟩ := pick_mem l out.getLast? none (fun _ h => by cases h) e hb
      have hel : e ∈ l := by
        rcases hm with hm | hm
        · cases hm
        · exact hm
      have hle : (out ++ [e]).getLast? = some e := by simp
      refine sdGo_spec l n (out ++ [e]) ?_ ?_ ?_ ?_
      · rw [hle]; have := ahT_lt hb; omega
      · rw [List.pairwise_append]
        refine ⟨h1, List.pairwise_singleton _ _, fun a ha b hb' => ?_⟩
        rw [List.mem_singleton] at hb'; subst hb'
        rcases List.eq_nil_or_concat out with rfl | ⟨out', z, rfl⟩
        · cases ha
        · rw [List.concat_eq_append] at *
          rw [List.getLast?_append] at hok
          have hz : ltS z b = true := hok
          rcases List.mem_append.1 ha with ha | ha
          · exact ltS_trans ((List.pairwise_append.1 h1).2.2 a ha z (by simp)) hz
          · rw [List.mem_singleton] at ha; subst ha; exact hz
      · intro a ha
        rcases List.mem_append.1 ha with ha | ha
        · exact h2 a ha
        · rw [List.mem_singleton] at ha; subst ha; exact hel
      · intro x hx ho
        rw [hle] at ho
        have ho : ltS e x = false := ho
        cases ho' : okT out.getLast? x
        · exact List.mem_append_left _ (h3 x hx ho')
        · obtain ⟨e', he', hmn⟩ := (pick_min l out.getLast? none).2 x hx ho'
          rw [hb] at he'; cases he'
          rw [ltS_total ho hmn]; simp
theorem sdL_spec (l : List ByteArray) : ((sdL l).Pairwise fun a b => ltS a b = true) ∧ ∀ x, x ∈ sdL l ↔ x ∈ l := by
  obtain ⟨h1, h2, h3⟩ := sdGo_spec l (l.length + 1) [] (by have := ahT_le l ([] : List ByteArray).getLast?; omega) .nil (fun _ h => by cases h) (fun x _ h => by simp [okT] at h)
  exact ⟨h1, fun x => ⟨h2 x, h3 x⟩⟩

theorem ltS_to (a b : ByteArray) : ltS a b = decide (toBy a < toBy b) := by
  unfold ltS toBy
  rw [bytesLess_eq, ByteArray.toList_eq, ByteArray.toList_eq]
theorem compact_mem {zs : List (List UInt8)} (x : List UInt8) : x ∈ Lib.compact zs ↔ x ∈ zs := by
  unfold Lib.compact Lib.compactUpTo
  rw [List.mem_map]
  constructor
  · rintro ⟨j, hj, rfl⟩
    have hj' : j < zs.length := List.mem_range.1 (List.mem_filter.1 hj).1
    rw [getElem!_pos _ j (by simpa using hj')]
    simp
  · intro hx
    obtain ⟨i, hi, rfl⟩ := List.getElem_of_mem hx
    have key : ∀ i (hi : i < zs.length), ∃ j, j ∈ (List.range zs.length).filter (Lib.keeps zs.toArray) ∧ zs.toArray[j]! = zs[i] := by
      intro i
      induction i using Nat.strongRecOn with
      | ind i ih =>
        intro hi
        have hg : zs.toArray[i]! = zs[i] := by rw [getElem!_pos _ i (by simpa using hi)]; simp
        by_cases hk : Lib.keeps zs.toArray i = true
        · exact ⟨i, List.mem_filter.2 ⟨List.mem_range.2 hi, hk⟩, hg⟩
        · unfold Lib.keeps at hk
          simp only [decide_eq_true_eq, not_or, ne_eq, Decidable.not_not] at hk
          obtain ⟨j, hj, he⟩ := ih (i - 1) (by omega) (by omega)
          refine ⟨j, hj, ?_⟩
          rw [he, ← hg, hk.2, getElem!_pos _ (i - 1) (by simp; omega)]; simp
    obtain ⟨j, hj, he⟩ := key i hi
    exact ⟨j, hj, he⟩
theorem compact_sorted {zs : List (List UInt8)} (h : zs.Pairwise fun a b => a ≤ b) : (Lib.compact zs).Pairwise fun a b => a < b := by
  unfold Lib.compact Lib.compactUpTo
  rw [List.pairwise_map, List.pairwise_filter]
  have hr := List.pairwise_lt_range (n := zs.length)
  refine hr.imp_of_mem fun {i j} hi hj hij _ hk => ?_
  have hi' := List.mem_range.1 hi
  have hj' := List.mem_range.1 hj
  rw [List.pairwise_iff_getElem] at h
  unfold Lib.keeps at hk
  simp only [decide_eq_true_eq, ne_eq] at hk
  have hne : zs.toArray[j]! ≠ zs.toArray[j - 1]! := by
    rcases hk with hk | hk
    · omega
    · exact hk
  rw [getElem!_pos _ j (by simpa using hj'), getElem!_pos _ (j - 1) (by simp; omega)] at hne
  rw [getElem!_pos _ i (by simpa using hi'), getElem!_pos _ j (by simpa using hj')]
  simp only [List.getElem_toArray] at hne ⊢
  have h1 : zs[j - 1]'(by omega) ≤ zs[j] := h (j - 1) j (by omega) hj' (by omega)
  have h2 : zs[i] ≤ zs[j - 1]'(by omega) := by
    by_cases he : i = j - 1
    · subst he; exact List.le_refl _
    · exact h i (j - 1) hi' (by omega) (by omega)
  have h3 : zs[j - 1]'(by omega) < zs[j] := by
    rcases Decidable.em (zs[j - 1]'(by omega) < zs[j]) with h4 | h4
    · exact h4
    · exact absurd (List.le_antisymm (List.not_lt.1 h4) h1) hne
  rcases Decidable.em (zs[i] < zs[j]) with h4 | h4
  · exact h4
  · exact absurd h3 (List.not_lt.2 (List.le_trans (List.not_lt.1 h4) h2))
/-- The library's way and the reference's. -/
theorem sd_eq (l : List ByteArray) : cmpL (srtL l) = sdL l := by
  obtain ⟨h1, h2⟩ := sdL_spec l
  have hp : ((l.map toBy).mergeSort fun x y => decide (x ≤ y)).Perm (l.map toBy) := List.mergeSort_perm _ _
  have hs : ((l.map toBy).mergeSort fun x y => decide (x ≤ y)).Pairwise fun a b => a ≤ b := by
    have := List.pairwise_mergeSort (le := fun x y : List UInt8 => decide (x ≤ y)) (fun a b c h k => by simp only [decide_eq_true_eq] at *; exact List.le_trans h k) (fun a b => by
      simp only [Bool.or_eq_true, decide_eq_true_eq]; exact List.le_total a b) (l.map toBy)
    exact this.imp fun h => by simpa using h
  have hc : cmpL (srtL l) = (Lib.compact ((l.map toBy).mergeSort fun x y => decide (x ≤ y))).map ofBy := by
    unfold cmpL srtL; rw [map_to_of]
  rw [hc]
  refine sorted_ext (r := ltS) ltS_irrefl (fun _ _ _ => ltS_trans) ?_ h1 fun x => ?_
  · rw [List.pairwise_map]
    exact (compact_sorted hs).imp fun h => by rw [ltS_to, toBy_ofBy, toBy_ofBy]; simpa using h
  · rw [h2, List.mem_map]
    constructor
    · rintro ⟨y, hy, rfl⟩
      obtain ⟨z, hz, rfl⟩ := List.mem_map.1 (hp.subset ((compact_mem y).1 hy))
      exact hz
    · intro hx
      exact ⟨toBy x, (compact_mem _).2 (hp.symm.subset (List.mem_map.2 ⟨x, hx, rfl⟩)), rfl⟩
end Go.Proofs.YtmphgnjodangcaaGreat

namespace Go.Proofs
open Go.Shelf
def Tryz.sortRun_ren : Go.Shelf.Ren := ⟨fun | 6 => 225 | 15 => 193 | 14 => 254 | 28 => 243 | 29 => 244 | 20 => 271 | 21 => 272 | 22 => 273 | 23 => 274 | 24 => 275 | 25 => 276 | 26 => 277 | 27 => 278 | 46 => 283 | 47 => 265 | 48 => 266 | 49 => 284 | 50 => 285 | 57 => 287 | n => n, fun | 22 => 203 | 24 => 233 | 25 => 236 | 3 => 3 | 39 => 211 | 0 => 0 | 53 => 252 | 55 => 254 | 4 => 4 | 46 => 244 | 45 => 243 | 50 => 249 | 5 => 5 | 9 => 9 | 66 => 273 | 70 => 277 | 76 => 289 | 77 => 290 | n => n, fun | n => n⟩
theorem Tryz.sortRun : Go.Proofs.SlLaysF0.n6 Tryz.prog Tryz.sortRun_ren := {
  mixed := by kernel_rfl
  f6 := ⟨Tryz.f225.name, by decide, Tryz.func225.trans (congrArg some (by kernel_rfl))⟩
  f14 := ⟨Tryz.f254.name, by decide, Tryz.func254.trans (congrArg some (by kernel_rfl))⟩
  f15 := Tryz.func193.trans (congrArg some (by kernel_rfl))
  f20 := ⟨Tryz.f271.name, by decide, Tryz.func271.trans (congrArg some (by kernel_rfl))⟩
  f21 := ⟨Tryz.f272.name, by decide, Tryz.func272.trans (congrArg some (by kernel_rfl))⟩
  f22 := ⟨Tryz.f273.name, by decide, Tryz.func273.trans (congrArg some (by kernel_rfl))⟩
  f23 := ⟨Tryz.f274.name, by decide, Tryz.func274.trans (congrArg some (by kernel_rfl))⟩
  f24 := ⟨Tryz.f275.name, by decide, Tryz.func275.trans (congrArg some (by kernel_rfl))⟩
  f25 := ⟨Tryz.f276.name, by decide, Tryz.func276.trans (congrArg some (by kernel_rfl))⟩
  f26 := ⟨Tryz.f277.name, by decide, Tryz.func277.trans (congrArg some (by kernel_rfl))⟩
  f27 := ⟨Tryz.f278.name, by decide, Tryz.func278.trans (congrArg some (by kernel_rfl))⟩
  f28 := Tryz.func243.trans (congrArg some (by kernel_rfl))
  f29 := Tryz.func244.trans (congrArg some (by kernel_rfl))
  f46 := ⟨Tryz.f283.name, by decide, Tryz.func283.trans (congrArg some (by kernel_rfl))⟩
  f47 := Tryz.func265.trans (congrArg some (by kernel_rfl))
  f48 := Tryz.func266.trans (congrArg some (by kernel_rfl))
  f49 := ⟨Tryz.f284.name, by decide, Tryz.func284.trans (congrArg some (by kernel_rfl))⟩
  f50 := ⟨Tryz.f285.name, by decide, Tryz.func285.trans (congrArg some (by kernel_rfl))⟩
  f57 := ⟨Tryz.f287.name, by decide, Tryz.func287.trans (congrArg some (by kernel_rfl))⟩
  t0 := Tryz.underlying0
  a0 := Tryz.isAgg0
  z0 := Tryz.sizeOf0
  v0 := Tryz.zeroValue0
  t3 := Tryz.underlying3
  a3 := Tryz.isAgg3
  z3 := Tryz.sizeOf3
  v3 := Tryz.zeroValue3
  t4 := Tryz.underlying4
  a4 := Tryz.isAgg4
  z4 := Tryz.sizeOf4
  v4 := Tryz.zeroValue4
  t5 := Tryz.underlying5
  a5 := Tryz.isAgg5
  z5 := Tryz.sizeOf5
  v5 := Tryz.zeroValue5
  t9 := Tryz.underlying9
  a9 := Tryz.isAgg9
  z9 := Tryz.sizeOf9
  v9 := Tryz.zeroValue9
  t22 := Tryz.underlying203
  a22 := Tryz.isAgg203
  z22 := Tryz.sizeOf203
  v22 := Tryz.zeroValue203
  t25 := Tryz.underlying236
  a25 := Tryz.isAgg236
  z25 := Tryz.sizeOf236
  v25 := Tryz.zeroValue236
  t39 := Tryz.underlying211
  a39 := Tryz.isAgg211
  z39 := Tryz.sizeOf211
  v39 := Tryz.zeroValue211
  t45 := Tryz.underlying243
  a45 := Tryz.isAgg243
  z45 := Tryz.sizeOf243
  v45 := Tryz.zeroValue243
  t46 := Tryz.underlying244
  a46 := Tryz.isAgg244
  z46 := Tryz.sizeOf244
  v46 := Tryz.zeroValue244
  t50 := Tryz.underlying249
  a50 := Tryz.isAgg249
  z50 := Tryz.sizeOf249
  v50 := Tryz.zeroValue249
  t53 := Tryz.underlying252
  a53 := Tryz.isAgg252
  z53 := Tryz.sizeOf252
  v53 := Tryz.zeroValue252
  t55 := Tryz.underlying254
  a55 := Tryz.isAgg254
  z55 := Tryz.sizeOf254
  v55 := Tryz.zeroValue254
  t66 := Tryz.underlying273
  a66 := Tryz.isAgg273
  z66 := Tryz.sizeOf273
  v66 := Tryz.zeroValue273
  t70 := Tryz.underlying277
  a70 := Tryz.isAgg277
  z70 := Tryz.sizeOf277
  v70 := Tryz.zeroValue277
  t76 := Tryz.underlying289
  a76 := Tryz.isAgg289
  z76 := Tryz.sizeOf289
  v76 := Tryz.zeroValue289
  t77 := Tryz.underlying290
  a77 := Tryz.isAgg290
  z77 := Tryz.sizeOf290
  v77 := Tryz.zeroValue290 }
end Go.Proofs

namespace Go.Proofs.YtmphgnjodangcaaGreat
open Go.RowKit Go.Sort
set_option maxRecDepth 100000

theorem heap_rowK {w : World} {g n : Nat} {os : Array Obj} {cur : Array Value} {e : TypeId} {fr : Nat × Nat} (F : Array Value) (hb : w.heap[g]? = some (.cells cur e fr)) :
    (grow (putRow id (Sort.ahead w n) g 0 F) os).heap[g]? = some (.cells (putCells id 0 F cur) e fr) := by
  have hg : g < w.heap.size := (Array.getElem?_eq_some_iff.1 hb).1
  rw [heap_grow_old _ _ (by simpa using hg)]
  simp [putRow, mapBlock, Sort.ahead, Array.getElem?_modify, hb, onCells]
theorem grownBy_rowK {w : World} {g n : Nat} {os : Array Obj} (F : Array Value) : w.grownBy (grow (putRow id (Sort.ahead w n) g 0 F) os) (some g) := by
  refine ⟨rfl, rfl, rfl, by simp, fun k hk hne => ?_⟩
  rw [heap_grow_old _ _ (by simpa using hk)]
  have : g ≠ k := fun e => hne (by rw [e])
  simp [putRow, mapBlock, Sort.ahead, Array.getElem?_modify, this]

def encR {α : Type} (en : α → Int × Int) (x : α) : List Value := [.int .i64 (en x).1, .int .i64 (en x).2]
theorem flatten_two {α : Type} [Inhabited α] (en : α → Int × Int) (l : List α) (j : Nat) (hj : j < l.length * 2) : (l.map (encR en)).flatten[j]? = some ((encR en l[j / 2]!)[j % 2]!) := by
  have hm : j % 2 < 2 := Nat.mod_lt _ (by omega)
  have hd : j = j / 2 * 2 + j % 2 := by omega
  have hf := flat_at (sz := 2) (l.map (encR en)) (fun cs h => by obtain ⟨x, _, rfl⟩ := List.mem_map.1 h; rfl) (j / 2) (j % 2) hm
  rw [← hd] at hf
  have hlt : j / 2 < l.length := by omega
  rw [hf, List.getElem?_map, List.getElem?_eq_getElem hlt]
  simp only [Option.map_some, Option.bind_some]
  rw [getElem!_pos l (j / 2) hlt]
  rcases (show j % 2 = 0 ∨ j % 2 = 1 by omega) with e | e <;> rw [e] <;> rfl

theorem sortRun_any {α : Type} [Inhabited α] (en : α → Int × Int) (cf : α → α → Int) (hO : SWO (ltOf cf)) (g : Nat) (eg : ∀ args w, (callFunc g args).run Tryz.prog w = .ok (.enter g args) w)
    (hc : ∀ (x y : α) (W : World), Calls Tryz.prog g #[.agg #[.int .i64 (en x).1, .int .i64 (en x).2], .agg #[.int .i64 (en y).1, .int .i64 (en y).2]] W fun e w' => e = .returned (.int .i64 (cf x y)) ∧ ∃ q os', w' = grow (W.drewN q) os')
    (ds : List α) (v : Value) (w : World) (base : Nat) (h : OwnP w base 233 2 RuE v (ds.map en)) (hl : ds.length ≤ 900000) (hbase : base ≤ w.heap.size) :
    Calls Tryz.prog 225 #[v, .func (.func g) #[] #[]] w fun e w' => e = .returned (.tuple #[]) ∧
      ∃ ts : List α, ts.Perm ds ∧ ts.Pairwise (fun a b => 0 ≤ cf b a) ∧ OwnP w' base 233 2 RuE v (ts.map en) ∧ Below base w w' := by
  obtain ⟨css, h1, h2, h3⟩ := h
  rcases h3 with ⟨rfl, hn⟩ | ⟨b, cap, cur, rfl, hb, hg, hnc, hm, hcs, ht⟩
  · obtain rfl : ds = [] := by simpa using hn
    refine (AnyF.slices_SortFunc_none Tryz.sortRun none 0 (.func (.func g) #[] #[]) w).mono ?_
    rintro e w' ⟨rfl, rfl⟩
    exact ⟨rfl, [], List.Perm.refl _, List.Pairwise.nil, OwnP.nil, Below.refl _ _⟩
  · have hlt : b < w.heap.size := (Array.getElem?_eq_some_iff.1 hg).1
    have hlen : (ds.map en).length = ds.length := List.length_map ..
    rw [hlen] at h2 hnc ht ⊢
    have hcss : css = ds.map (encR en) := by
      apply List.ext_getElem?
      intro j
      by_cases hj : j < ds.length
      · obtain ⟨cs, hcs, ⟨hcv, _⟩, _⟩ := h1.2 j (en ds[j]) (by rw [List.getElem?_map, List.getElem?_eq_getElem hj]; rfl)
        rw [hcs, List.getElem?_map, List.getElem?_eq_getElem hj, hcv]; rfl
      · rw [List.getElem?_eq_none (by rw [h1.1, hlen]; omega), List.getElem?_eq_none (by simp; omega)]
    have hok : ∀ x ∈ ds, I64 (en x).1 ∧ I64 (en x).2 := fun x hx => by
      obtain ⟨j, hj⟩ := List.getElem?_of_mem hx
      obtain ⟨cs, _, ⟨_, hr⟩, _⟩ := h1.2 j (en x) (by rw [List.getElem?_map, hj]; rfl)
      exact hr
    have hH : HoldsK (encR en) 2 w b 0 ds.toArray := by
      intro j hj
      have hj : j < ds.length * 2 := by simpa using hj
      refine ⟨?_, by simp [World.frozen?, hg]⟩
      rw [get_flatK _ _ _ _ (by simpa using hj), Nat.zero_add, show (w.cell? ⟨b, j, none⟩) = cur[j]? from by simp [World.cell?, hg]]
      have hf := flatten_two en ds j hj
      rw [← hcss, ← ht, List.getElem?_take_of_lt hj, Array.getElem?_toList] at hf
      rw [hf]; simp
    have hcon := AnyQ.slices_SortFunc Tryz.sortRun 2 Tryz.isAgg233 Tryz.sizeOf233 (encR en) (fun _ => rfl) (fun x u hu => by simp [encR] at hu; rcases hu with rfl | rfl <;> rfl) cf hO g #[] b 0 cap ds.toArray w eg
      (fun m os dk _ x y => hc x y _) hH hlt (by simp; omega)
    have hcon' : Calls Tryz.prog 225 #[.slice (some ⟨b, 0, none⟩) ds.length cap, .func (.func g) #[] #[]] w _ := hcon
    refine hcon'.mono ?_
    rintro e w' ⟨rfl, d', n, os, hp, hs, rfl⟩
    have hsz : d'.size = ds.length := by simpa using hp.1
    have hperm : d'.toList.Perm ds := by
      have := hp.2.2
      rw [show ds.toArray.extract 0 ds.toArray.size = ds.toArray by simp, show d'.extract 0 ds.toArray.size = d' by rw [show ds.toArray.size = d'.size by simp [hsz]]; simp] at this
      simpa using this
    refine ⟨rfl, d'.toList, hperm, ?_, ⟨d'.toList.map (encR en), ⟨by simp, fun j x hx => ?_⟩, ?_⟩, ?_⟩
    · rw [List.pairwise_iff_getElem]
      intro i j hi hj hij
      have hj' : j < d'.size := by simpa using hj
      have h4 := hs i j (Nat.zero_le _) hij (by simp; omega)
      rw [getElem!_pos d' i (by omega), getElem!_pos d' j hj'] at h4
      simp only [ltOf, decide_eq_false_iff_not, Int.not_lt] at h4
      simpa using h4
    · rw [List.getElem?_map] at hx
      obtain ⟨y, hy, rfl⟩ := Option.map_eq_some_iff.1 hx
      refine ⟨encR en y, by rw [List.getElem?_map, hy]; rfl, ⟨rfl, hok y (hperm.subset (List.mem_of_getElem? hy))⟩, rfl⟩
    · have hlm : (d'.toList.map en).length = ds.length := by simp [hsz]
      rw [hlm]
      refine ⟨by rw [flat_len (sz := 2) _ (fun cs h => by obtain ⟨x, _, rfl⟩ := List.mem_map.1 h; rfl)]; simp [hsz], .inr ⟨b, cap, _, rfl, hb, heap_rowK _ hg, hnc, hm, by simp [putCells, hcs], ?_⟩⟩
      apply List.ext_getElem?
      intro j
      by_cases hj : j < ds.length * 2
      · have hjc : j < cur.size := by rw [hcs]; have := Nat.mul_le_mul_right 2 hnc; omega
        rw [List.getElem?_take_of_lt hj, Array.getElem?_toList, flatten_two en d'.toList j (by simp [hsz]; omega)]
        simp only [putCells, Array.getElem?_mapIdx, Array.getElem?_eq_getElem hjc, Option.map_some]
        rw [if_pos ⟨Nat.zero_le _, by simp [hsz]; omega⟩, Nat.sub_zero, id, get_flatK _ _ _ _ (by rw [hsz]; exact hj)]
        simp only [Array.getElem!_toList]
      · rw [List.getElem?_take_eq_none (by omega), List.getElem?_eq_none (by rw [flat_len (sz := 2) _ (fun cs h => by obtain ⟨x, _, rfl⟩ := List.mem_map.1 h; rfl)]; simp [hsz]; omega)]
    · exact (Below.refl base w).grown (grownBy_rowK _) hbase (fun g hg => by cases hg; exact hb)
end Go.Proofs.YtmphgnjodangcaaGreat

namespace Go.Proofs.YtmphgnjodangcaaGreat
open Go.RowKit Go.Sort
set_option maxRecDepth 100000

theorem cmpLo_lt (x y : Int) : ltOf cmpI x y = decide (x < y) := by
  unfold ltOf cmpI
  by_cases h1 : x < y
  · simp [h1]
  · by_cases h2 : y < x <;> simp [h1, h2]
theorem swoI : SWO (ltOf cmpI) where
  irrefl x := by rw [cmpLo_lt]; simp
  trans x y z h1 h2 := by rw [cmpLo_lt] at *; simp at *; omega
  ntrans x y z h1 h2 := by rw [cmpLo_lt] at *; simp at *; omega
theorem cmpI_nonneg (a b : Int) : 0 ≤ cmpI b a ↔ a ≤ b := by
  unfold cmpI; split <;> (try split) <;> omega

theorem ofClo_any (x y : Int × Int) (W : World) : Calls Tryz.prog 226 #[.agg #[.int .i64 x.1, .int .i64 x.2], .agg #[.int .i64 y.1, .int .i64 y.2]] W fun e w' => e = .returned (.int .i64 (cmpI x.1 y.1)) ∧ ∃ q os', w' = grow (W.drewN q) os' := by
  go_enter Tryz.func226, Tryz.ntmps226
  go_wp2_with (go_at_call 227; refine (cmp64_any _ _ _).mono ?_; rintro e w' ⟨rfl, rfl⟩)
  go_ret
  exact ⟨rfl, 0, _, by rw [alloc_eq_grow, alloc_eq_grow, grow_grow]; rfl⟩

def dup (n : Int) : Int × Int := (n, n)
/-- Sorted numbers, joined: the reference's set. -/
theorem join_of {ns ts : List Int} (hn : ∀ x ∈ ns, numB x = true) (hp : ts.Perm ns) (hs : ts.Pairwise fun a b => a ≤ b) : joinL (ts.map dup) = ofL ns := by
  have hn' : ∀ x ∈ ns, 1 ≤ x ∧ x ≤ 1099511627776 := fun x hx => by simpa [numB] using hn x hx
  obtain ⟨a1, a2⟩ := ofL_right hn'
  obtain ⟨b1, b2⟩ := joinL_right (l := ts.map dup) (fun r hr => by
    obtain ⟨x, hx, rfl⟩ := List.mem_map.1 hr
    have := hn' x (hp.subset hx)
    exact ⟨this.1, Int.le_refl _, this.2⟩) (List.pairwise_map.2 hs)
  refine runs_eq _ _ none none b1 a1 fun n => ?_
  rw [b2, Bool.eq_iff_iff, a2]
  unfold hasL
  rw [List.any_eq_true]
  constructor
  · rintro ⟨r, hr, h⟩
    obtain ⟨x, hx, rfl⟩ := List.mem_map.1 hr
    have h2 : x ≤ n ∧ n ≤ x := by
      have h3 : (decide (x ≤ n) && decide (n ≤ x)) = true := h
      simpa using h3
    obtain rfl : n = x := by omega
    exact hp.subset hx
  · intro h
    exact ⟨dup n, List.mem_map.2 ⟨n, hp.symm.subset h, rfl⟩, by simp [dup, inR]⟩

set_option maxHeartbeats 1000000 in
theorem sof_any (ns : List Int) (v : Value) (w : World) (h : SlP w w.heap.size 1 InE v ns) (hn : ∀ x ∈ ns, numB x = true) (hN : ns.length ≤ 400000) :
    Calls Tryz.prog 185 #[v] w fun e w' => ∃ v', e = .returned (.tuple #[v', .int .i64 0]) ∧ OwnP w' w.heap.size 233 2 RuE v' (ofL ns) ∧ Below w.heap.size w w' := by
  obtain ⟨A, c, rfl, b1, b2, b3⟩ := h
  unfold Big at b2
  go_enter Tryz.func185, Tryz.ntmps185
  go_wp2_with fail
  go_loopw [4, 9] (fun v i wr => ∃ k : Nat, k ≤ ns.length ∧ i = .int .i64 k ∧ OwnP wr w.heap.size 233 2 RuE v ((ns.take k).map dup) ∧ Below w.heap.size w wr) (fun _ i _ => ns.length - (intOf i).toNat)
  case atStart => exact ⟨0, Nat.zero_le _, rfl, OwnP.nil, Below.refl _ _⟩
  case round =>
    obtain ⟨k, hk, rfl, hown, hb⟩ := hrel
    have hsz := hb.size
    by_cases hlt : k < ns.length
    · obtain ⟨x, hx⟩ : ∃ x, ns[k]? = some x := ⟨_, List.getElem?_eq_getElem hlt⟩
      obtain ⟨b, off, rfl, hbB, hc⟩ := b3 (by rintro rfl; simp at hlt)
      obtain ⟨cs, ⟨rfl, hok⟩, _, hu⟩ := hc k _ hx
      have e0 : wr.cell? ⟨b, off + k, none⟩ = some (.int .i64 x) := (hb.cell hbB).trans (by simpa using hu 0 _ rfl)
      have HB := hid (hn x (List.mem_of_getElem? hx))
      have HX : Hid ((ns.take (k + 1)).map dup = (ns.take k).map dup ++ [dup x]) := by unfold Hid; rw [take_succ' hx, List.map_append]; rfl
      have HRE : Hid (RuE (dup x) [.int .i64 x, .int .i64 x]) := ⟨rfl, hok, hok⟩
      have HL : Hid (((ns.take k).map dup).length + [dup x].length ≤ Few) := by unfold Hid Few; simp; omega
      clear hu hx hc b3 hok
      go_wp2_with (first | (go_at_call 224; refine (snum_any _ _).mono ?_; rw [HB.out]; rintro e w' ⟨rfl, rfl⟩) | (at_builtin; with_reducible refine wpList_few rfl (.tmp 16) (.tmp 20) _ rfl eiRun (by decide) (by decide) (fun _ _ h => h.one) rfl (hown.alloc _) rfl (SlP.one (x := dup x) HRE.out rfl _ rfl) HL.out (by rw [World.size_alloc]; omega) ?_; intro v1 w1 hown1 hb1 _))
      go_roundw
      case rel => exact ⟨k + 1, by omega, by go_num, by rw [HX.out]; exact hown1, hb.trans (((Below.refl _ _).alloc (by omega) _).trans hb1)⟩
      case measure => simp [intOf]; omega
    · obtain rfl : k = ns.length := by omega
      rw [List.take_of_length_le (Nat.le_refl _)] at hown
      have HC : Hid (∀ W base v, OwnP W base 233 2 RuE v (ns.map dup) → base ≤ W.heap.size → Calls Tryz.prog 225 #[v, .func (.func 226) #[] #[]] W fun e w' => e = .returned (.tuple #[]) ∧
        ∃ ts : List Int, ts.Perm ns ∧ ts.Pairwise (fun a b => a ≤ b) ∧ OwnP w' base 233 2 RuE v (ts.map dup) ∧ Below base W w') := fun W base v ho hbs =>
          (sortRun_any dup cmpI swoI 226 (enters_of Tryz.func226 (by kernel_rfl) rfl) (fun x y W => ofClo_any (dup x) (dup y) W) ns v W base ho (by omega) hbs).mono fun e w' ⟨he, ts, h1, h2, h3, h4⟩ =>
            ⟨he, ts, h1, h2.imp fun h => (cmpI_nonneg _ _).1 h, h3, h4⟩
      have HN := hid hn
      clear hn b3
      go_wp2_with fail
      refine (HC.out _ _ _ hown hsz).mono ?_
      rintro e w1 ⟨rfl, ts, hp, hs, ho1, hb1⟩
      have HJ := hid (join_of HN.out hp hs)
      have hs1 := hb1.size
      have hlen : ts.length = ns.length := hp.length_eq
      have hsl := ho1.sl (by rw [List.length_map, hlen]; unfold Big; omega)
      have hro : RunsOk (ts.map dup) := fun r hr => by
        obtain ⟨x, hx, rfl⟩ := List.mem_map.1 hr
        have := HN.out x (hp.subset hx)
        simp [numB] at this
        simp [dup]; omega
      have HRO := hid hro
      have HL1 : Hid ((ts.map dup).length ≤ 900000) := by unfold Hid; rw [List.length_map, hlen]; omega
      clear hp hs hro hlen ho1 hown
      go_wp2_with fail
      refine (sjoined_any (ts.map dup) _ w1 hsl HL1.out HRO.out).mono ?_
      rintro e w2 ⟨v2, rfl, ho2, hb2⟩
      rw [HJ.out] at ho2
      go_wp2_with fail
      go_ret2
      exact ⟨_, rfl, ho2.mono (by omega), (hb.trans hb1).trans (hb2.mono (by omega))⟩
end Go.Proofs.YtmphgnjodangcaaGreat

namespace Go.Proofs.YtmphgnjodangcaaGreat
open Go.RowKit
set_option maxRecDepth 100000

/-- The state of the first loop. -/
def OfA (l : List Dt) (w : World) (k : Nat) (wr : World) : Prop :=
  ∃ vs : Nat → Value, Rows4 wr (w.heap.size + 1) w.heap.size 202 2 1 InE vs (fun i => numsL (l.take k) i) ∧ Below w.heap.size w wr

/-- The state of the second loop: array Bq holds the sets of the first k centers. -/
def OfB (l : List Dt) (w1 : World) (k : Nat) (wr : World) : Prop :=
  ∃ ps : Nat → Value, wr.heap[w1.heap.size]? = some (.cells #[ps 0, ps 1, ps 2, ps 3] 205 (0, 0)) ∧
    (∀ j, j < 4 → OwnP wr (w1.heap.size + 1) 233 2 RuE (ps j) (if j < k then ofL (numsL l (j : Int)) else [])) ∧ Below w1.heap.size w1 wr

set_option maxHeartbeats 4000000 in
theorem cof_any (l : List Dt) (vl : Value) (w : World) (h : SlP w w.heap.size 2 DtE vl l) (hR : ∀ d ∈ l, d.right = true) (hN : l.length ≤ 100000) :
    Calls Tryz.prog 126 #[vl] w fun e w' => ∃ v, e = .returned (.tuple #[v, .int .i64 0]) ∧ OwnP w' w.heap.size 47 3 SpE v (ctxOf l) ∧ Below w.heap.size w w' := by
  obtain ⟨A, n, rfl, b1, b2, b3⟩ := h
  unfold Big at b2
  go_enter Tryz.func126, Tryz.ntmps126
  go_wp2_with fail
  go_loopw [12] (fun i wr => ∃ k : Nat, k ≤ l.length ∧ i = .int .i64 k ∧ OfA l w k wr) (fun i _ => l.length - (intOf i).toNat)
  case atStart => exact ⟨0, Nat.zero_le _, rfl, fun _ => .slice none 0 0, Rows4.start (heap_new rfl) (by omega), (Below.refl _ w).alloc (Nat.le_refl _) _⟩
  case round =>
    obtain ⟨k, hk, rfl, vs, hr4, hb⟩ := hrel
    have hsz := hb.size
    have hsz2 : w.heap.size < wr.heap.size := (Array.getElem?_eq_some_iff.1 hr4.arr).1
    have hsz4 : w.heap.size ≠ wr.heap.size := by omega
    by_cases hlt : k < l.length
    · obtain ⟨⟨dc, num⟩, hx⟩ : ∃ x, l[k]? = some x := ⟨_, List.getElem?_eq_getElem hlt⟩
      obtain ⟨b, off, rfl, hbB, hc⟩ := b3 (by rintro rfl; simp at hlt)
      obtain ⟨cs, ⟨rfl, hok⟩, _, hu⟩ := hc k _ hx
      have e0 : wr.cell? ⟨b, off + k * 2, none⟩ = some (.int .i64 dc) := (hb.cell hbB).trans (hu 0 _ rfl)
      have e1 : wr.cell? ⟨b, off + k * 2 + 1, none⟩ = some (.int .i64 num) := (hb.cell hbB).trans (hu 1 _ rfl)
      have hri := hR _ (List.mem_of_getElem? hx)
      have hbd : (0 ≤ dc ∧ dc < 4) ∧ 1 ≤ num ∧ num ≤ 1099511627776 := by simpa [Dt.right, and_assoc] using hri
      have HRI := hid hri
      have HR4 := hid hr4
      obtain ⟨d, rfl⟩ : ∃ d : Nat, dc = (d : Int) := ⟨dc.toNat, by omega⟩
      have hd4 : d < 4 := by omega
      have hdi : (d : Int) < 4 := by omega
      have HPD : Hid ((fun i : Nat => numsL (l.take (k + 1)) i) = fun i => if i = d then numsL (l.take k) d ++ [num] else numsL (l.take k) i) := by
        unfold Hid; funext i
        rw [numsL_take hx]
        by_cases e : i = d
        · subst e; rw [if_pos rfl, if_pos rfl]
        · rw [if_neg e, if_neg (by show ¬ (d : Int) = (i : Int); omega), List.append_nil]
      have HL : Hid ((numsL (l.take k) d).length + [num].length ≤ Few) := by have := numsL_len (l.take k) d; rw [List.length_take] at this; unfold Hid Few; simp; omega
      have HRE : Hid (InE num [.int .i64 num]) := ⟨rfl, hok.n⟩
      have hbp : wr.cell? ⟨w.heap.size, d, none⟩ = some (vs d) := HR4.out.at hd4
      have HLT := hid ((HR4.out.own d hd4).lt)
      clear hu hx hc b3 hok hr4 hri hR
      go_upto_region 7 with (go_at_call 168; refine (dright_any ⟨d, num⟩ _).mono ?_; rw [HRI.out]; rintro e wd ⟨rfl, hbd'⟩; have hsd := hbd'.size; simp only [World.size_alloc] at hsd)
      have HB1 : Hid (Below wr.heap.size wr wd) := ((Below.refl _ wr).alloc (Nat.le_refl _) _).trans (hbd'.mono (by simp))
      have hx0 : wd.cell? ⟨wr.heap.size, 0, none⟩ = some (.int .i64 (d : Int)) := by rw [hbd'.cell (p := ⟨wr.heap.size, 0, none⟩) (by simp)]; simp
      have hx1 : wd.cell? ⟨wr.heap.size, 1, none⟩ = some (.int .i64 num) := by rw [hbd'.cell (p := ⟨wr.heap.size, 1, none⟩) (by simp)]; simp
      have hxb : wd.heap[wr.heap.size]? = some (.cells #[.int .i64 (d : Int), .int .i64 num] 54 (0, 0)) := (hbd'.block wr.heap.size (by simp)).trans (heap_new rfl)
      have HXB := hid hxb
      have hbp1 : wd.cell? ⟨w.heap.size, d, none⟩ = some (vs d) := (HB1.out.cell (p := ⟨w.heap.size, d, none⟩) hsz2).trans hbp
      have HR5 := hid (HR4.out.grow HB1.out)
      have hwd1 : w.heap.size < wd.heap.size := by omega
      have hwd2 : w.heap.size ≠ wd.heap.size := by omega
      have hwd3 : wr.heap.size < wd.heap.size := by omega
      have hwd4 : wr.heap.size ≠ wd.heap.size := by omega
      have HBW := hid (hb.trans (HB1.out.mono hsz))
      clear hbp hxb hbd' e0 e1
      go_wp2_with fail
      refine wp_region_pop_n (S := fun w' => w'.cell? ⟨wr.heap.size, 0, none⟩ = some (.int .i64 (d : Int)) ∧ w'.cell? ⟨wr.heap.size, 1, none⟩ = some (.int .i64 num) ∧ w'.cell? ⟨w.heap.size, d, none⟩ = some (vs d)) 11 (by kernel_rfl) (by kernel_rfl) ?_
      simp only [List.take_succ_cons, List.take_zero, List.drop_succ_cons, List.drop_zero]
      have hHeld : (fun w' : World => w'.cell? ⟨wr.heap.size, 0, none⟩ = some (.int .i64 (d : Int)) ∧ w'.cell? ⟨wr.heap.size, 1, none⟩ = some (.int .i64 num) ∧ w'.cell? ⟨w.heap.size, d, none⟩ = some (vs d)) wd.drew := by go_keep
      refine wpAnyH_take (i := 0) (oi := _) (v := ?v0) rfl (by kernel_rfl) (by kernel_rfl) (by kernel_rfl) (fun _ _ _ h => h) (Or.inl ⟨by rfl, ?h0⟩) (by assumption) ?_
      case h0 => (intro w hSw; (try dsimp only at hSw); go_simp; (try with_reducible rfl))
      simp only [Act.put, List.setIfInBounds_toArray]
      refine wpAnyH_take (i := 1) (oi := _) (v := ?v1) rfl (by kernel_rfl) (by kernel_rfl) (by kernel_rfl) (fun _ _ _ h => h) (Or.inl ⟨by rfl, ?h1⟩) (by assumption) ?_
      case h1 => (intro w hSw; (try dsimp only at hSw); go_simp; (try with_reducible rfl))
      simp only [Act.put, List.setIfInBounds_toArray]
      refine wpAnyH_take (i := 2) (oi := _) (v := ?v2) rfl (by kernel_rfl) (by kernel_rfl) (by kernel_rfl) (fun _ _ _ h => h) (Or.inl ⟨by rfl, ?h2⟩) (by assumption) ?_
      case h2 => (intro w hSw; (try dsimp only at hSw); go_simp; (try with_reducible rfl))
      simp only [Act.put, List.setIfInBounds_toArray]
      refine wpAnyH_take (i := 3) (oi := _) (v := ?v3) rfl (by kernel_rfl) (by kernel_rfl) (by kernel_rfl) (fun _ _ _ h => h) (Or.inl ⟨by rfl, ?h3⟩) (by assumption) ?_
      case h3 => (intro w hSw; (try dsimp only at hSw); go_simp; (try with_reducible rfl))
      simp only [Act.put, List.setIfInBounds_toArray]
      refine wpAnyH_take (i := 4) (oi := _) (v := ?v4) rfl (by kernel_rfl) (by kernel_rfl) (by kernel_rfl) (fun _ _ _ h => h) (Or.inl ⟨by rfl, ?h4⟩) (by assumption) ?_
      case h4 => (intro w hSw; (try dsimp only at hSw); go_simp; (try with_reducible rfl))
      simp only [Act.put, List.setIfInBounds_toArray]
      refine wpAnyH_take (i := 5) (oi := _) (v := ?v5) rfl (by kernel_rfl) (by kernel_rfl) (by kernel_rfl) (fun _ _ _ h => h) (Or.inl ⟨by rfl, ?h5⟩) (by assumption) ?_
      case h5 => (intro w hSw; (try dsimp only at hSw); go_simp; (try with_reducible rfl))
      simp only [Act.put, List.setIfInBounds_toArray]
      refine wpAnyH_take (i := 6) (oi := _) (v := ?v6) rfl (by kernel_rfl) (by kernel_rfl) (by kernel_rfl) (fun _ _ _ h => h) (Or.inl ⟨by rfl, ?h6⟩) (by assumption) ?_
      case h6 => (intro w hSw; (try dsimp only at hSw); go_simp; (try with_reducible rfl))
      simp only [Act.put, List.setIfInBounds_toArray]
      refine wpAnyH_take (i := 7) (oi := _) (v := ?v7) rfl (by kernel_rfl) (by kernel_rfl) (by kernel_rfl) (fun _ _ _ h => h) (Or.inl ⟨by rfl, ?h7⟩) (by assumption) ?_
      case h7 => (intro w hSw; (try dsimp only at hSw); go_simp; (try with_reducible rfl))
      simp only [Act.put, List.setIfInBounds_toArray]
      refine wpAnyH_ready (rs := [8]) (by kernel_rfl) (by simp) ?_
      refine AllReadyH.cons (o := _) rfl (fun K hK => ?_) AllReadyH.nil
      go_simp
      refine hK.out _ _ ?_ (fun hHeld8 => ?_)
      · go_keep
      clear hK K
      simp only [List.setIfInBounds_toArray]
      refine wpAnyH_ready (rs := [9]) (by kernel_rfl) (by simp) ?_
      refine AllReadyH.cons (o := _) rfl (fun K hK => ?_) AllReadyH.nil
      (refine step_few4 (v := vs d) rfl (.tmp 24) (.tmp 27) _ rfl eiInt64 (by decide) (by decide) (fun _ _ h => h.one) rfl (((HR5.out.own d hd4).grow ((Below.refl _ wd).alloc (Nat.le_refl _) _)).drew) rfl (SlP.one (x := num) HRE.out rfl _ (by simp)) HL.out (by simp; omega) ?_; intro v1 w4 hown4 hb4 hg4 hv4; have hsh4 := OwnP.shape hown4; simp only [List.length_append, List.length_singleton] at hsh4; obtain ⟨A1, c1, hv1⟩ := hsh4; subst hv1; have hg4h : Hid (w4.heap[w.heap.size]? = some (.cells #[vs 0, vs 1, vs 2, vs 3] 202 (0, 0))) := (hg4.block w.heap.size (by simp; omega) (fun e => by have := HLT.out _ e.symm; omega)).trans ((heap_old hwd1).trans HR5.out.arr); have hc4 : w4.cell? ⟨w.heap.size, d, none⟩ = some (vs d) := (cell_cells hg4h.out).trans (four_get vs hd4); have hf4 : w4.frozen? ⟨w.heap.size, d, none⟩ = false := cells_frz hg4h.out; have hx3 := (hg4.block wr.heap.size (by simp; omega) (fun e => by have := HLT.out _ e.symm; omega)).trans ((heap_old hwd3).trans HXB.out); have hx4 : Hid (w4.cell? ⟨wr.heap.size, 0, none⟩ = some (.int .i64 (d : Int)) ∧ w4.cell? ⟨wr.heap.size, 1, none⟩ = some (.int .i64 num) ∧ w4.cell? ⟨w.heap.size, d, none⟩ = some (vs d)) := ⟨(cell_cells (i := 0) hx3).trans rfl, (cell_cells (i := 1) hx3).trans rfl, hc4⟩; clear hx3)
      refine hK.out _ _ ?_ (fun hHeld9 => ?_)
      · exact hx4.out
      clear hK K
      simp only [Act.put, List.setIfInBounds_toArray]
      refine wpAnyH_take (i := 10) (oi := _) (v := ?v10) rfl (by kernel_rfl) (by kernel_rfl) (by kernel_rfl) (fun _ _ _ h => h) (Or.inl ⟨by rfl, ?h10⟩) (by assumption) ?_
      case h10 => (intro w hSw; (try dsimp only at hSw); go_simp; (try with_reducible rfl))
      simp only [Act.put, List.setIfInBounds_toArray]
      refine wpAnyH_done (by kernel_rfl) ?_ _
      change wpList _ _ _ _ _ _
      go_wp2_with fail
      go_roundw
      case rel =>
        refine ⟨k + 1, by omega, by go_num, fun i => if i = d then .slice A1 ((numsL (l.take k) d).length + 1) c1 else vs i, ?_, ?_⟩
        · rw [HPD.out]
          exact Rows4.put (w := (wd.alloc (.cells #[.int .i64 num] 2)).drew) ((HR5.out.grow ((Below.refl _ _).alloc (Nat.le_refl _) _)).same rfl) hd4 hown4 hg4 hv4
        · exact (((HBW.out.alloc (by omega) _).drew.trans (hb4.mono (by omega))).setCell (Nat.le_refl _) _)
      case measure => simp [intOf]; omega
    · obtain rfl : k = l.length := by omega
      rw [List.take_of_length_le (Nat.le_refl _)] at hr4
      have c0 : wr.cell? ⟨w.heap.size, 0, none⟩ = some (vs 0) := hr4.at (by omega)
      have c1 : wr.cell? ⟨w.heap.size, 1, none⟩ = some (vs 1) := hr4.at (by omega)
      have c2 : wr.cell? ⟨w.heap.size, 2, none⟩ = some (vs 2) := hr4.at (by omega)
      have c3 : wr.cell? ⟨w.heap.size, 3, none⟩ = some (vs 3) := hr4.at (by omega)
      have HR := hid hr4
      have HRR := hid hR
      clear hr4 b3 hR
      go_wp2_with fail
      obtain ⟨w1, rfl⟩ : ∃ w1 : World, w1 = wr := ⟨_, rfl⟩
      go_loopw [32] (fun i wr => ∃ k : Nat, k ≤ 4 ∧ i = .int .i64 k ∧ OfB l w1 k wr) (fun i _ => 4 - (intOf i).toNat)
      case atStart => exact ⟨0, by omega, rfl, fun _ => .slice none 0 0, heap_new rfl, fun j _ => by rw [if_neg (Nat.not_lt_zero _)]; exact OwnP.nil, (Below.refl _ _).alloc (Nat.le_refl _) _⟩
      case round =>
        obtain ⟨k, hk, rfl, ps, hpa, hpo, hbi⟩ := hrel
        have hsi := hbi.size
        have hsi2 : w1.heap.size < wr.heap.size := (Array.getElem?_eq_some_iff.1 hpa).1
        by_cases hk4 : k < 4
        · have hki : (k : Int) < 4 := by omega
          have hidx : ∀ w, (Instr.index 202 (.agg #[vs 0, vs 1, vs 2, vs 3]) (.int .i64 (k : Int))).run Tryz.prog w = .ok (vs k) w := fun w => by
            match k, hk4 with
            | 0, _ => rfl
            | 1, _ => rfl
            | 2, _ => rfl
            | 3, _ => rfl
          have hnl := numsL_len l k
          have HSL : Hid (SlP wr wr.heap.size 1 InE (vs k) (numsL l k)) := (HR.out.sl hk4 (by show (numsL l k).length ≤ Big; unfold Big; omega)).imp hbi hsi fun _ _ _ h => h
          have HNB : Hid (∀ x ∈ numsL l k, numB x = true) := fun x hx => by
            unfold numsL at hx
            obtain ⟨d, hd, rfl⟩ := List.mem_map.1 hx
            have h1 := HRR.out d (List.mem_filter.1 hd).1
            simp [Dt.right] at h1
            simp [numB]; omega
          have HPA := hid hpa
          have HPO := hid hpo
          have hpc : wr.cell? ⟨w1.heap.size, k, none⟩ = some (ps k) := (cell_cells hpa).trans (four_get ps hk4)
          clear hpa hpo
          go_wp2_with fail
          refine (sof_any (numsL l k) (vs k) wr HSL.out HNB.out (by omega)).mono ?_
          rintro e w2 ⟨v2, rfl, ho2, hb2⟩
          obtain ⟨A2, n2, rfl⟩ := ho2.shape
          have hp2 := (hb2.block w1.heap.size hsi2).trans HPA.out
          have hc2 : w2.cell? ⟨w1.heap.size, k, none⟩ = some (ps k) := (cell_cells hp2).trans (four_get ps hk4)
          have hf2 : w2.frozen? ⟨w1.heap.size, k, none⟩ = false := cells_frz hp2
          have HP2 := hid hp2
          have HO2 := hid ho2
          clear hp2 ho2 hpc hidx
          go_wp2_with fail
          go_roundw
          case rel =>
            refine ⟨k + 1, by omega, by go_num, fun j => if j = k then .slice A2 (ofL (numsL l k)).length n2 else ps j, ?_, fun j hj => ?_, (hbi.trans (hb2.mono hsi)).setCell (Nat.le_refl _) _⟩
            · rw [cells_set HP2.out, four_set ps hk4]
            · by_cases e : j = k
              · subst e
                simp only [if_true, if_pos (Nat.lt_succ_self j)]
                exact (HO2.out.mono (by omega)).setOther (by simp) _
              · have e2 : (if j < k + 1 then ofL (numsL l (j : Int)) else []) = (if j < k then ofL (numsL l (j : Int)) else []) := by
                  by_cases e3 : j < k
                  · rw [if_pos e3, if_pos (by omega)]
                  · rw [if_neg e3, if_neg (by omega)]
                simp only [if_neg e]
                rw [e2]
                exact ((HPO.out j hj).grow hb2).setOther (by simp) _
          case measure => simp [intOf]; omega
        · obtain rfl : k = 4 := by omega
          have d0 : wr.cell? ⟨w1.heap.size, 0, none⟩ = some (ps 0) := cell_cells (i := 0) hpa
          have d1 : wr.cell? ⟨w1.heap.size, 1, none⟩ = some (ps 1) := cell_cells (i := 1) hpa
          have d2 : wr.cell? ⟨w1.heap.size, 2, none⟩ = some (ps 2) := cell_cells (i := 2) hpa
          have d3 : wr.cell? ⟨w1.heap.size, 3, none⟩ = some (ps 3) := cell_cells (i := 3) hpa
          have HOL : ∀ j : Nat, (ofL (numsL l (j : Int))).length ≤ 100001 := fun j => by have := ofL_len (numsL l (j : Int)); have := numsL_len l (j : Int); omega
          have HSP : Hid (∀ j, j < 4 → SlP wr wr.heap.size 2 RuE (ps j) (ofL (numsL l (j : Int)))) := fun j hj => by
            have := hpo j hj
            rw [if_pos hj] at this
            exact this.sl (by have := HOL j; unfold Big; omega)
          have HOLH := hid HOL
          clear hpa hpo HOL
          go_wp2_with fail
          refine (whole_any (fun j => ofL (numsL l (j : Int))) ps wr HSP.out (fun j _ => by have := HOLH.out j; show (ofL _).length ≤ _; omega)).mono ?_
          rintro e w2 ⟨v2, rfl, ho2, hb2⟩
          go_wp2_with fail
          go_ret2
          exact ⟨_, rfl, ho2.mono (by omega), (hb.trans (hbi.mono hsz)).trans (hb2.mono (by omega))⟩
end Go.Proofs.YtmphgnjodangcaaGreat

namespace Go.Proofs.YtmphgnjodangcaaGreat
open Go.RowKit
set_option maxRecDepth 100000

/-- What tree.Dots hands back. -/
def RetDots (t : Tr) (w : World) (e : Ending) (w' : World) : Prop :=
  ∃ v n, e = .returned (.tuple #[v, .int .i64 n]) ∧ n = (if t.right 5 then 0 else 1) ∧ OwnP w' w.heap.size 47 3 SpE v (if t.right 5 then ctxOf t.dots else []) ∧ Below w.heap.size w w'
set_option maxHeartbeats 1000000 in
theorem tdots_any (t : Tr) (ve vk : Value) (w : World) (h : t.rd w w.heap.size ve vk) (hN : t.sz ≤ 90000) :
    Calls Tryz.prog 170 #[.agg #[ve, vk]] w (RetDots t w) := by
  have HC : Hid (∀ w', Below w.heap.size w w' → t.rd w' w'.heap.size ve vk) := fun w' hb => rd_below hb hb.size _ _ _ h
  have hdl := dots_len t
  obtain ⟨A3, n3, A4, n4, rfl, rfl⟩ := rd_shape h
  have hb0 := (Below.refl w.heap.size w).alloc (Nat.le_refl _) (.cells #[.slice A3 t.es.length n3, .slice A4 t.ks.length n4] 27)
  clear h
  go_enter Tryz.func170, Tryz.ntmps170
  go_wp2_with fail
  refine (tRight_any t _ _ _ (HC.out _ hb0)).mono ?_
  rintro e w1 ⟨rfl, hb1⟩
  have hs1 := hb1.size
  simp only [World.size_alloc] at hs1
  have hB1 : Below w.heap.size w w1 := hb0.trans (hb1.mono (by simp))
  have c0 : w1.cell? ⟨w.heap.size, 0, none⟩ = some (.slice A3 t.es.length n3) := by rw [hb1.cell (p := ⟨w.heap.size, 0, none⟩) (by simp)]; simp
  have c1 : w1.cell? ⟨w.heap.size, 1, none⟩ = some (.slice A4 t.ks.length n4) := by rw [hb1.cell (p := ⟨w.heap.size, 1, none⟩) (by simp)]; simp
  cases hr : t.right 5
  · have HR := hid hr
    clear hr
    go_wp2_with fail
    go_ret2
    exact ⟨_, _, rfl, by rw [HR.out]; rfl, by rw [HR.out]; exact OwnP.nil, hB1⟩
  · have HR := hid hr
    have HD := hid (right_dots t 5 hr)
    clear hr
    go_wp2_with fail
    refine (tall_any t _ _ _ (HC.out _ hB1) (by omega)).mono ?_
    rintro e w2 ⟨v2, rfl, ho2, hb2⟩
    have hs2 := hb2.size
    have hsl := ho2.sl (by unfold Big; omega)
    clear ho2
    go_wp2_with fail
    refine (cof_any t.dots v2 w2 hsl HD.out (by omega)).mono ?_
    rintro e w3 ⟨v3, rfl, ho3, hb3⟩
    go_wp2_with fail
    go_ret2
    exact ⟨_, _, rfl, by rw [HR.out]; rfl, by rw [HR.out]; exact ho3.mono (by omega), (hB1.trans (hb2.mono (by omega))).trans (hb3.mono (by omega))⟩

theorem chk_eq {t : Tr} (h : t.right 5 = true) (d : Dt) : cHas (ctxOf t.dots) d = hasC (ctxOf t.dots) d := cHas_eq (apart_ctxOf (right_dots t 5 h)) d

/-- flag.Check's answer: 0 where a change may be made, else 1. -/
def chkI (t : Tr) (d : Dt) : Int := if chkT t d then 0 else 1
set_option maxHeartbeats 2000000 in
theorem fcheck_any (t : Tr) (d : Dt) (ve vk : Value) (w : World) (h : t.rd w w.heap.size ve vk) (hN : t.sz ≤ 90000) :
    Calls Tryz.prog 125 #[.agg #[ve, vk], .agg #[.int .i64 d.dc, .int .i64 d.n]] w fun e w' => e = .returned (.int .i64 (chkI t d)) ∧ Below w.heap.size w w' := by
  have HC : Hid (∀ w', Below w.heap.size w w' → t.rd w' w'.heap.size ve vk) := fun w' hb => rd_below hb hb.size _ _ _ h
  have hcl : (ctxOf t.dots).length ≤ 900000 := by have := ctxOfK_len t.dots 4; have := dots_len t; unfold ctxOf; omega
  have HCL := hid hcl
  obtain ⟨A3, n3, A4, n4, rfl, rfl⟩ := rd_shape h
  have hb0 := ((Below.refl w.heap.size w).alloc (Nat.le_refl _) (.cells #[.slice A3 t.es.length n3, .slice A4 t.ks.length n4] 27)).alloc (by simp) (.cells #[.int .i64 d.dc, .int .i64 d.n] 54)
  clear h hcl
  go_enter Tryz.func125, Tryz.ntmps125
  go_wp2_with fail
  refine (tdots_any t _ _ _ (HC.out _ hb0) hN).mono ?_
  rintro e w1 ⟨v1, n1, rfl, hn1, ho1, hb1⟩
  have hs1 := hb1.size
  simp only [World.size_alloc] at hs1
  have hB1 : Below w.heap.size w w1 := hb0.trans (hb1.mono (by simp; omega))
  have c0 : w1.cell? ⟨w.heap.size + 1, 0, none⟩ = some (.int .i64 d.dc) := by rw [hb1.cell (p := ⟨w.heap.size + 1, 0, none⟩) (by simp)]; simp
  have c1 : w1.cell? ⟨w.heap.size + 1, 1, none⟩ = some (.int .i64 d.n) := by rw [hb1.cell (p := ⟨w.heap.size + 1, 1, none⟩) (by simp)]; simp
  cases hr : t.right 5
  · have HR : Hid (chkT t d = false) := by unfold Hid chkT; rw [hr]; rfl
    rw [hr] at hn1
    obtain rfl : n1 = 1 := hn1
    clear hr ho1
    go_wp2_with fail
    go_ret
    exact ⟨ret_int (by rw [chkI, HR.out]; rfl), hB1⟩
  rw [hr] at hn1 ho1
  obtain rfl : n1 = 0 := hn1
  simp only [if_true] at ho1
  have hsl := ho1.sl (by have := HCL.out; unfold Big; omega)
  have HSL := hid hsl
  cases hd : d.right
  · have HR : Hid (chkT t d = false) := by unfold Hid chkT; rw [hr, hd]; rfl
    have HD := hid hd
    clear hr ho1 hsl hd
    go_wp2_with (go_at_call 168; refine (dright_any d _).mono ?_; rw [HD.out]; rintro e w2 ⟨rfl, hb2⟩)
    go_ret
    exact ⟨ret_int (by rw [chkI, HR.out]; rfl), hB1.trans (hb2.mono (by omega))⟩
  · have HR : Hid (chkT t d = !cHas (ctxOf t.dots) d) := by unfold Hid chkT; rw [hr, hd, chk_eq hr]; rfl
    have HD := hid hd
    clear hr ho1 hsl hd
    go_wp2_with fail
    refine (dright_any d _).mono ?_
    rw [HD.out]
    rintro e w2 ⟨rfl, hb2⟩
    have hs2 := hb2.size
    have d0 : w2.cell? ⟨w.heap.size + 1, 0, none⟩ = some (.int .i64 d.dc) := (hb2.cell (p := ⟨w.heap.size + 1, 0, none⟩) (by show w.heap.size + 1 < _; omega)).trans c0
    have d1 : w2.cell? ⟨w.heap.size + 1, 1, none⟩ = some (.int .i64 d.n) := (hb2.cell (p := ⟨w.heap.size + 1, 1, none⟩) (by show w.heap.size + 1 < _; omega)).trans c1
    go_wp2_with fail
    refine (chas_any (ctxOf t.dots) d v1 w2 (HSL.out.imp hb2 hs2 fun _ _ _ h => h) HCL.out).mono ?_
    rintro e w3 ⟨rfl, hb3⟩
    have hB3 := (hB1.trans (hb2.mono (by omega))).trans (hb3.mono (show w.heap.size ≤ _ by omega))
    generalize cHas (ctxOf t.dots) d = q at *
    cases q
    all_goals
      go_wp2_with fail
      go_ret
      exact ⟨ret_int (by rw [chkI, HR.out]; rfl), hB3⟩
end Go.Proofs.YtmphgnjodangcaaGreat

namespace Go.Proofs.YtmphgnjodangcaaGreat
open Go.RowKit
set_option maxRecDepth 100000

/-- The call hands back what is known, in blocks of its own, and an error's number. -/
def RetCE (w : World) (t : Tr) (c : List Sp) (k : Int) (e : Ending) (w' : World) : Prop :=
  ∃ ve vk vc, e = .returned (.tuple #[.agg #[ve, vk, vc], .int .i64 k]) ∧ t.rda w' (fun b => w.heap.size ≤ b ∧ b < w'.heap.size) ve vk ∧ SlA w' (fun b => w.heap.size ≤ b ∧ b < w'.heap.size) 3 SpE vc c ∧ Below w.heap.size w w'
theorem chkT_right {t : Tr} {d : Dt} (h : chkT t d = true) : d.right = true := by
  unfold chkT at h; simp at h; exact h.1.2
theorem chkT_tree {t : Tr} {d : Dt} (h : chkT t d = true) : t.right 5 = true := by
  unfold chkT at h; simp at h; exact h.1.1
theorem SlA.one {α : Type} {w : World} {ok : Nat → Prop} {sz n : Nat} {E : α → List Value → Prop} {x : α} {cs : List Value} {e : TypeId} {z : Nat × Nat} (hE : E x cs) (hl : cs.length = sz) (h : w.heap[n]? = some (.cells cs.toArray e z)) (ho : ok n) :
    SlA w ok sz E (.slice (some ⟨n, 0, none⟩) 1 1) [x] := by
  refine ⟨_, 1, rfl, Nat.le_refl _, by simp [Big], fun _ => ⟨_, 0, rfl, ho, fun j y hy => ?_⟩⟩
  match j, hy with
  | 0, hy =>
    simp at hy; subst hy
    exact ⟨cs, hE, hl, fun i u hi => by rw [cell_cells h]; simpa using hi⟩
theorem En.Ok.mk' {d : Dt} {n : Int} (hd : d.Ok) (hn : I64 n) : En.Ok ⟨d.dc, d.n, ByteArray.empty, n⟩ := ⟨hd.dc, hd.n, hn, by simp [Big]⟩
end Go.Proofs.YtmphgnjodangcaaGreat

namespace Go.Proofs.YtmphgnjodangcaaGreat
open Go.RowKit
set_option maxRecDepth 100000

theorem wrapClo_any (s : ByteArray) (w : World) : Calls Tryz.prog 195 #[.string s] w fun e w' => e = .returned (.bool !keyB s) ∧ Below w.heap.size w w' := by
  go_enter Tryz.func195, Tryz.ntmps195
  go_wp2_with fail
  refine (tkey_any s _).mono ?_
  rintro e w1 ⟨rfl, hb1⟩
  go_wp2_with fail
  go_ret
  exact ⟨rfl, hb1⟩

theorem right_dep : ∀ (t : Tr) (d : Int), t.right d = true → (t.dep : Int) ≤ d := by
  intro t
  induction t using Tr.ind with
  | h es ks ih =>
  intro d h
  rw [Tr.right, Bool.and_eq_true, Bool.and_eq_true, decide_eq_true_eq] at h
  obtain ⟨⟨h1, _⟩, h2⟩ := h
  rw [Tr.dep]
  have : ∀ (p : Option ByteArray) (ks : List Kd), (∀ k t, (k, t) ∈ ks → ∀ d, t.right d = true → (t.dep : Int) ≤ d) → Tr.rightL p ks d = true → (Tr.depL ks : Int) ≤ d - 1 := by
    intro p ks
    induction ks generalizing p with
    | nil => intro _ _; simp [Tr.depL]; omega
    | cons x ks ih' =>
      obtain ⟨k, t⟩ := x
      intro hi h
      rw [rightL_cons, Bool.and_eq_true, Bool.and_eq_true] at h
      have a := hi k t (by simp) _ h.1.2
      have b := ih' (some k) (fun k t hm => hi k t (by simp [hm])) h.2
      rw [Tr.depL]; omega
  have := this none ks ih h2
  omega

/-- What tree.Wrap makes of a tree and a key: the error's number, the tree. -/
def wrapE (t : Tr) (s : ByteArray) : Int := if !(t.right 5) || !keyB s then 1 else if !empB t.es.length t.ks.length && decide (5 < t.dep + 1) then 10 else 0
def wrapT (t : Tr) (s : ByteArray) : Tr := if wrapE t s = 0 then (if empB t.es.length t.ks.length then t else .mk [] [(s, t)]) else .mk [] []
/-- The call hands back a tree in blocks of its own, and an error's number. -/
def RetTE (w : World) (t : Tr) (k : Int) (e : Ending) (w' : World) : Prop :=
  ∃ ve vk, e = .returned (.tuple #[.agg #[ve, vk], .int .i64 k]) ∧ t.rda w' (fun b => w.heap.size ≤ b ∧ b < w'.heap.size) ve vk ∧ Below w.heap.size w w'
theorem wrap_world {w w6 : World} {t : Tr} {s : ByteArray} {Ae Ak : Option Addr} {ne nk : Nat} {x0 x1 : Value} (hs : s.size ≤ Big) (g2 : w6.heap[w.heap.size]? = some (.cells #[x0, x1] 27 (0, 0)))
    (g4 : w6.heap[w.heap.size + 1]? = some (.cells #[.slice none 0 0, .slice none 0 0] 27 (0, 0))) (hsw : w.heap.size + 2 ≤ w6.heap.size) (hrd : t.rda w6 (fun b => w.heap.size + 2 ≤ b ∧ b < w6.heap.size) (.slice Ae t.es.length ne) (.slice Ak t.ks.length nk)) (hB : Below w.heap.size w w6) :
    ∃ W, W = ((((w6.setCell ⟨w.heap.size, 0, none⟩ (.slice none 0 0)).setCell ⟨w.heap.size, 1, none⟩ (.slice (some ⟨w6.heap.size, 0, none⟩) 1 1)).alloc (.cells #[.string s, .slice Ae t.es.length ne, .slice Ak t.ks.length nk] 155)).drew) ∧ W.heap[w.heap.size]? = some (.cells #[.slice none 0 0, .slice (some ⟨w6.heap.size, 0, none⟩) 1 1] 27 (0, 0)) ∧
      (Tr.mk [] [(s, t)]).rda W (fun b => w.heap.size + 2 ≤ b ∧ b < W.heap.size) (.slice none 0 0) (.slice (some ⟨w6.heap.size, 0, none⟩) 1 1) ∧
      W.heap[w.heap.size + 1]? = some (.cells #[.slice none 0 0, .slice none 0 0] 27 (0, 0)) ∧ Below w.heap.size w W ∧ w.heap.size + 2 ≤ W.heap.size := by
  have hS : ((w6.setCell ⟨w.heap.size, 0, none⟩ (.slice none 0 0)).setCell ⟨w.heap.size, 1, none⟩ (.slice (some ⟨w6.heap.size, 0, none⟩) 1 1)).heap.size = w6.heap.size := by simp [World.setCell]
  have hK : ∀ b, b ≠ w.heap.size → ((w6.setCell ⟨w.heap.size, 0, none⟩ (.slice none 0 0)).setCell ⟨w.heap.size, 1, none⟩ (.slice (some ⟨w6.heap.size, 0, none⟩) 1 1)).heap[b]? = w6.heap[b]? := fun b hb => (Below.heap_setCell _ _ _ _ hb).trans (Below.heap_setCell _ _ _ _ hb)
  have hC := cells_set (i := 1) (cells_set (i := 0) g2 (.slice none 0 0)) (.slice (some ⟨w6.heap.size, 0, none⟩) 1 1)
  have hBW := (hB.setCell (p := ⟨w.heap.size, 0, none⟩) (by simp) (.slice none 0 0)).setCell (p := ⟨w.heap.size, 1, none⟩) (by simp) (.slice (some ⟨w6.heap.size, 0, none⟩) 1 1)
  refine ⟨_, rfl, ?_⟩
  generalize ((w6.setCell ⟨w.heap.size, 0, none⟩ (.slice none 0 0)).setCell ⟨w.heap.size, 1, none⟩ (.slice (some ⟨w6.heap.size, 0, none⟩) 1 1)) = V at *
  refine ⟨(heap_old (by omega)).trans (by simpa using hC), ?_, (heap_old (by omega)).trans ((hK _ (by omega)).trans g4), (hBW.alloc (by omega) _).drew, by show _ ≤ (V.alloc _).heap.size; rw [World.size_alloc]; omega⟩
  rw [rda_iff]
  refine ⟨SlA.nil, ?_⟩
  have hZ : (V.alloc (.cells #[.string s, .slice Ae t.es.length ne, .slice Ak t.ks.length nk] 155)).drew.heap.size = V.heap.size + 1 := World.size_alloc _ _
  have hk2 : Keeps (fun b => w.heap.size + 2 ≤ b ∧ b < w6.heap.size) w6 (V.alloc (.cells #[.string s, .slice Ae t.es.length ne, .slice Ak t.ks.length nk] 155)).drew := fun b hb => show (V.alloc (.cells #[.string s, .slice Ae t.es.length ne, .slice Ak t.ks.length nk] 155)).heap[b]? = _ from (heap_old (by have := hb.2; omega)).trans (hK b (by have := hb.1; omega))
  have hrd2 : t.rda (V.alloc (.cells #[.string s, .slice Ae t.es.length ne, .slice Ak t.ks.length nk] 155)).drew (fun b => w.heap.size + 2 ≤ b ∧ b < (V.alloc (.cells #[.string s, .slice Ae t.es.length ne, .slice Ak t.ks.length nk] 155)).drew.heap.size) (.slice Ae t.es.length ne) (.slice Ak t.ks.length nk) := rda_up hk2 (fun b hb => ⟨hb.1, by rw [hZ]; have := hb.2; omega⟩) _ _ _ hrd
  have hnew : (V.alloc (.cells #[.string s, .slice Ae t.es.length ne, .slice Ak t.ks.length nk] 155)).drew.heap[w6.heap.size]? = some (.cells #[.string s, .slice Ae t.es.length ne, .slice Ak t.ks.length nk] 155 (0, 0)) := show (V.alloc (.cells #[.string s, .slice Ae t.es.length ne, .slice Ak t.ks.length nk] 155)).heap[w6.heap.size]? = _ from heap_new hS.symm
  exact SlA.one (x := (s, t)) (cs := [.string s, .slice Ae t.es.length ne, .slice Ak t.ks.length nk]) (e := 155) (z := (0, 0)) ⟨_, _, rfl, hs, hrd2⟩ rfl hnew ⟨hsw, by rw [hZ]; omega⟩
set_option maxHeartbeats 4000000 in
theorem twrap_any (t : Tr) (s : ByteArray) (ve vk vp : Value) (w : World) (h : t.rd w w.heap.size ve vk) (hp : SlP w w.heap.size 1 StE vp [s]) (hN : t.sz ≤ 900000) :
    Calls Tryz.prog 136 #[.agg #[ve, vk], vp] w (RetTE w (wrapT t s) (wrapE t s)) := by
  have HC : Hid (∀ w', Below w.heap.size w w' → t.rd w' w'.heap.size ve vk) := fun w' hb => rd_below hb hb.size _ _ _ h
  have HP : Hid (∀ w', Below w.heap.size w w' → SlP w' w'.heap.size 1 StE vp [s]) := fun w' hb => hp.imp hb hb.size fun _ _ _ h => h
  have hfit := fit_rd _ _ _ h
  obtain ⟨hel, hkl⟩ : t.es.length ≤ 140737488355328 ∧ t.ks.length ≤ 140737488355328 := by obtain ⟨es, ks⟩ := t; exact ⟨hfit.1, hfit.2.1⟩
  obtain ⟨A3, n3, A4, n4, rfl, rfl⟩ := rd_shape h
  obtain ⟨Ap, cp, rfl, p1, p2, p3⟩ := hp
  obtain ⟨bp, op, rfl, hbp, hcp⟩ := p3 (by simp)
  obtain ⟨cs, ⟨rfl, hsz⟩, _, hu⟩ := hcp 0 s rfl
  have hps : w.cell? ⟨bp, op, none⟩ = some (.string s) := by simpa using hu 0 _ rfl
  clear hcp hu p3 h hfit
  simp only [List.length_cons, List.length_nil] at *
  have hb0 : Below w.heap.size w ((w.alloc (.cells #[.slice A3 t.es.length n3, .slice A4 t.ks.length n4] 27)).alloc (.cells #[.slice none 0 0, .slice none 0 0] 27)) := ((Below.refl _ w).alloc (Nat.le_refl _) _).alloc (by simp) _
  have HT : Hid (∀ w, TestStr 195 #[] (fun s => !keyB s) w) := fun w => ⟨enters_of Tryz.func195 (by kernel_rfl) rfl, fun x W _ _ => wrapClo_any x W⟩
  go_enter Tryz.func136, Tryz.ntmps136
  have HW : Hid (∀ w', Below (w.heap.size + 2) ((w.alloc (.cells #[.slice A3 t.es.length n3, .slice A4 t.ks.length n4] 27)).alloc (.cells #[.slice none 0 0, .slice none 0 0] 27)) w' → Below w.heap.size w w' ∧ w.heap.size + 2 ≤ w'.heap.size ∧ w'.heap[w.heap.size]? = some (.cells #[.slice A3 t.es.length n3, .slice A4 t.ks.length n4] 27 (0, 0)) ∧ w'.heap[w.heap.size + 1]? = some (.cells #[.slice none 0 0, .slice none 0 0] 27 (0, 0)) ∧ w'.cell? ⟨bp, op, none⟩ = some (.string s)) := fun w' hb => by
    have hB : Below w.heap.size w w' := hb0.trans (hb.mono (by omega))
    refine ⟨hB, by have := hb.size; simpa using this, (hb.block _ (by omega)).trans ((heap_old (by simp)).trans (heap_new rfl)), (hb.block _ (by omega)).trans (heap_new (by simp)), (hB.cell hbp).trans hps⟩
  have HPS := hid hps
  clear hps
  go_wp2_with fail
  refine (tRight_any t _ _ _ (HC.out _ hb0)).mono ?_
  rintro e w1 ⟨rfl, hb1⟩
  have hb1' := hid (hb1.mono (show w.heap.size + 2 ≤ _ by simp))
  obtain ⟨hB1, hs1, g2, g4, hps⟩ := HW.out _ hb1'.out
  have HG2 := hid g2
  have HG4 := hid g4
  have c0 : w1.cell? ⟨w.heap.size, 0, none⟩ = some (.slice A3 t.es.length n3) := cell_cells (i := 0) g2
  have c1 : w1.cell? ⟨w.heap.size, 1, none⟩ = some (.slice A4 t.ks.length n4) := cell_cells (i := 1) g2
  have k0 : w1.cell? ⟨w.heap.size + 1, 0, none⟩ = some (.slice none 0 0) := cell_cells (i := 0) g4
  have k1 : w1.cell? ⟨w.heap.size + 1, 1, none⟩ = some (.slice none 0 0) := cell_cells (i := 1) g4
  have y0 := cells_frz (i := 0) g2
  have y1 := cells_frz (i := 1) g2
  have z0 := cells_frz (i := 0) g4
  have z1 := cells_frz (i := 1) g4
  clear g2 g4
  clear hb1
  cases hr : t.right 5
  · have HE : Hid (wrapE t s = 1) := by unfold Hid wrapE; rw [hr]; rfl
    have HTT : Hid (wrapT t s = .mk [] []) := by unfold Hid wrapT; rw [HE.out]; rfl
    clear hr
    go_wp2_with fail
    have hW0 := cells_set (i := 1) (cells_set (i := 0) HG4.out (.slice none 0 0)) (.slice none 0 0)
    have r0 := (cell_cells (i := 0) hW0).trans (show _ = some (.slice none 0 0) by simp)
    have r1 := (cell_cells (i := 1) hW0).trans (show _ = some (.slice none 0 0) by simp)
    refine bodyPost_ret (v := .tuple #[.agg #[.slice none 0 0, .slice none 0 0], .int .i64 1]) (by simp [results, Tryz.results136, go_sem, r0, r1]) rfl ⟨_, _, by rw [HE.out], by rw [HTT.out]; exact rda_nil _ _, (hB1.setCell (by simp) _).setCell (by simp) _⟩
  have hdep := right_dep t 5 hr
  go_wp2_with fail
  refine (conStr_any (fun s => !keyB s) _ _ [s] _ w1 (HP.out _ hB1) (HT.out w1)).mono ?_
  rintro e w2 ⟨rfl, hb2⟩
  rw [show List.any [s] (fun s => !keyB s) = !keyB s by simp]
  clear c0 c1 k0 k1 y0 y1 z0 z1 hps HG2 HG4
  have hb2' := hid (hb1'.out.trans (hb2.mono hs1))
  obtain ⟨hB2, hs2, g2, g4, hps⟩ := HW.out _ hb2'.out
  have HG2 := hid g2
  have HG4 := hid g4
  have c0 : w2.cell? ⟨w.heap.size, 0, none⟩ = some (.slice A3 t.es.length n3) := cell_cells (i := 0) g2
  have c1 : w2.cell? ⟨w.heap.size, 1, none⟩ = some (.slice A4 t.ks.length n4) := cell_cells (i := 1) g2
  have k0 : w2.cell? ⟨w.heap.size + 1, 0, none⟩ = some (.slice none 0 0) := cell_cells (i := 0) g4
  have k1 : w2.cell? ⟨w.heap.size + 1, 1, none⟩ = some (.slice none 0 0) := cell_cells (i := 1) g4
  have y0 := cells_frz (i := 0) g2
  have y1 := cells_frz (i := 1) g2
  have z0 := cells_frz (i := 0) g4
  have z1 := cells_frz (i := 1) g4
  clear g2 g4
  clear hb2
  cases hk : keyB s
  · have HE : Hid (wrapE t s = 1) := by unfold Hid wrapE; rw [hr, hk]; rfl
    have HTT : Hid (wrapT t s = .mk [] []) := by unfold Hid wrapT; rw [HE.out]; rfl
    clear hr hk
    go_wp2_with fail
    have hW0 := cells_set (i := 1) (cells_set (i := 0) HG4.out (.slice none 0 0)) (.slice none 0 0)
    have r0 := (cell_cells (i := 0) hW0).trans (show _ = some (.slice none 0 0) by simp)
    have r1 := (cell_cells (i := 1) hW0).trans (show _ = some (.slice none 0 0) by simp)
    refine bodyPost_ret (v := .tuple #[.agg #[.slice none 0 0, .slice none 0 0], .int .i64 1]) (by simp [results, Tryz.results136, go_sem, r0, r1]) rfl ⟨_, _, by rw [HE.out], by rw [HTT.out]; exact rda_nil _ _, (hB2.setCell (by simp) _).setCell (by simp) _⟩
  go_wp2_with fail
  refine (tempty_any t.es.length t.ks.length A3 A4 n3 n4 w2).mono ?_
  rintro e w3 ⟨rfl, hb3⟩
  clear c0 c1 k0 k1 y0 y1 z0 z1 hps HG2 HG4
  have hb3' := hid (hb2'.out.trans (hb3.mono hs2))
  obtain ⟨hB3, hs3, g2, g4, hps⟩ := HW.out _ hb3'.out
  have HG2 := hid g2
  have HG4 := hid g4
  have c0 : w3.cell? ⟨w.heap.size, 0, none⟩ = some (.slice A3 t.es.length n3) := cell_cells (i := 0) g2
  have c1 : w3.cell? ⟨w.heap.size, 1, none⟩ = some (.slice A4 t.ks.length n4) := cell_cells (i := 1) g2
  have k0 : w3.cell? ⟨w.heap.size + 1, 0, none⟩ = some (.slice none 0 0) := cell_cells (i := 0) g4
  have k1 : w3.cell? ⟨w.heap.size + 1, 1, none⟩ = some (.slice none 0 0) := cell_cells (i := 1) g4
  have y0 := cells_frz (i := 0) g2
  have y1 := cells_frz (i := 1) g2
  have z0 := cells_frz (i := 0) g4
  have z1 := cells_frz (i := 1) g4
  clear g2 g4
  clear hb3
  cases hm : empB t.es.length t.ks.length
  · go_wp2_with fail
    refine (tdeep_any t w3 _ _ (HC.out _ hB3) (by omega)).mono ?_
    rintro e w4 ⟨rfl, hb4⟩
    clear c0 c1 k0 k1 y0 y1 z0 z1 hps HG2 HG4
    have hb4' := hid (hb3'.out.trans (hb4.mono hs3))
    obtain ⟨hB4, hs4, g2, g4, hps⟩ := HW.out _ hb4'.out
    have HG2 := hid g2
    have HG4 := hid g4
    have c0 : w4.cell? ⟨w.heap.size, 0, none⟩ = some (.slice A3 t.es.length n3) := cell_cells (i := 0) g2
    have c1 : w4.cell? ⟨w.heap.size, 1, none⟩ = some (.slice A4 t.ks.length n4) := cell_cells (i := 1) g2
    have k0 : w4.cell? ⟨w.heap.size + 1, 0, none⟩ = some (.slice none 0 0) := cell_cells (i := 0) g4
    have k1 : w4.cell? ⟨w.heap.size + 1, 1, none⟩ = some (.slice none 0 0) := cell_cells (i := 1) g4
    have y0 := cells_frz (i := 0) g2
    have y1 := cells_frz (i := 1) g2
    have z0 := cells_frz (i := 0) g4
    have z1 := cells_frz (i := 1) g4
    clear g2 g4
    clear hb4
    cases hd : decide (5 < t.dep + 1)
    · have HE : Hid (wrapE t s = 0) := by unfold Hid wrapE; rw [hr, hk, hm, hd]; rfl
      have HTT : Hid (wrapT t s = .mk [] [(s, t)]) := by unfold Hid wrapT; rw [HE.out, hm]; rfl
      have hd1 : decide ((5 : Int) < (t.dep : Int) + 1) = false := by simp at hd ⊢; omega
      clear hr hk hd
      go_wp2_with fail
      refine (tclone_any t w4 _ _ (HC.out _ hB4) hN).mono ?_
      rintro e w5 ⟨vc, vd, rfl, hrd, hb5⟩
      obtain ⟨A5, n5, A6, n6, rfl, rfl⟩ := rda_shape hrd
      clear c0 c1 k0 k1 y0 y1 z0 z1 hps HG2 HG4
      have hb5' := hid (hb4'.out.trans (hb5.mono hs4))
      obtain ⟨hB5, hs5, g2, g4, hps⟩ := HW.out _ hb5'.out
      have HG2 := hid g2
      have HG4 := hid g4
      have c0 : w5.cell? ⟨w.heap.size, 0, none⟩ = some (.slice A3 t.es.length n3) := cell_cells (i := 0) g2
      have c1 : w5.cell? ⟨w.heap.size, 1, none⟩ = some (.slice A4 t.ks.length n4) := cell_cells (i := 1) g2
      have k0 : w5.cell? ⟨w.heap.size + 1, 0, none⟩ = some (.slice none 0 0) := cell_cells (i := 0) g4
      have k1 : w5.cell? ⟨w.heap.size + 1, 1, none⟩ = some (.slice none 0 0) := cell_cells (i := 1) g4
      have y0 := cells_frz (i := 0) g2
      have y1 := cells_frz (i := 1) g2
      have z0 := cells_frz (i := 0) g4
      have z1 := cells_frz (i := 1) g4
      clear g2 g4
      clear hb5
      have HRD : Hid (t.rda w5 (fun b => w.heap.size + 2 ≤ b ∧ b < w5.heap.size) (.slice A5 t.es.length n5) (.slice A6 t.ks.length n6)) := rda_up (fun _ _ => rfl) (fun b hb => ⟨by have := hb.1; omega, hb.2⟩) _ _ _ hrd
      clear hrd
      go_wp2_with fail
      obtain ⟨r0, r1, r2, r3⟩ := box_tree HG2.out HRD.out (fun b hb => by have := hb.1; omega)
      have r4 : ((w5.setCell ⟨w.heap.size, 0, none⟩ (.slice A5 t.es.length n5)).setCell ⟨w.heap.size, 1, none⟩ (.slice A6 t.ks.length n6)).heap[w.heap.size]? = some (.cells #[.slice A5 t.es.length n5, .slice A6 t.ks.length n6] 27 (0, 0)) := by simpa using cells_set (i := 1) (cells_set (i := 0) HG2.out (.slice A5 t.es.length n5)) (.slice A6 t.ks.length n6)
      have r5 : ((w5.setCell ⟨w.heap.size, 0, none⟩ (.slice A5 t.es.length n5)).setCell ⟨w.heap.size, 1, none⟩ (.slice A6 t.ks.length n6)).heap[w.heap.size + 1]? = some (.cells #[.slice none 0 0, .slice none 0 0] 27 (0, 0)) := (Below.heap_setCell _ _ _ _ (by simp)).trans ((Below.heap_setCell _ _ _ _ (by simp)).trans HG4.out)
      have r6 : Below w.heap.size w ((w5.setCell ⟨w.heap.size, 0, none⟩ (.slice A5 t.es.length n5)).setCell ⟨w.heap.size, 1, none⟩ (.slice A6 t.ks.length n6)) := (hB5.setCell (by simp) _).setCell (by simp) _
      clear c0 c1 k0 k1 y0 y1 z0 z1 hps HG2 HG4
      generalize ((w5.setCell ⟨w.heap.size, 0, none⟩ (.slice A5 t.es.length n5)).setCell ⟨w.heap.size, 1, none⟩ (.slice A6 t.ks.length n6)) = W5 at *
      go_loopw [6] (fun i wr => ∃ T Ae ne Ak nk, wr.heap[w.heap.size]? = some (.cells #[.slice Ae T.es.length ne, .slice Ak T.ks.length nk] 27 (0, 0)) ∧ T.rda wr (fun b => w.heap.size + 2 ≤ b ∧ b < wr.heap.size) (.slice Ae T.es.length ne) (.slice Ak T.ks.length nk) ∧
          wr.heap[w.heap.size + 1]? = some (.cells #[.slice none 0 0, .slice none 0 0] 27 (0, 0)) ∧ Below w.heap.size w wr ∧ w.heap.size + 2 ≤ wr.heap.size ∧ ((i = .int .i64 0 ∧ T = t) ∨ (i = .int .i64 (-1) ∧ Hid (empB t.es.length t.ks.length = false) ∧ T = .mk [] [(s, t)]))) (fun i _ => (intOf i + 1).toNat)
      case atStart => exact ⟨t, A5, n5, A6, n6, r4, by rw [r3]; exact r2, r5, r6, by omega, .inl ⟨rfl, rfl⟩⟩
      case round =>
        obtain ⟨T, Ae, ne, Ak, nk, hg2, hrd, hg4, hB, hsw, hT⟩ := hrel
        clear r0 r1 r2 r3 r4 r5 r6
        have c0 : wr.cell? ⟨w.heap.size, 0, none⟩ = some (.slice Ae T.es.length ne) := cell_cells (i := 0) hg2
        have c1 : wr.cell? ⟨w.heap.size, 1, none⟩ = some (.slice Ak T.ks.length nk) := cell_cells (i := 1) hg2
        have k0 : wr.cell? ⟨w.heap.size + 1, 0, none⟩ = some (.slice none 0 0) := cell_cells (i := 0) hg4
        have k1 : wr.cell? ⟨w.heap.size + 1, 1, none⟩ = some (.slice none 0 0) := cell_cells (i := 1) hg4
        have y0 := cells_frz (i := 0) hg2
        have y1 := cells_frz (i := 1) hg2
        have z0 := cells_frz (i := 0) hg4
        have z1 := cells_frz (i := 1) hg4
        have HG2 := hid hg2
        have HG4 := hid hg4
        have HRDW := hid hrd
        clear hg2 hg4 hrd
        rcases hT with ⟨rfl, hTt⟩ | ⟨rfl, hTt⟩
        · have hTt' := hTt.symm
          subst hTt'
          go_wp2_with fail
          refine (tempty_any t.es.length t.ks.length Ae Ak ne nk wr).mono ?_
          rw [hm]
          rintro e w6 ⟨rfl, hb6⟩
          have hs6 := hb6.size
          have hB6 : Below w.heap.size w w6 := hB.trans (hb6.mono (by omega))
          have g2 := (hb6.block _ (by omega)).trans HG2.out
          have g4 := (hb6.block _ (by omega)).trans HG4.out
          clear c0 c1 k0 k1 y0 y1 z0 z1
          have c0 : w6.cell? ⟨w.heap.size, 0, none⟩ = some (.slice Ae t.es.length ne) := cell_cells (i := 0) g2
          have c1 : w6.cell? ⟨w.heap.size, 1, none⟩ = some (.slice Ak t.ks.length nk) := cell_cells (i := 1) g2
          have y0 := cells_frz (i := 0) g2
          have y1 := cells_frz (i := 1) g2
          have hps6 : w6.cell? ⟨bp, op, none⟩ = some (.string s) := (hB6.cell hbp).trans HPS.out
          have HG2 := hid g2
          have HG4 := hid g4
          have hlt6 : w.heap.size < w6.heap.size := by omega
          have hne6 : w.heap.size ≠ w6.heap.size := by omega
          have HM := hid hm
          clear g2 g4 hm
          go_upto_region 9 with (fail)
          go_region_with (fail)
          all_goals (
            obtain ⟨W, hW, a1, a2, a3, a4, a5⟩ := wrap_world (s := s) hsz HG2.out HG4.out (by omega) (rda_up (fun b hb => hb6.block b hb.2) (fun b hb => ⟨hb.1, by have := hb.2; omega⟩) _ _ _ HRDW.out) hB6
            rw [← hW]
            clear hW c0 c1 y0 y1 hps6
            go_wp2_with fail
            go_roundw
            case rel => exact ⟨.mk [] [(s, t)], none, 0, some ⟨w6.heap.size, 0, none⟩, 1, a1, a2, a3, a4, a5, .inr ⟨by go_num, HM, rfl⟩⟩
            case measure => simp [intOf])
        · obtain ⟨_, hTt⟩ := hTt
          subst hTt
          go_wp2_with fail
          obtain ⟨r0, r1, r2, r3⟩ := box_tree HG4.out HRDW.out (fun b hb => by have := hb.1; omega)
          have hBW : Below w.heap.size w ((wr.setCell ⟨w.heap.size + 1, 0, none⟩ (.slice Ae (Tr.mk [] [(s, t)]).es.length ne)).setCell ⟨w.heap.size + 1, 1, none⟩ (.slice Ak (Tr.mk [] [(s, t)]).ks.length nk)) := (hB.setCell (by simp) _).setCell (by simp) _
          generalize ((wr.setCell ⟨w.heap.size + 1, 0, none⟩ (.slice Ae (Tr.mk [] [(s, t)]).es.length ne)).setCell ⟨w.heap.size + 1, 1, none⟩ (.slice Ak (Tr.mk [] [(s, t)]).ks.length nk)) = W at *
          refine bodyPost_ret (v := .tuple #[.agg #[.slice Ae (Tr.mk [] [(s, t)]).es.length ne, .slice Ak (Tr.mk [] [(s, t)]).ks.length nk], .int .i64 0]) (by simp [results, Tryz.results136, go_sem, r0, r1]) rfl ⟨_, _, by rw [HE.out], by rw [HTT.out]; exact rda_up (fun _ _ => rfl) (fun b hb => ⟨by have := hb.1; omega, by have := hb.2; omega⟩) _ _ _ r2, hBW⟩
    · have HE : Hid (wrapE t s = 10) := by unfold Hid wrapE; rw [hr, hk, hm, hd]; rfl
      have HTT : Hid (wrapT t s = .mk [] []) := by unfold Hid wrapT; rw [HE.out]; rfl
      have hd1 : decide ((5 : Int) < (t.dep : Int) + 1) = true := by simp at hd ⊢; omega
      clear hr hk hm hd
      go_wp2_with fail
      have hW0 := cells_set (i := 1) (cells_set (i := 0) HG4.out (.slice none 0 0)) (.slice none 0 0)
      have r0 := (cell_cells (i := 0) hW0).trans (show _ = some (.slice none 0 0) by simp)
      have r1 := (cell_cells (i := 1) hW0).trans (show _ = some (.slice none 0 0) by simp)
      refine bodyPost_ret (v := .tuple #[.agg #[.slice none 0 0, .slice none 0 0], .int .i64 10]) (by simp [results, Tryz.results136, go_sem, r0, r1]) rfl ⟨_, _, by rw [HE.out], by rw [HTT.out]; exact rda_nil _ _, (hB4.setCell (by simp) _).setCell (by simp) _⟩
  · have HE : Hid (wrapE t s = 0) := by unfold Hid wrapE; rw [hr, hk, hm]; rfl
    have HTT : Hid (wrapT t s = t) := by unfold Hid wrapT; rw [HE.out, hm]; rfl
    clear hr hk
    go_wp2_with fail
    refine (tclone_any t w3 _ _ (HC.out _ hB3) hN).mono ?_
    rintro e w5 ⟨vc, vd, rfl, hrd, hb5⟩
    obtain ⟨A5, n5, A6, n6, rfl, rfl⟩ := rda_shape hrd
    clear c0 c1 k0 k1 y0 y1 z0 z1 hps HG2 HG4
    have hb5' := hid (hb3'.out.trans (hb5.mono hs3))
    obtain ⟨hB5, hs5, g2, g4, hps⟩ := HW.out _ hb5'.out
    have HG2 := hid g2
    have HG4 := hid g4
    have c0 : w5.cell? ⟨w.heap.size, 0, none⟩ = some (.slice A3 t.es.length n3) := cell_cells (i := 0) g2
    have c1 : w5.cell? ⟨w.heap.size, 1, none⟩ = some (.slice A4 t.ks.length n4) := cell_cells (i := 1) g2
    have k0 : w5.cell? ⟨w.heap.size + 1, 0, none⟩ = some (.slice none 0 0) := cell_cells (i := 0) g4
    have k1 : w5.cell? ⟨w.heap.size + 1, 1, none⟩ = some (.slice none 0 0) := cell_cells (i := 1) g4
    have y0 := cells_frz (i := 0) g2
    have y1 := cells_frz (i := 1) g2
    have z0 := cells_frz (i := 0) g4
    have z1 := cells_frz (i := 1) g4
    clear g2 g4
    clear hb5
    have HRD : Hid (t.rda w5 (fun b => w.heap.size + 2 ≤ b ∧ b < w5.heap.size) (.slice A5 t.es.length n5) (.slice A6 t.ks.length n6)) := rda_up (fun _ _ => rfl) (fun b hb => ⟨by have := hb.1; omega, hb.2⟩) _ _ _ hrd
    clear hrd
    go_wp2_with fail
    obtain ⟨r0, r1, r2, r3⟩ := box_tree HG2.out HRD.out (fun b hb => by have := hb.1; omega)
    have r4 : ((w5.setCell ⟨w.heap.size, 0, none⟩ (.slice A5 t.es.length n5)).setCell ⟨w.heap.size, 1, none⟩ (.slice A6 t.ks.length n6)).heap[w.heap.size]? = some (.cells #[.slice A5 t.es.length n5, .slice A6 t.ks.length n6] 27 (0, 0)) := by simpa using cells_set (i := 1) (cells_set (i := 0) HG2.out (.slice A5 t.es.length n5)) (.slice A6 t.ks.length n6)
    have r5 : ((w5.setCell ⟨w.heap.size, 0, none⟩ (.slice A5 t.es.length n5)).setCell ⟨w.heap.size, 1, none⟩ (.slice A6 t.ks.length n6)).heap[w.heap.size + 1]? = some (.cells #[.slice none 0 0, .slice none 0 0] 27 (0, 0)) := (Below.heap_setCell _ _ _ _ (by simp)).trans ((Below.heap_setCell _ _ _ _ (by simp)).trans HG4.out)
    have r6 : Below w.heap.size w ((w5.setCell ⟨w.heap.size, 0, none⟩ (.slice A5 t.es.length n5)).setCell ⟨w.heap.size, 1, none⟩ (.slice A6 t.ks.length n6)) := (hB5.setCell (by simp) _).setCell (by simp) _
    clear c0 c1 k0 k1 y0 y1 z0 z1 hps HG2 HG4
    generalize ((w5.setCell ⟨w.heap.size, 0, none⟩ (.slice A5 t.es.length n5)).setCell ⟨w.heap.size, 1, none⟩ (.slice A6 t.ks.length n6)) = W5 at *
    go_loopw [6] (fun i wr => ∃ T Ae ne Ak nk, wr.heap[w.heap.size]? = some (.cells #[.slice Ae T.es.length ne, .slice Ak T.ks.length nk] 27 (0, 0)) ∧ T.rda wr (fun b => w.heap.size + 2 ≤ b ∧ b < wr.heap.size) (.slice Ae T.es.length ne) (.slice Ak T.ks.length nk) ∧
        wr.heap[w.heap.size + 1]? = some (.cells #[.slice none 0 0, .slice none 0 0] 27 (0, 0)) ∧ Below w.heap.size w wr ∧ w.heap.size + 2 ≤ wr.heap.size ∧ ((i = .int .i64 0 ∧ T = t) ∨ (i = .int .i64 (-1) ∧ Hid (empB t.es.length t.ks.length = false) ∧ T = .mk [] [(s, t)]))) (fun i _ => (intOf i + 1).toNat)
    case atStart => exact ⟨t, A5, n5, A6, n6, r4, by rw [r3]; exact r2, r5, r6, by omega, .inl ⟨rfl, rfl⟩⟩
    case round =>
      obtain ⟨T, Ae, ne, Ak, nk, hg2, hrd, hg4, hB, hsw, hT⟩ := hrel
      clear r0 r1 r2 r3 r4 r5 r6
      have c0 : wr.cell? ⟨w.heap.size, 0, none⟩ = some (.slice Ae T.es.length ne) := cell_cells (i := 0) hg2
      have c1 : wr.cell? ⟨w.heap.size, 1, none⟩ = some (.slice Ak T.ks.length nk) := cell_cells (i := 1) hg2
      have k0 : wr.cell? ⟨w.heap.size + 1, 0, none⟩ = some (.slice none 0 0) := cell_cells (i := 0) hg4
      have k1 : wr.cell? ⟨w.heap.size + 1, 1, none⟩ = some (.slice none 0 0) := cell_cells (i := 1) hg4
      have y0 := cells_frz (i := 0) hg2
      have y1 := cells_frz (i := 1) hg2
      have z0 := cells_frz (i := 0) hg4
      have z1 := cells_frz (i := 1) hg4
      have HG2 := hid hg2
      have HG4 := hid hg4
      have HRDW := hid hrd
      clear hg2 hg4 hrd
      rcases hT with ⟨rfl, hTt⟩ | ⟨rfl, hTt⟩
      · have hTt' := hTt.symm
        subst hTt'
        go_wp2_with fail
        refine (tempty_any t.es.length t.ks.length Ae Ak ne nk wr).mono ?_
        rw [hm]
        rintro e w6 ⟨rfl, hb6⟩
        have hs6 := hb6.size
        have hB6 : Below w.heap.size w w6 := hB.trans (hb6.mono (by omega))
        have g2 := (hb6.block _ (by omega)).trans HG2.out
        have g4 := (hb6.block _ (by omega)).trans HG4.out
        clear c0 c1 k0 k1 y0 y1 z0 z1
        have c0 : w6.cell? ⟨w.heap.size, 0, none⟩ = some (.slice Ae t.es.length ne) := cell_cells (i := 0) g2
        have c1 : w6.cell? ⟨w.heap.size, 1, none⟩ = some (.slice Ak t.ks.length nk) := cell_cells (i := 1) g2
        have k0 : w6.cell? ⟨w.heap.size + 1, 0, none⟩ = some (.slice none 0 0) := cell_cells (i := 0) g4
        have k1 : w6.cell? ⟨w.heap.size + 1, 1, none⟩ = some (.slice none 0 0) := cell_cells (i := 1) g4
        have z0 := cells_frz (i := 0) g4
        have z1 := cells_frz (i := 1) g4
        have HG4 := hid g4
        clear g2 g4 hm
        go_wp2_with fail
        obtain ⟨r0, r1, r2, r3⟩ := box_tree HG4.out (rda_up (fun b hb => hb6.block b hb.2) (fun b hb => (⟨hb.1, by have := hb.2; omega⟩ : w.heap.size + 2 ≤ b ∧ b < w6.heap.size)) _ _ _ HRDW.out) (fun b hb => by have := hb.1; omega)
        have hBW : Below w.heap.size w ((w6.setCell ⟨w.heap.size + 1, 0, none⟩ (.slice Ae t.es.length ne)).setCell ⟨w.heap.size + 1, 1, none⟩ (.slice Ak t.ks.length nk)) := (hB6.setCell (by simp) _).setCell (by simp) _
        generalize ((w6.setCell ⟨w.heap.size + 1, 0, none⟩ (.slice Ae t.es.length ne)).setCell ⟨w.heap.size + 1, 1, none⟩ (.slice Ak t.ks.length nk)) = W at *
        refine bodyPost_ret (v := .tuple #[.agg #[.slice Ae t.es.length ne, .slice Ak t.ks.length nk], .int .i64 0]) (by simp [results, Tryz.results136, go_sem, r0, r1]) rfl ⟨_, _, by rw [HE.out], by rw [HTT.out]; exact rda_up (fun _ _ => rfl) (fun b hb => ⟨by have := hb.1; omega, by have := hb.2; omega⟩) _ _ _ r2, hBW⟩
      · exact absurd (hTt.1.symm.trans hm) (by simp)
end Go.Proofs.YtmphgnjodangcaaGreat
