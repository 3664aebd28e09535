/- What the laws need, part 5: slices.BinarySearchFunc at kids, causal.kid. No condition but that kids are in order. causal.kid. No condition but that the tree is in order. set.Elems, set.Has, tributaryref10.Elems, tributaryref10.Less, slices.Contains at texts. No condition but that there are not too many. The closure of ormap.Update: is a kid's key this one? No condition. slices.Equal at spans and at entries; slices.EqualFunc at kids. No condition. tree.same, tree.Same. No condition. slices.Sort and slices.Compact at a list of texts of the call's own. No condition but that there are not too many. register.Values. No condition but that there are not too many. Plain law: texts sorted and each once, as the library does it and as the reference does it. No condition. tributaryref10.Sorted, Texts. No condition but that there are not too many. slices.SortFunc at runs: the library's contract laid at this program. No condition. slices.SortFunc at a list of runs of the call's own. No condition but that there are not too many. span.Of is the reference's set of the same numbers. No condition but that the numbers are right, and not too many. span.Union is the reference's union. No condition but that both are sets, and not too many. context.by at two right contexts, whatever rule; context.Union. No condition but that there are not too many. context.Of is the reference's context of the same dots. No condition but that the dots are right, and not too many. tree.Dots and flag.Check are what the reference says. No condition but that there are not too many entries. What a change hands back: what is known, and an error's number. No condition. flag.seen, flag.Disable, flag.On. No condition but that there are not too many entries. set.check, set.has, set.seen. No condition but that there are not too many entries. -/
import Derived.Lib.RowBridge
import Derived.Shelf.SlSortCmp.NoneTotal
import Derived.Shelf.Slices.CompactS
import Derived.Shelf.Slices.In.SortNone
import Derived.Shelf.Sort.Plain
import Derived.Sort.OwnSorted
import Derived.Test.YtlapdmgjfdelnaaGreatProg
import Derived.Test.YtlapdmgjfdelnaaGreatRm4
namespace Go.Proofs.YtlapdmgjfdelnaaGreat
open Go.RowKit
set_option maxRecDepth 100000

theorem kidClo_any (x s : ByteArray) (A A' : Option Addr) (n c n' c' : Nat) (w : World) :
    Calls Tryz.prog 213 #[.agg #[.string x, .slice A n c, .slice A' n' c'], .string s] w fun e w' => e = .returned (.int .i64 (cmpS x s)) ∧ Below w.heap.size w w' := by
  go_enter Tryz.func213, Tryz.ntmps213
  go_wp2_with fail
  refine (cmpsS_any x s _).mono ?_
  rintro e w1 ⟨rfl, rfl⟩
  go_wp2_with fail
  go_ret
  exact ⟨rfl, by go_grown⟩
theorem kidClo_enters : ∀ args W, (callFunc 213 args).run Tryz.prog W = .ok (.enter 213 args) W := enters_of Tryz.func213 (by kernel_rfl) rfl

set_option maxHeartbeats 4000000 in
theorem bsf_any (ks : List Kd) (s : ByteArray) (v : Value) (w : World) (h : SlP w w.heap.size 3 (KdE w w.heap.size) v ks) (hS : ks.Pairwise fun a b => ltS a.1 b.1 = true) :
    Calls Tryz.prog 212 #[v, .string s, .func (.func 213) #[] #[]] w fun e w' =>
      ((∃ (i : Nat) (t : Tr), e = .returned (.tuple #[.int .i64 i, .bool true]) ∧ ks[i]? = some (s, t)) ∨ (∃ i : Int, e = .returned (.tuple #[.int .i64 i, .bool false]) ∧ ∀ t, (s, t) ∉ ks)) ∧ Below w.heap.size w w' := by
  obtain ⟨A, n, rfl, b1, b2, b3⟩ := h
  unfold Big at b2
  go_enter Tryz.func212, Tryz.ntmps212
  go_wp2_with fail
  go_loopw [9, 10] (fun a b wr => ∃ lo hi : Nat, lo ≤ hi ∧ hi ≤ ks.length ∧ a = .int .i64 lo ∧ b = .int .i64 hi ∧ Hid (∀ (j : Nat) y, j < lo → ks[j]? = some y → ltS y.1 s = true) ∧ Hid (∀ (j : Nat) y, hi ≤ j → ks[j]? = some y → ltS y.1 s = false) ∧ Below w.heap.size w wr) (fun a b _ => (intOf b).toNat - (intOf a).toNat)
  case atStart => exact ⟨0, ks.length, Nat.zero_le _, Nat.le_refl _, rfl, rfl, fun j y hj => absurd hj (Nat.not_lt_zero _), fun j y hj hy => by have := (List.getElem?_eq_some_iff.1 hy).1; omega, Below.refl _ _⟩
  case round =>
    obtain ⟨lo, hi, hlh, hhn, rfl, rfl, HLO, HHI, hb⟩ := hrel
    have hsz := hb.size
    by_cases hlt : lo < hi
    · obtain ⟨m, hm, hm1, hm2⟩ : ∃ m : Nat, ((lo : Int) + (hi : Int)) / 2 = (m : Int) ∧ lo ≤ m ∧ m < hi := ⟨(lo + hi) / 2, by omega, by omega, by omega⟩
      obtain ⟨x, hx⟩ : ∃ x, ks[m]? = some x := ⟨_, List.getElem?_eq_getElem (by omega)⟩
      obtain ⟨b, off, rfl, hbB, hc⟩ := b3 (by rintro rfl; simp at hhn; omega)
      obtain ⟨cs, ⟨ve, vk, rfl, hok, hrd⟩, _, hu⟩ := hc m _ hx
      obtain ⟨A3, n3, A4, n4, rfl, rfl⟩ := rd_shape hrd
      have e0 : wr.cell? ⟨b, off + m * 3, none⟩ = some (.string x.1) := (hb.cell hbB).trans (hu 0 _ rfl)
      have e1 : wr.cell? ⟨b, off + m * 3 + 1, none⟩ = some (.slice A3 x.2.es.length n3) := (hb.cell hbB).trans (hu 1 _ rfl)
      have e2 : wr.cell? ⟨b, off + m * 3 + 2, none⟩ = some (.slice A4 x.2.ks.length n4) := (hb.cell hbB).trans (hu 2 _ rfl)
      have hcall := kidClo_any x.1 s A3 A4 x.2.es.length n3 x.2.ks.length n4 wr
      have eg := kidClo_enters
      have HX := hid hx
      have HLT : Hid (∀ (j : Nat) y, j < m → ks[j]? = some y → ltS y.1 x.1 = true) := fun j y hj hy => by
        obtain ⟨h1, h2⟩ := List.getElem?_eq_some_iff.1 hy
        obtain ⟨h3, h4⟩ := List.getElem?_eq_some_iff.1 hx
        rw [List.pairwise_iff_getElem] at hS
        have := hS j m h1 h3 hj
        rw [h2, h4] at this; exact this
      have HGT : Hid (∀ (j : Nat) y, m < j → ks[j]? = some y → ltS x.1 y.1 = true) := fun j y hj hy => by
        obtain ⟨h1, h2⟩ := List.getElem?_eq_some_iff.1 hy
        obtain ⟨h3, h4⟩ := List.getElem?_eq_some_iff.1 hx
        rw [List.pairwise_iff_getElem] at hS
        have := hS m j h3 h1 hj
        rw [h2, h4] at this; exact this
      clear hu hc b3 hx hrd hS
      rcases hq : ltS x.1 s
      · have HQ := hid hq
        have hcv : decide (cmpS x.1 s < 0) = false := by
          unfold cmpS; rw [hq]; simp only [Bool.false_eq_true, if_false]; split <;> decide
        clear hq
        have HN : Hid (∀ (j : Nat) y, m ≤ j → ks[j]? = some y → ltS y.1 s = false) := fun j y hj hy => by
          by_cases hjm : j = m
          · subst hjm; have h2 := HX.out; rw [hy] at h2; cases h2; exact HQ.out
          · cases hys : ltS y.1 s
            · rfl
            · have h3 := ltS_trans (HGT.out j y (by omega) hy) hys
              rw [HQ.out] at h3; cases h3
        go_wp2_with (go_at_fn 213; refine hcall.mono ?_; rintro e w1 ⟨rfl, hb1⟩)
        go_roundw
        case rel => exact ⟨lo, m, hm1, by omega, rfl, by go_num, HLO.out, HN.out, hb.trans (hb1.mono hsz)⟩
        case measure => simp [intOf]; omega
      · have HQ := hid hq
        have hcv : decide (cmpS x.1 s < 0) = true := by unfold cmpS; rw [hq, if_pos rfl]; decide
        clear hq
        have HN : Hid (∀ (j : Nat) y, j < m + 1 → ks[j]? = some y → ltS y.1 s = true) := fun j y hj hy => by
          by_cases hjm : j = m
          · subst hjm; have h2 := HX.out; rw [hy] at h2; cases h2; exact HQ.out
          · exact ltS_trans (HLT.out j y (by omega) hy) HQ.out
        go_wp2_with (go_at_fn 213; refine hcall.mono ?_; rintro e w1 ⟨rfl, hb1⟩)
        go_roundw
        case rel => exact ⟨m + 1, hi, by omega, hhn, by go_num, rfl, HN.out, HHI.out, hb.trans (hb1.mono hsz)⟩
        case measure => simp [intOf]; omega
    · obtain rfl : lo = hi := by omega
      by_cases hn : lo < ks.length
      · obtain ⟨x, hx⟩ : ∃ x, ks[lo]? = some x := ⟨_, List.getElem?_eq_getElem hn⟩
        obtain ⟨b, off, rfl, hbB, hc⟩ := b3 (by rintro rfl; simp at hn)
        obtain ⟨cs, ⟨ve, vk, rfl, hok, hrd⟩, _, hu⟩ := hc lo _ hx
        obtain ⟨A3, n3, A4, n4, rfl, rfl⟩ := rd_shape hrd
        have e0 : wr.cell? ⟨b, off + lo * 3, none⟩ = some (.string x.1) := (hb.cell hbB).trans (hu 0 _ rfl)
        have e1 : wr.cell? ⟨b, off + lo * 3 + 1, none⟩ = some (.slice A3 x.2.es.length n3) := (hb.cell hbB).trans (hu 1 _ rfl)
        have e2 : wr.cell? ⟨b, off + lo * 3 + 2, none⟩ = some (.slice A4 x.2.ks.length n4) := (hb.cell hbB).trans (hu 2 _ rfl)
        have hcall := kidClo_any x.1 s A3 A4 x.2.es.length n3 x.2.ks.length n4 wr
        have eg := kidClo_enters
        have h0 := HHI.out lo x (Nat.le_refl _) hx
        have HX := hid hx
        have HGT : Hid (∀ (j : Nat) y, lo < j → ks[j]? = some y → ltS x.1 y.1 = true) := fun j y hj hy => by
          obtain ⟨h1, h2⟩ := List.getElem?_eq_some_iff.1 hy
          obtain ⟨h3, h4⟩ := List.getElem?_eq_some_iff.1 hx
          rw [List.pairwise_iff_getElem] at hS
          have := hS lo j h3 h1 hj
          rw [h2, h4] at this; exact this
        have H0 := hid h0
        clear hu hc b3 hx hrd hS
        rcases hq : ltS s x.1
        · have HE : Hid (x.1 = s) := ltS_total h0 hq
          have hcv : (cmpS x.1 s == 0) = true := by unfold cmpS; rw [h0, hq]; rfl
          clear h0 hq
          go_wp2_with (go_at_fn 213; refine hcall.mono ?_; rintro e w1 ⟨rfl, hb1⟩)
          go_ret2
          exact ⟨.inl ⟨lo, x.2, rfl, by rw [HX.out, ← HE.out]⟩, hb.trans (hb1.mono hsz)⟩
        · have HQ := hid hq
          have hcv : (cmpS x.1 s == 0) = false := by unfold cmpS; rw [h0, hq]; rfl
          clear h0 hq
          go_wp2_with (go_at_fn 213; refine hcall.mono ?_; rintro e w1 ⟨rfl, hb1⟩)
          go_ret2
          refine ⟨.inr ⟨lo, rfl, fun t ht => ?_⟩, hb.trans (hb1.mono hsz)⟩
          obtain ⟨j, hj⟩ := List.getElem?_of_mem ht
          rcases Nat.lt_trichotomy j lo with h1 | h1 | h1
          · have := HLO.out j _ h1 hj; rw [ltS_irrefl] at this; cases this
          · subst h1; have h2 := HX.out; rw [hj] at h2; cases h2; have := HQ.out; rw [ltS_irrefl] at this; cases this
          · have h2 := HGT.out j _ h1 hj; have h3 := H0.out; rw [h2] at h3; cases h3
      · obtain rfl : lo = ks.length := by omega
        clear b3 hS
        go_wp2_with fail
        go_ret2
        refine ⟨.inr ⟨ks.length, rfl, fun t ht => ?_⟩, hb⟩
        obtain ⟨j, hj⟩ := List.getElem?_of_mem ht
        have := HLO.out j _ (List.getElem?_eq_some_iff.1 hj).1 hj; rw [ltS_irrefl] at this; cases this
end Go.Proofs.YtlapdmgjfdelnaaGreat

namespace Go.Proofs.YtlapdmgjfdelnaaGreat
open Go.RowKit
set_option maxRecDepth 100000

/-- The call hands back a tree that lay in memory before. -/
def RetS (w : World) (t : Tr) (e : Ending) (w' : World) : Prop :=
  ∃ ve vk, e = .returned (.agg #[ve, vk]) ∧ t.rd w w.heap.size ve vk ∧ Below w.heap.size w w'
set_option maxHeartbeats 4000000 in
theorem ckid_any (t : Tr) (s : ByteArray) (ve vk : Value) (w : World) (h : t.rd w w.heap.size ve vk) (ho : t.Ord) :
    Calls Tryz.prog 175 #[.agg #[ve, vk], .string s] w (RetS w (kidT t s)) := by
  have HD := hid h
  have hS : t.ks.Pairwise fun a b => ltS a.1 b.1 = true := by obtain ⟨es, ks⟩ := t; exact (ord_iff.1 ho).2.1
  have HO := hid ho
  obtain ⟨A3, n3, A4, n4, rfl, rfl⟩ := rd_shape h
  have hb0 : Below w.heap.size w ((w.alloc (.cells #[.slice A3 t.es.length n3, .slice A4 t.ks.length n4] 25)).alloc (.cells #[.slice none 0 0, .slice none 0 0] 25)) := ((Below.refl _ w).alloc (Nat.le_refl _) _).alloc (by simp) _
  have hkl : t.ks.length ≤ 140737488355328 := by
    have h1 := HD.out; obtain ⟨es, ks⟩ := t; obtain ⟨_, _, _, _, h2, _⟩ := (rd_iff.1 h1).2; exact h2
  clear h
  go_enter Tryz.func175, Tryz.ntmps175
  go_wp2_with fail
  refine (bsf_any t.ks s _ _ (kids_slp (rd_below hb0 hb0.size t _ _ HD.out)) hS).mono ?_
  rintro e w1 ⟨he, hb1⟩
  have hs1 := hb1.size
  simp only [World.size_alloc] at hs1
  have hB1 : Below w.heap.size w w1 := hb0.trans (hb1.mono (by simp; omega))
  have g2 := (hb1.block w.heap.size (by simp; omega)).trans ((heap_old (by simp)).trans (heap_new (o := .cells #[.slice A3 t.es.length n3, .slice A4 t.ks.length n4] 25) rfl))
  have g4 := (hb1.block (w.heap.size + 1) (by simp)).trans (heap_new (w := w.alloc (.cells #[.slice A3 t.es.length n3, .slice A4 t.ks.length n4] 25)) (by simp))
  have HG4 := hid g4
  have c0 := cell_cells (i := 0) g2
  have c1 := cell_cells (i := 1) g2
  have k0 := cell_cells (i := 0) g4
  have k1 := cell_cells (i := 1) g4
  have z0 := cells_frz (i := 0) g4
  have z1 := cells_frz (i := 1) g4
  simp only [List.getElem?_toArray, List.getElem?_cons_zero, List.getElem?_cons_succ] at c0 c1 k0 k1
  clear g2 g4 hS hb1
  rcases he with ⟨i, u, rfl, hi⟩ | ⟨i, rfl, hn⟩
  · have hil : i < t.ks.length := (List.getElem?_eq_some_iff.1 hi).1
    have hKT : kidT t s = u := kidT_mem HO.out (List.mem_of_getElem? hi)
    obtain ⟨b', off', rfl, hbB', vAe, vne, vAk, vnk, HRV, q1, q2⟩ : ∃ b' off', A4 = some ⟨b', off', none⟩ ∧ b' < w.heap.size ∧ ∃ vAe vne vAk vnk, Hid (u.rd w w.heap.size (.slice vAe u.es.length vne) (.slice vAk u.ks.length vnk)) ∧ w1.cell? ⟨b', off' + i * 3 + 1, none⟩ = some (.slice vAe u.es.length vne) ∧ w1.cell? ⟨b', off' + i * 3 + 2, none⟩ = some (.slice vAk u.ks.length vnk) := by
      have h1 := HD.out
      obtain ⟨es, ks⟩ := t
      obtain ⟨Ak', ck', he, _, _, h3⟩ := (rd_iff.1 h1).2
      cases he
      obtain ⟨b', off', rfl, hbB', hc'⟩ := h3 (by rintro rfl; simp [Tr.ks] at hil)
      obtain ⟨cs, ⟨ve', vk', rfl, _, hrd'⟩, _, hu'⟩ := hc' i _ hi
      obtain ⟨vAe, vne, vAk, vnk, rfl, rfl⟩ := rd_shape hrd'
      exact ⟨b', off', rfl, hbB', vAe, vne, vAk, vnk, hrd', (hB1.cell (p := ⟨b', off' + i * 3 + 1, none⟩) hbB').trans (hu' 1 _ rfl), (hB1.cell (p := ⟨b', off' + i * 3 + 2, none⟩) hbB').trans (hu' 2 _ rfl)⟩
    have HKT := hid hKT
    clear hi hKT
    go_wp2_with fail
    have hW0 := cells_set (i := 1) (cells_set (i := 0) HG4.out (.slice vAe u.es.length vne)) (.slice vAk u.ks.length vnk)
    have r0 := (cell_cells (i := 0) hW0).trans (show _ = some (.slice vAe u.es.length vne) by simp)
    have r1 := (cell_cells (i := 1) hW0).trans (show _ = some (.slice vAk u.ks.length vnk) by simp)
    refine bodyPost_ret (v := .agg #[.slice vAe u.es.length vne, .slice vAk u.ks.length vnk]) (by simp [results, Tryz.results175, go_sem, r0, r1]) rfl ⟨_, _, rfl, (by rw [HKT.out]; exact HRV.out), (hB1.setCell (by simp) _).setCell (by simp) _⟩
  · have HKT : Hid (kidT t s = .mk [] []) := kidT_none hn
    go_wp2_with fail
    have hW0 := cells_set (i := 1) (cells_set (i := 0) HG4.out (.slice none 0 0)) (.slice none 0 0)
    have r0 := (cell_cells (i := 0) hW0).trans (show _ = some (.slice none 0 0) by simp)
    have r1 := (cell_cells (i := 1) hW0).trans (show _ = some (.slice none 0 0) by simp)
    refine bodyPost_ret (v := .agg #[.slice none 0 0, .slice none 0 0]) (by simp [results, Tryz.results175, go_sem, r0, r1]) rfl ⟨_, _, rfl, (by rw [HKT.out]; exact rd_empty), (hB1.setCell (by simp) _).setCell (by simp) _⟩
end Go.Proofs.YtlapdmgjfdelnaaGreat

namespace Go.Proofs.YtlapdmgjfdelnaaGreat
open Go.RowKit
set_option maxRecDepth 100000

def elP (x : Kd) : Bool := decide (0 < x.2.es.length)
def elL (ks : List Kd) : List ByteArray := (ks.filter elP).map (·.1)
theorem elL_take {ks : List Kd} {k : Nat} {x : Kd} (h : ks[k]? = some x) : elL (ks.take (k + 1)) = elL (ks.take k) ++ (if elP x then [x.1] else []) := by
  unfold elL
  rw [List.take_add_one, h, List.filter_append, List.map_append]
  cases hp : elP x <;> simp [hp]
theorem elL_len (ks : List Kd) : (elL ks).length ≤ ks.length := by unfold elL; rw [List.length_map]; exact List.length_filter_le _ _
/-- What set.Elems tells. -/
def elemsOf (t : Tr) : List ByteArray := if t.right 5 then elL t.ks else []
set_option maxHeartbeats 4000000 in
theorem selems_any (t : Tr) (w : World) (ve vk : Value) (h : t.rd w w.heap.size ve vk) (hN : t.ks.length ≤ 900000) :
    Calls Tryz.prog 92 #[.agg #[ve, vk]] w (RetO w 9 1 (fun _ => StE) (elemsOf t)) := by
  have HC : Hid (∀ w', Below w.heap.size w w' → t.rd w' w'.heap.size ve vk) := fun w' hb => rd_below hb hb.size _ _ _ h
  have HK0 : Hid (elemsOf t = if t.right 5 then elL t.ks else []) := rfl
  obtain ⟨es, ks⟩ := t
  rw [rd_iff] at h
  obtain ⟨⟨A0, n0, rfl, d1, d2, d3⟩, ⟨A, m, rfl, c1, c2, c3⟩⟩ := h
  unfold Big at c2 d2
  simp only [Tr.ks] at hN HK0 ⊢
  have hb0 : Below w.heap.size w (w.alloc (.cells #[.slice A0 es.length n0, .slice A ks.length m] 25)) := (Below.refl _ w).alloc (Nat.le_refl _) _
  go_enter Tryz.func92, Tryz.ntmps92
  go_wp2_with fail
  refine (tRight_any _ _ _ _ (HC.out _ hb0)).mono ?_
  rintro e w1 ⟨rfl, hb1⟩
  have hs1 := hb1.size
  simp only [World.size_alloc] at hs1
  have hB1 : Below w.heap.size w w1 := hb0.trans (hb1.mono (by simp))
  have b1 : w1.cell? ⟨w.heap.size, 1, none⟩ = some (.slice A ks.length m) := by rw [hb1.cell (p := ⟨w.heap.size, 1, none⟩) (by simp)]; simp
  cases hr : (Tr.mk es ks).right 5
  · have HK : Hid (elemsOf (.mk es ks) = []) := by unfold Hid; rw [HK0.out, hr]; rfl
    clear hr
    go_wp2_with fail
    go_ret
    exact ⟨_, rfl, by rw [HK.out]; exact OwnP.nil, hB1⟩
  have HK : Hid (elemsOf (.mk es ks) = elL ks) := by unfold Hid; rw [HK0.out, hr]; rfl
  clear hr d3 d2 d1
  go_wp2_with fail
  go_loopw [3, 11] (fun v i wr => ∃ k : Nat, k ≤ ks.length ∧ i = .int .i64 k ∧ OwnP wr (w.heap.size + 1) 9 1 StE v (elL (ks.take k)) ∧ Below (w.heap.size + 1) w1 wr) (fun _ i _ => ks.length - (intOf i).toNat)
  case atStart => exact ⟨0, Nat.zero_le _, rfl, OwnP.nil, Below.refl _ _⟩
  case round =>
    obtain ⟨k, hk, rfl, hown, hb⟩ := hrel
    have hsz := hb.size
    have hB0 : Below w.heap.size w wr := hB1.trans (hb.mono (by omega))
    by_cases hlt : k < ks.length
    · obtain ⟨⟨key, t⟩, hx⟩ : ∃ x, ks[k]? = some x := ⟨_, List.getElem?_eq_getElem hlt⟩
      obtain ⟨b, off, rfl, hbB, hc⟩ := c3 (by rintro rfl; simp at hlt)
      obtain ⟨cs, ⟨ve', vk', rfl, hkb, hrd⟩, _, hu⟩ := hc k _ hx
      have hte : t.es.length ≤ 140737488355328 := by have := fit_rd _ _ _ hrd; obtain ⟨es', ks'⟩ := t; exact this.1
      obtain ⟨A5, n5, A6, n6, rfl, rfl⟩ := rd_shape hrd
      have e0 : wr.cell? ⟨b, off + k * 3, none⟩ = some (.string key) := (hB0.cell hbB).trans (hu 0 _ rfl)
      have e1 : wr.cell? ⟨b, off + k * 3 + 1, none⟩ = some (.slice A5 t.es.length n5) := (hB0.cell hbB).trans (hu 1 _ rfl)
      have e2 : wr.cell? ⟨b, off + k * 3 + 2, none⟩ = some (.slice A6 t.ks.length n6) := (hB0.cell hbB).trans (hu 2 _ rfl)
      have HT : Hid (elL (ks.take (k + 1)) = elL (ks.take k) ++ (if elP (key, t) then [key] else [])) := elL_take hx
      have HKY : Hid (StE key [.string key]) := ⟨rfl, hkb⟩
      have hfi : decide ((0 : Int) < (t.es.length : Int)) = decide (0 < t.es.length) := by simp
      clear hu hc c3 hx hrd hb0 hb1 b1
      cases he : decide (0 < t.es.length)
      · have HX : Hid (elL (ks.take (k + 1)) = elL (ks.take k)) := by unfold Hid; rw [HT.out, show elP (key, t) = false from he]; simp
        rw [he] at hfi
        go_wp2_with fail
        go_roundw
        case rel => exact ⟨k + 1, by omega, by go_num, by rw [HX.out]; exact hown.alloc _, hb.alloc (by omega) _⟩
        case measure => simp [intOf]; omega
      · have HX : Hid (elL (ks.take (k + 1)) = elL (ks.take k) ++ [key]) := by unfold Hid; rw [HT.out, show elP (key, t) = true from he]; rfl
        have HL : Hid ((elL (ks.take k)).length + [key].length ≤ Few) := by have := elL_len (ks.take k); unfold Hid Few; simp at this ⊢; omega
        rw [he] at hfi
        go_wp2_with (at_builtin; go_loud ((with_reducible refine wpList_few rfl (.tmp 20) (.tmp 23) _ rfl eiStr (by decide) (by decide) (fun _ _ h => StE.one h) rfl ((hown.alloc _).alloc _) rfl (SlP.oneN (x := key) HKY.out rfl _ rfl) HL.out (by simp only [World.size_alloc]; omega) ?_); intro v1 w2 hown1 hb2 _; have hb3 := (((Below.refl (w.heap.size + 1) wr).alloc (by omega) _).alloc (by simp only [World.size_alloc]; omega) _).trans hb2))
        go_roundw
        case rel => exact ⟨k + 1, by omega, by go_num, by rw [HX.out]; exact hown1, hb.trans hb3⟩
        case measure => simp [intOf]; omega
    · obtain rfl : k = ks.length := by omega
      rw [List.take_of_length_le (Nat.le_refl _)] at hown
      go_wp2_with fail
      go_ret
      exact ⟨_, rfl, by rw [HK.out]; exact hown.mono (by omega), hB0⟩

/-- What tributaryref10.Less tells. -/
def lessL (l : List ByteArray) (s : ByteArray) : List ByteArray := l.filter fun x => !decide (x = s)
/-- What set.Has tells. -/
def hasE (t : Tr) (s : ByteArray) : Bool := (elemsOf t).any fun x => decide (s = x)
theorem elemsOf_len (t : Tr) : (elemsOf t).length ≤ t.ks.length := by
  unfold elemsOf
  split
  · exact elL_len _
  · simp
end Go.Proofs.YtlapdmgjfdelnaaGreat

namespace Go.Proofs.YtlapdmgjfdelnaaGreat
open Go.RowKit
set_option maxRecDepth 100000

theorem updClo_any (key x : ByteArray) (A A' : Option Addr) (n c n' c' : Nat) (B : Nat) (w : World) (hc : w.cell? ⟨B, 0, none⟩ = some (.string key)) (hB : B < w.heap.size) :
    Calls Tryz.prog 191 #[.agg #[.string x, .slice A n c, .slice A' n' c'], .pointer (some ⟨B, 0, none⟩)] w fun e w' => e = .returned (.bool (decide (x = key))) ∧ Below w.heap.size w w' := by
  have hne : B ≠ w.heap.size := by omega
  have HE : Hid ((x.toList == key.toList) = decide (x = key)) := by
    unfold Hid; rw [Bool.eq_iff_iff]; simp [bytes_inj]
  go_enter Tryz.func191, Tryz.ntmps191
  go_wp2_with fail
  go_ret
  exact ⟨ret_bool HE.out, by go_grown⟩
theorem updTest {key : ByteArray} {B : Nat} {w : World} (hc : w.cell? ⟨B, 0, none⟩ = some (.string key)) (hB : B < w.heap.size) : TestKid 191 #[.pointer (some ⟨B, 0, none⟩)] (fun x => decide (x = key)) w :=
  ⟨enters_of Tryz.func191 (by kernel_rfl) rfl, fun x A A' n c n' c' W _ hW => updClo_any key x A A' n c n' c' B W ((hW.cell (p := ⟨B, 0, none⟩) hB).trans hc) (by have := hW.size; omega)⟩
end Go.Proofs.YtlapdmgjfdelnaaGreat

namespace Go.Proofs.YtlapdmgjfdelnaaGreat
open Go.RowKit
set_option maxRecDepth 100000

set_option maxHeartbeats 1000000 in
theorem eqSps_any (a b : List Sp) (va vb : Value) (w : World) (B : Nat) (ha : SlP w B 3 SpE va a) (hb : SlP w B 3 SpE vb b) :
    Calls Tryz.prog 136 #[va, vb] w fun e w' => e = .returned (.bool (decide (a = b))) ∧ ∃ n, w' = w.drewN n := by
  obtain ⟨A1, n1, rfl, b1, b2, b3⟩ := ha
  obtain ⟨A2, n2, rfl, c1, c2, c3⟩ := hb
  unfold Big at b2 c2
  by_cases hl : a.length = b.length
  · have hl' : ((a.length : Int) != (b.length : Int)) = false := by simp [hl]
    have HL := hid hl
    clear hl
    have gg := guardSpan
    have nn := neqSpan
    go_enter Tryz.func136, Tryz.ntmps136
    go_wp2_with fail
    go_loopw [13] (fun i wr => ∃ k : Nat, k ≤ a.length ∧ i = .int .i64 k ∧ Hid (a.take k = b.take k) ∧ ∃ n, wr = w.drewN n) (fun i _ => a.length - (intOf i).toNat)
    case atStart => exact ⟨0, Nat.zero_le _, rfl, rfl, 0, rfl⟩
    case round =>
      obtain ⟨k, hk, rfl, hrel, q, rfl⟩ := hrel
      by_cases hlt : k < a.length
      · have hlt2 : k < b.length := by have := HL.out; omega
        obtain ⟨x, hx⟩ : ∃ x, a[k]? = some x := ⟨_, List.getElem?_eq_getElem hlt⟩
        obtain ⟨y, hy⟩ : ∃ y, b[k]? = some y := ⟨_, List.getElem?_eq_getElem hlt2⟩
        obtain ⟨ba, oa, rfl, hbA, hc⟩ := b3 (by rintro rfl; simp at hlt)
        obtain ⟨bb, ob, rfl, hbB, hd⟩ := c3 (by rintro rfl; simp at hlt2)
        obtain ⟨cs, ⟨rfl, hok⟩, _, hu⟩ := hc k _ hx
        obtain ⟨ds, ⟨rfl, hok2⟩, _, hv⟩ := hd k _ hy
        have e0 : w.cell? ⟨ba, oa + k * 3, none⟩ = some (.int .i64 x.dc) := hu 0 _ rfl
        have e1 : w.cell? ⟨ba, oa + k * 3 + 1, none⟩ = some (.int .i64 x.fr) := hu 1 _ rfl
        have e2 : w.cell? ⟨ba, oa + k * 3 + 2, none⟩ = some (.int .i64 x.hi) := hu 2 _ rfl
        have g0 : w.cell? ⟨bb, ob + k * 3, none⟩ = some (.int .i64 y.dc) := hv 0 _ rfl
        have g1 : w.cell? ⟨bb, ob + k * 3 + 1, none⟩ = some (.int .i64 y.fr) := hv 1 _ rfl
        have g2 : w.cell? ⟨bb, ob + k * 3 + 2, none⟩ = some (.int .i64 y.hi) := hv 2 _ rfl
        have HT := hid (take_eq_succ hx hy hrel.out)
        have HXY : Hid (a = b → x = y) := fun e => by subst e; rw [hx] at hy; exact Option.some.inj hy
        have hi1 : ((k : Int)) < (a.length : Int) := by omega
        have hi2 : ((k : Int)) < (b.length : Int) := by omega
        clear hu hv hc hd b3 c3 hx hy hok hok2
        rcases hxy : decide (x = y)
        · have hne : x ≠ y := by simpa using hxy
          go_wp2_with fail
          go_quiet (fail)
          go_wp2_with fail
          go_ret
          exact ⟨ret_bool (by simpa using fun e => hne (HXY.out e)), q + nq, by first | rfl | exact World.drewN_drewN _ _ _⟩
        · have hE := hid (of_decide_eq_true hxy)
          go_wp2_with fail
          go_quiet (fail)
          go_wp2_with fail
          go_roundw
          case rel => exact ⟨k + 1, by omega, by go_num, HT.out.2 hE.out, q + nq, by first | rfl | exact World.drewN_drewN _ _ _⟩
          case measure => simp [intOf]; omega
      · obtain rfl : k = a.length := by omega
        have HR := hid hrel.out
        clear hrel
        go_wp2_with fail
        go_ret
        refine ⟨ret_bool ?_, q, rfl⟩
        have h1 := HR.out
        rw [List.take_of_length_le (Nat.le_refl _), List.take_of_length_le (by rw [HL.out]; exact Nat.le_refl _)] at h1
        simp [h1]
  · have hl' : ((a.length : Int) != (b.length : Int)) = true := by simp; omega
    have HL := hid hl
    clear hl
    go_enter Tryz.func136, Tryz.ntmps136
    go_wp2_with fail
    go_ret
    refine ⟨ret_bool ?_, 0, rfl⟩
    have : a ≠ b := fun e => HL.out (by rw [e])
    simp [this]
set_option maxHeartbeats 1000000 in
theorem eqEnts_any (a b : List En) (va vb : Value) (w : World) (B : Nat) (ha : SlP w B 4 EnE va a) (hb : SlP w B 4 EnE vb b) :
    Calls Tryz.prog 180 #[va, vb] w fun e w' => e = .returned (.bool (decide (a = b))) ∧ ∃ n, w' = w.drewN n := by
  obtain ⟨A1, n1, rfl, b1, b2, b3⟩ := ha
  obtain ⟨A2, n2, rfl, c1, c2, c3⟩ := hb
  unfold Big at b2 c2
  by_cases hl : a.length = b.length
  · have hl' : ((a.length : Int) != (b.length : Int)) = false := by simp [hl]
    have HL := hid hl
    clear hl
    have gg := guardEntry
    have nn := neqEntry
    go_enter Tryz.func180, Tryz.ntmps180
    go_wp2_with fail
    go_loopw [13] (fun i wr => ∃ k : Nat, k ≤ a.length ∧ i = .int .i64 k ∧ Hid (a.take k = b.take k) ∧ ∃ n, wr = w.drewN n) (fun i _ => a.length - (intOf i).toNat)
    case atStart => exact ⟨0, Nat.zero_le _, rfl, rfl, 0, rfl⟩
    case round =>
      obtain ⟨k, hk, rfl, hrel, q, rfl⟩ := hrel
      by_cases hlt : k < a.length
      · have hlt2 : k < b.length := by have := HL.out; omega
        obtain ⟨x, hx⟩ : ∃ x, a[k]? = some x := ⟨_, List.getElem?_eq_getElem hlt⟩
        obtain ⟨y, hy⟩ : ∃ y, b[k]? = some y := ⟨_, List.getElem?_eq_getElem hlt2⟩
        obtain ⟨ba, oa, rfl, hbA, hc⟩ := b3 (by rintro rfl; simp at hlt)
        obtain ⟨bb, ob, rfl, hbB, hd⟩ := c3 (by rintro rfl; simp at hlt2)
        obtain ⟨cs, ⟨rfl, hok⟩, _, hu⟩ := hc k _ hx
        obtain ⟨ds, ⟨rfl, hok2⟩, _, hv⟩ := hd k _ hy
        have e0 : w.cell? ⟨ba, oa + k * 4, none⟩ = some (.int .i64 x.dc) := hu 0 _ rfl
        have e1 : w.cell? ⟨ba, oa + k * 4 + 1, none⟩ = some (.int .i64 x.n) := hu 1 _ rfl
        have e2 : w.cell? ⟨ba, oa + k * 4 + 2, none⟩ = some (.string x.s) := hu 2 _ rfl
        have e3 : w.cell? ⟨ba, oa + k * 4 + 3, none⟩ = some (.int .i64 x.v) := hu 3 _ rfl
        have g0 : w.cell? ⟨bb, ob + k * 4, none⟩ = some (.int .i64 y.dc) := hv 0 _ rfl
        have g1 : w.cell? ⟨bb, ob + k * 4 + 1, none⟩ = some (.int .i64 y.n) := hv 1 _ rfl
        have g2 : w.cell? ⟨bb, ob + k * 4 + 2, none⟩ = some (.string y.s) := hv 2 _ rfl
        have g3 : w.cell? ⟨bb, ob + k * 4 + 3, none⟩ = some (.int .i64 y.v) := hv 3 _ rfl
        have HT := hid (take_eq_succ hx hy hrel.out)
        have HXY : Hid (a = b → x = y) := fun e => by subst e; rw [hx] at hy; exact Option.some.inj hy
        have hi1 : ((k : Int)) < (a.length : Int) := by omega
        have hi2 : ((k : Int)) < (b.length : Int) := by omega
        clear hu hv hc hd b3 c3 hx hy hok hok2
        rcases hxy : decide (x = y)
        · have hne : x ≠ y := by simpa using hxy
          go_wp2_with fail
          go_quiet (fail)
          go_wp2_with fail
          go_ret
          exact ⟨ret_bool (by simpa using fun e => hne (HXY.out e)), q + nq, by first | rfl | exact World.drewN_drewN _ _ _⟩
        · have hE := hid (of_decide_eq_true hxy)
          go_wp2_with fail
          go_quiet (fail)
          go_wp2_with fail
          go_roundw
          case rel => exact ⟨k + 1, by omega, by go_num, HT.out.2 hE.out, q + nq, by first | rfl | exact World.drewN_drewN _ _ _⟩
          case measure => simp [intOf]; omega
      · obtain rfl : k = a.length := by omega
        have HR := hid hrel.out
        clear hrel
        go_wp2_with fail
        go_ret
        refine ⟨ret_bool ?_, q, rfl⟩
        have h1 := HR.out
        rw [List.take_of_length_le (Nat.le_refl _), List.take_of_length_le (by rw [HL.out]; exact Nat.le_refl _)] at h1
        simp [h1]
  · have hl' : ((a.length : Int) != (b.length : Int)) = true := by simp; omega
    have HL := hid hl
    clear hl
    go_enter Tryz.func180, Tryz.ntmps180
    go_wp2_with fail
    go_ret
    refine ⟨ret_bool ?_, 0, rfl⟩
    have : a ≠ b := fun e => HL.out (by rw [e])
    simp [this]
open Classical in
noncomputable def ksEq (a b : List Kd) : Bool := decide (a = b)
theorem ksEq_iff {a b : List Kd} : ksEq a b = true ↔ a = b := by simp [ksEq]
theorem ksEq_no {a b : List Kd} : ksEq a b = false ↔ a ≠ b := by simp [ksEq]
open Classical in
noncomputable def kdEq (a b : Kd) : Bool := decide (a = b)
theorem kdEq_iff {a b : Kd} : kdEq a b = true ↔ a = b := by simp [kdEq]
theorem kdEq_no {a b : Kd} : kdEq a b = false ↔ a ≠ b := by simp [kdEq]
/-- A test on two kids: are they alike? -/
def TestKids (g : Nat) (l m : List Kd) (w : World) : Prop :=
  (∀ args W, (callFunc g args).run Tryz.prog W = .ok (.enter g args) W) ∧
  ∀ (x : Kd) (y : Kd) (xe xk ye yk : Value) (W : World), x ∈ l → y ∈ m → Below w.heap.size w W → x.2.rd W W.heap.size xe xk → y.2.rd W W.heap.size ye yk → Calls Tryz.prog g #[.agg #[.string x.1, xe, xk], .agg #[.string y.1, ye, yk]] W fun e w' => e = .returned (.bool (kdEq x y)) ∧ Below W.heap.size W w'
set_option maxHeartbeats 2000000 in
theorem eqKids_any (g : Nat) (l m : List Kd) (vl vm : Value) (w : World) (h : SlP w w.heap.size 3 (KdE w w.heap.size) vl l) (h' : SlP w w.heap.size 3 (KdE w w.heap.size) vm m) (ht : TestKids g l m w) :
    Calls Tryz.prog 181 #[vl, vm, .func (.func g) #[] #[]] w fun e w' => e = .returned (.bool (ksEq l m)) ∧ Below w.heap.size w w' := by
  obtain ⟨A1, n1, rfl, b1, b2, b3⟩ := h
  obtain ⟨A2, n2, rfl, c1, c2, c3⟩ := h'
  obtain ⟨eg, ht⟩ := ht
  unfold Big at b2 c2
  by_cases hl : l.length = m.length
  case neg =>
    have hl' : ((l.length : Int) != (m.length : Int)) = true := by simp; omega
    have HL := hid hl
    clear hl
    go_enter Tryz.func181, Tryz.ntmps181
    go_wp2_with fail
    go_ret
    exact ⟨ret_bool (by rw [eq_comm, ksEq_no]; rintro rfl; exact HL.out rfl), Below.refl _ _⟩
  have hl' : ((l.length : Int) != (m.length : Int)) = false := by simp [hl]
  have HL := hid hl
  clear hl
  go_enter Tryz.func181, Tryz.ntmps181
  go_wp2_with fail
  go_loopw [17] (fun i wr => ∃ k : Nat, k ≤ l.length ∧ i = .int .i64 k ∧ Hid (l.take k = m.take k) ∧ Below w.heap.size w wr) (fun i _ => l.length - (intOf i).toNat)
  case atStart => exact ⟨0, Nat.zero_le _, rfl, rfl, Below.refl _ _⟩
  case round =>
    obtain ⟨k, hk, rfl, hrel, hb⟩ := hrel
    have hsz := hb.size
    by_cases hlt : k < l.length
    · have hlt2 : k < m.length := by have := HL.out; omega
      obtain ⟨⟨xk, xt⟩, hx⟩ : ∃ x, l[k]? = some x := ⟨_, List.getElem?_eq_getElem hlt⟩
      obtain ⟨⟨yk, yt⟩, hy⟩ : ∃ y, m[k]? = some y := ⟨_, List.getElem?_eq_getElem hlt2⟩
      obtain ⟨ba, oa, rfl, hbA, hc⟩ := b3 (by rintro rfl; simp at hlt)
      obtain ⟨bb, ob, rfl, hbB, hd⟩ := c3 (by rintro rfl; simp at hlt2)
      obtain ⟨cs, ⟨v1, v2, rfl, _, hrs⟩, _, hu⟩ := hc k _ hx
      obtain ⟨ds, ⟨u1, u2, rfl, _, hrt⟩, _, hv⟩ := hd k _ hy
      simp only at hrs hrt
      have e0 : wr.cell? ⟨ba, oa + k * 3, none⟩ = some (.string xk) := (hb.cell hbA).trans (hu 0 _ rfl)
      have e1 : wr.cell? ⟨ba, oa + k * 3 + 1, none⟩ = some v1 := (hb.cell hbA).trans (hu 1 _ rfl)
      have e2 : wr.cell? ⟨ba, oa + k * 3 + 2, none⟩ = some v2 := (hb.cell hbA).trans (hu 2 _ rfl)
      have g0 : wr.cell? ⟨bb, ob + k * 3, none⟩ = some (.string yk) := (hb.cell hbB).trans (hv 0 _ rfl)
      have g1 : wr.cell? ⟨bb, ob + k * 3 + 1, none⟩ = some u1 := (hb.cell hbB).trans (hv 1 _ rfl)
      have g2 : wr.cell? ⟨bb, ob + k * 3 + 2, none⟩ = some u2 := (hb.cell hbB).trans (hv 2 _ rfl)
      have HT := hid (take_eq_succ hx hy hrel.out)
      have HXY : Hid (l = m → (xk, xt) = (yk, yt)) := fun e => by rw [e] at hx; rw [hx] at hy; exact Option.some.inj hy
      have hB2 : Below w.heap.size w ((wr.alloc (.cells #[.string xk, v1, v2] 126)).alloc (.cells #[.string yk, u1, u2] 126)) := (hb.alloc hsz _).alloc (by simp; omega) _
      have hcall := ht (xk, xt) (yk, yt) v1 v2 u1 u2 _ (List.mem_of_getElem? hx) (List.mem_of_getElem? hy) hB2 (rd_below hB2 hB2.size _ _ _ hrs) (rd_below hB2 hB2.size _ _ _ hrt)
      have HB2 := hid hB2
      obtain ⟨A3, n3, A4, n4, rfl, rfl⟩ := rd_shape hrs
      obtain ⟨A5, n5, A6, n6, rfl, rfl⟩ := rd_shape hrt
      have h1 : ba < wr.heap.size := by omega
      have h2 : bb < wr.heap.size := by omega
      have h3 : bb ≠ wr.heap.size := by omega
      have hi2 : ((k : Int)) < (m.length : Int) := by omega
      clear hu hv hc hd b3 c3 hx hy hrs hrt ht hB2
      cases hq : kdEq (xk, xt) (yk, yt)
      · rw [hq] at hcall
        have HQ := hid (kdEq_no.1 hq)
        clear hq
        go_wp2_with (go_at_fn g; refine hcall.mono ?_; rintro e w1 ⟨rfl, hb1⟩)
        go_ret
        exact ⟨ret_bool (by rw [eq_comm, ksEq_no]; exact fun e => HQ.out (HXY.out e)), HB2.out.trans (hb1.mono HB2.out.size)⟩
      · rw [hq] at hcall
        have HQ := hid (kdEq_iff.1 hq)
        clear hq
        go_wp2_with (go_at_fn g; refine hcall.mono ?_; rintro e w1 ⟨rfl, hb1⟩)
        go_roundw
        case rel => exact ⟨k + 1, by omega, by go_num, HT.out.2 HQ.out, HB2.out.trans (hb1.mono HB2.out.size)⟩
        case measure => simp [intOf]; omega
    · obtain rfl : k = l.length := by omega
      have HK : Hid (l = m) := by
        have h1 := hrel.out
        rw [List.take_of_length_le (Nat.le_refl _), List.take_of_length_le (by rw [HL.out]; exact Nat.le_refl _)] at h1
        exact h1
      go_wp2_with fail
      go_ret
      exact ⟨ret_bool (by rw [eq_comm, ksEq_iff]; exact HK.out), hb⟩
end Go.Proofs.YtlapdmgjfdelnaaGreat

namespace Go.Proofs.YtlapdmgjfdelnaaGreat
open Go.RowKit
set_option maxRecDepth 100000

set_option maxHeartbeats 2000000 in
theorem tsameClo_any (x y : Kd) (xe xk ye yk : Value) (W : World) (hx : x.2.rd W W.heap.size xe xk) (hy : y.2.rd W W.heap.size ye yk)
    (hc : ∀ W', Below W.heap.size W W' → Calls Tryz.prog 134 #[.agg #[xe, xk], .agg #[ye, yk]] W' fun e w' => e = .returned (.bool (trEq x.2 y.2)) ∧ Below W'.heap.size W' w') :
    Calls Tryz.prog 182 #[.agg #[.string x.1, xe, xk], .agg #[.string y.1, ye, yk]] W fun e w' => e = .returned (.bool (kdEq x y)) ∧ Below W.heap.size W w' := by
  obtain ⟨xn, xt⟩ := x
  obtain ⟨yn, yt⟩ := y
  simp only at hx hy hc
  obtain ⟨A3, n3, A4, n4, rfl, rfl⟩ := rd_shape hx
  obtain ⟨A5, n5, A6, n6, rfl, rfl⟩ := rd_shape hy
  have hB : Below W.heap.size W ((W.alloc (.cells #[.string xn, .slice A3 xt.es.length n3, .slice A4 xt.ks.length n4] 126)).alloc (.cells #[.string yn, .slice A5 yt.es.length n5, .slice A6 yt.ks.length n6] 126)) := ((Below.refl _ W).alloc (Nat.le_refl _) _).alloc (by simp) _
  have hcall := hc _ hB
  have HB := hid hB
  clear hx hy hB hc
  rcases hxy : (xn.toList == yn.toList)
  · have hne : xn ≠ yn := fun e => by rw [e] at hxy; simp at hxy
    go_enter Tryz.func182, Tryz.ntmps182
    go_wp2_with fail
    go_ret
    exact ⟨ret_bool (by rw [eq_comm, kdEq_no]; intro e; cases e; exact hne rfl), HB.out⟩
  · have hE := hid ((bytes_inj xn yn).1 (by simpa using hxy))
    cases hst : trEq xt yt
    · have hne := trEq_no.1 hst
      rw [hst] at hcall
      clear hst
      go_enter Tryz.func182, Tryz.ntmps182
      go_wp2_with (go_at_call 134; refine hcall.mono ?_; rintro e w1 ⟨rfl, hb1⟩)
      go_ret
      exact ⟨ret_bool (by rw [eq_comm, kdEq_no]; intro e; cases e; exact hne rfl), HB.out.trans (hb1.mono HB.out.size)⟩
    · have HT := hid (trEq_iff.1 hst)
      rw [hst] at hcall
      clear hst
      go_enter Tryz.func182, Tryz.ntmps182
      go_wp2_with (go_at_call 134; refine hcall.mono ?_; rintro e w1 ⟨rfl, hb1⟩)
      go_ret
      exact ⟨ret_bool (by rw [eq_comm, kdEq_iff, hE.out, HT.out]), HB.out.trans (hb1.mono HB.out.size)⟩
set_option maxHeartbeats 2000000 in
theorem tsame_any (s : Tr) : ∀ (t : Tr) (w : World) (ve vk ue uk : Value), s.rd w w.heap.size ve vk → t.rd w w.heap.size ue uk →
    Calls Tryz.prog 134 #[.agg #[ve, vk], .agg #[ue, uk]] w fun e w' => e = .returned (.bool (trEq s t)) ∧ Below w.heap.size w w' := by
  induction s using Tr.ind with
  | h es ks ih =>
  rintro ⟨es', ks'⟩ w ve vk ue uk h h'
  have h0 := h
  have h0' := h'
  rw [rd_iff] at h h'
  obtain ⟨hes, hks⟩ := h
  obtain ⟨hes', hks'⟩ := h'
  obtain ⟨A3, n3, A4, n4, rfl, rfl⟩ := rd_shape h0
  obtain ⟨A5, n5, A6, n6, rfl, rfl⟩ := rd_shape h0'
  simp only [Tr.es, Tr.ks] at hes hks hes' hks' ⊢
  have HK : Hid (∀ w', Below w.heap.size w w' → SlP w' w'.heap.size 3 (KdE w' w'.heap.size) (.slice A4 ks.length n4) ks) := fun w' hb => (rd_iff.1 (rd_below hb hb.size _ _ _ h0)).2
  have HK' : Hid (∀ w', Below w.heap.size w w' → SlP w' w'.heap.size 3 (KdE w' w'.heap.size) (.slice A6 ks'.length n6) ks') := fun w' hb => (rd_iff.1 (rd_below hb hb.size _ _ _ h0')).2
  have hB0 : Below w.heap.size w ((w.alloc (.cells #[.slice A3 es.length n3, .slice A4 ks.length n4] 25)).alloc (.cells #[.slice A5 es'.length n5, .slice A6 ks'.length n6] 25)) := ((Below.refl _ w).alloc (Nat.le_refl _) _).alloc (by simp) _
  have HB0 := hid hB0
  have HE := hid (hes.imp hB0 hB0.size fun _ _ _ h => h)
  have HE' := hid (hes'.imp hB0 hB0.size fun _ _ _ h => h)
  have HT : Hid (∀ w', TestKids 182 ks ks' w') := fun w' => ⟨enters_of Tryz.func182 (by kernel_rfl) rfl, fun x y xe xk ye yk W hx _ _ hrx hry =>
    tsameClo_any x y xe xk ye yk W hrx hry fun W' hb => ih x.1 x.2 hx y.2 W' xe xk ye yk (rd_below hb hb.size _ _ _ hrx) (rd_below hb hb.size _ _ _ hry)⟩
  clear hes hks hes' hks' h0 h0' hB0 ih
  by_cases he : es = es'
  · have hd : decide (es = es') = true := by simpa using he
    have HD := hid hd
    have HEQ := hid he
    clear he hd
    cases hk : ksEq ks ks'
    · have HKN := hid (ksEq_no.1 hk)
      have HKV := hid hk
      clear hk
      go_enter Tryz.func134, Tryz.ntmps134
      go_wp2_with fail
      refine (eqEnts_any es es' _ _ _ _ HE.out HE'.out).mono ?_
      rw [HD.out]
      rintro e w1 ⟨rfl, q, rfl⟩
      go_wp2_with fail
      refine (eqKids_any 182 ks ks' _ _ _ (HK.out _ (below_drewN HB0.out q)) (HK'.out _ (below_drewN HB0.out q)) (HT.out _)).mono ?_
      rw [HKV.out]
      rintro e w2 ⟨rfl, hb2⟩
      go_wp2_with fail
      go_ret
      exact ⟨ret_bool (by rw [eq_comm, trEq_no]; intro e; cases e; exact HKN.out rfl), (below_drewN HB0.out q).trans (hb2.mono (below_drewN HB0.out q).size)⟩
    · have HKN := hid (ksEq_iff.1 hk)
      have HKV := hid hk
      clear hk
      go_enter Tryz.func134, Tryz.ntmps134
      go_wp2_with fail
      refine (eqEnts_any es es' _ _ _ _ HE.out HE'.out).mono ?_
      rw [HD.out]
      rintro e w1 ⟨rfl, q, rfl⟩
      go_wp2_with fail
      refine (eqKids_any 182 ks ks' _ _ _ (HK.out _ (below_drewN HB0.out q)) (HK'.out _ (below_drewN HB0.out q)) (HT.out _)).mono ?_
      rw [HKV.out]
      rintro e w2 ⟨rfl, hb2⟩
      go_wp2_with fail
      go_ret
      exact ⟨ret_bool (by rw [eq_comm, trEq_iff, HEQ.out, HKN.out]), (below_drewN HB0.out q).trans (hb2.mono (below_drewN HB0.out q).size)⟩
  · have hd : decide (es = es') = false := by simpa using he
    have HD := hid hd
    have HEQ := hid he
    clear he hd
    go_enter Tryz.func134, Tryz.ntmps134
    go_wp2_with fail
    refine (eqEnts_any es es' _ _ _ _ HE.out HE'.out).mono ?_
    rw [HD.out]
    rintro e w1 ⟨rfl, q, rfl⟩
    go_wp2_with fail
    go_ret
    exact ⟨ret_bool (by rw [eq_comm, trEq_no]; intro e; cases e; exact HEQ.out rfl), below_drewN HB0.out q⟩
/-- What tree.Same tells. -/
noncomputable def tSame (s t : Tr) : Bool := s.right 5 && (t.right 5 && trEq s t)
set_option maxHeartbeats 2000000 in
theorem tSame_any (s t : Tr) (w : World) (ve vk ue uk : Value) (h : s.rd w w.heap.size ve vk) (h' : t.rd w w.heap.size ue uk) :
    Calls Tryz.prog 82 #[.agg #[ve, vk], .agg #[ue, uk]] w fun e w' => e = .returned (.bool (tSame s t)) ∧ Below w.heap.size w w' := by
  have HS : Hid (∀ w', Below w.heap.size w w' → s.rd w' w'.heap.size ve vk) := fun w' hb => rd_below hb hb.size _ _ _ h
  have HT : Hid (∀ w', Below w.heap.size w w' → t.rd w' w'.heap.size ue uk) := fun w' hb => rd_below hb hb.size _ _ _ h'
  obtain ⟨A3, n3, A4, n4, rfl, rfl⟩ := rd_shape h
  obtain ⟨A5, n5, A6, n6, rfl, rfl⟩ := rd_shape h'
  have HX : Hid (∀ W, Below (w.heap.size + 2) ((w.alloc (.cells #[.slice A3 s.es.length n3, .slice A4 s.ks.length n4] 25)).alloc (.cells #[.slice A5 t.es.length n5, .slice A6 t.ks.length n6] 25)) W → Below w.heap.size w W ∧ w.heap.size + 2 ≤ W.heap.size ∧ W.cell? ⟨w.heap.size, 0, none⟩ = some (.slice A3 s.es.length n3) ∧ W.cell? ⟨w.heap.size, 1, none⟩ = some (.slice A4 s.ks.length n4) ∧ W.cell? ⟨w.heap.size + 1, 0, none⟩ = some (.slice A5 t.es.length n5) ∧ W.cell? ⟨w.heap.size + 1, 1, none⟩ = some (.slice A6 t.ks.length n6)) := fun W hW => by
    have g0 : W.heap[w.heap.size]? = some (.cells #[.slice A3 s.es.length n3, .slice A4 s.ks.length n4] 25 (0, 0)) := (hW.block _ (by omega)).trans ((heap_old (by simp)).trans (heap_new rfl))
    have g1 : W.heap[w.heap.size + 1]? = some (.cells #[.slice A5 t.es.length n5, .slice A6 t.ks.length n6] 25 (0, 0)) := (hW.block _ (by omega)).trans (heap_new (by simp))
    exact ⟨(((Below.refl _ w).alloc (Nat.le_refl _) _).alloc (by simp) _).trans (hW.mono (by omega)), by have := hW.size; simpa using this, cell_cells (i := 0) g0, cell_cells (i := 1) g0, cell_cells (i := 0) g1, cell_cells (i := 1) g1⟩
  clear h h'
  have h0 := (HX.out _ (Below.refl _ _)).1
  cases hs : s.right 5
  · have HR : Hid (tSame s t = false) := by unfold Hid tSame; rw [hs]; rfl
    have H1 := hid hs
    clear hs
    go_enter Tryz.func82, Tryz.ntmps82
    go_wp2_with fail
    refine (tRight_any s _ _ _ (HS.out _ h0)).mono ?_
    rw [H1.out]
    rintro e w1 ⟨rfl, hb1⟩
    go_wp2_with fail
    go_ret
    exact ⟨ret_bool HR.out.symm, h0.trans (hb1.mono h0.size)⟩
  cases ht : t.right 5
  · have HR : Hid (tSame s t = false) := by unfold Hid tSame; rw [ht]; simp
    have H1 := hid hs
    have H2 := hid ht
    clear hs ht
    go_enter Tryz.func82, Tryz.ntmps82
    go_wp2_with fail
    refine (tRight_any s _ _ _ (HS.out _ h0)).mono ?_
    rw [H1.out]
    rintro e w1 ⟨rfl, hb1⟩
    have hbk1 := hid (hb1.mono (show w.heap.size + 2 ≤ _ by simp))
    clear hb1
    obtain ⟨hB1, hs1, q0, q1, q2, q3⟩ := HX.out _ hbk1.out
    go_wp2_with fail
    refine (tRight_any t _ _ _ (HT.out _ hB1)).mono ?_
    rw [H2.out]
    rintro e w2 ⟨rfl, hb2⟩
    go_wp2_with fail
    go_ret
    exact ⟨ret_bool HR.out.symm, hB1.trans (hb2.mono (by omega))⟩
  · have HR : Hid (tSame s t = trEq s t) := by unfold Hid tSame; rw [hs, ht]; rfl
    have H1 := hid hs
    have H2 := hid ht
    clear hs ht
    go_enter Tryz.func82, Tryz.ntmps82
    go_wp2_with fail
    refine (tRight_any s _ _ _ (HS.out _ h0)).mono ?_
    rw [H1.out]
    rintro e w1 ⟨rfl, hb1⟩
    have hbk1 := hid (hb1.mono (show w.heap.size + 2 ≤ _ by simp))
    clear hb1
    obtain ⟨hB1, hs1, q0, q1, q2, q3⟩ := HX.out _ hbk1.out
    go_wp2_with fail
    refine (tRight_any t _ _ _ (HT.out _ hB1)).mono ?_
    rw [H2.out]
    rintro e w2 ⟨rfl, hb2⟩
    have hbk2 := hid (hbk1.out.trans (hb2.mono hs1))
    clear hb2 q0 q1 q2 q3 hB1
    obtain ⟨hB2, hs2, q0, q1, q2, q3⟩ := HX.out _ hbk2.out
    go_wp2_with fail
    refine (tsame_any s t _ _ _ _ _ (HS.out _ hB2) (HT.out _ hB2)).mono ?_
    rintro e w3 ⟨rfl, hb3⟩
    go_wp2_with fail
    go_ret
    exact ⟨ret_bool HR.out.symm, hB2.trans (hb3.mono (by omega))⟩
end Go.Proofs.YtlapdmgjfdelnaaGreat

namespace Go.Proofs.YtlapdmgjfdelnaaGreat
open Go.RowKit Go.Sort
set_option maxRecDepth 100000

def toBy (s : ByteArray) : List UInt8 := s.data.toList
def ofBy (l : List UInt8) : ByteArray := ⟨l.toArray⟩
theorem ofBy_toBy (s : ByteArray) : ofBy (toBy s) = s := rfl
theorem toBy_ofBy (l : List UInt8) : toBy (ofBy l) = l := rfl
theorem map_to_of (ds : List (List UInt8)) : (ds.map ofBy).map toBy = ds := by
  rw [List.map_map]
  conv => rhs; rw [← List.map_id ds]
  rfl
/-- Texts, in order. -/
def srtL (ds : List ByteArray) : List ByteArray := ((ds.map toBy).mergeSort fun x y => decide (x ≤ y)).map ofBy
/-- Texts, neighbours that are the same once. -/
def cmpL (ds : List ByteArray) : List ByteArray := (Lib.compact (ds.map toBy)).map ofBy
theorem flat_one {α : Type} (f : α → Value) (l : List α) : (l.map fun x => [f x]).flatten = l.map f := by
  induction l with
  | nil => rfl
  | cons x l ih => simp [ih]
theorem own_strs {w : World} {base : Nat} {e : TypeId} {v : Value} {ds : List ByteArray} (h : OwnP w base e 1 StE v ds) : (v = .slice none 0 0 ∧ ds = []) ∨
    ∃ b cap cur, v = .slice (some ⟨b, 0, none⟩) ds.length cap ∧ base ≤ b ∧ w.heap[b]? = some (.cells cur e (0, 0)) ∧ ds.length ≤ cap ∧ cap ≤ maxLen ∧ cur.size = cap * 1 ∧ cur.toList.take (ds.map toBy).length = (ds.map toBy).map encStr ∧ ∀ x ∈ ds, x.size ≤ Big := by
  obtain ⟨css, h1, h2, h3⟩ := h
  rcases h3 with ⟨rfl, hn⟩ | ⟨b, cap, cur, rfl, hb, hg, hnc, hm, hcs, ht⟩
  · exact .inl ⟨rfl, List.eq_nil_of_length_eq_zero hn⟩
  · refine .inr ⟨b, cap, cur, rfl, hb, hg, hnc, hm, hcs, ?_, fun x hx => ?_⟩
    · have hcss : css = ds.map fun x => [Value.string x] := by
        apply List.ext_getElem?
        intro j
        by_cases hj : j < ds.length
        · obtain ⟨cs, hcs, ⟨hcv, _⟩, _⟩ := h1.2 j ds[j] (List.getElem?_eq_getElem hj)
          rw [hcs, List.getElem?_map, List.getElem?_eq_getElem hj, hcv]; rfl
        · rw [List.getElem?_eq_none (by rw [h1.1]; omega), List.getElem?_eq_none (by simp; omega)]
      rw [Nat.mul_one, hcss, flat_one] at ht
      rw [List.length_map, ht, List.map_map]
      rfl
    · obtain ⟨j, hj⟩ := List.getElem?_of_mem hx
      obtain ⟨cs, _, ⟨_, hr⟩, _⟩ := h1.2 j x hj
      exact hr
theorem own_of {w : World} {base : Nat} {e : TypeId} {v : Value} {ts : List (List UInt8)} (h : w.ownsRow base e 1 v ts.length (ts.map encStr)) (hs : ∀ x ∈ ts, (ofBy x).size ≤ Big) : OwnP w base e 1 StE v (ts.map ofBy) := by
  refine ⟨ts.map fun l => [encStr l], ⟨by simp, fun j x hx => ?_⟩, ?_⟩
  · rw [List.getElem?_map] at hx
    obtain ⟨y, hy, rfl⟩ := Option.map_eq_some_iff.1 hx
    exact ⟨[encStr y], by rw [List.getElem?_map, hy]; rfl, ⟨rfl, hs y (List.mem_of_getElem? hy)⟩, rfl⟩
  · rw [flat_one, List.length_map]; exact h

theorem sortStr_any (ds : List ByteArray) (v : Value) (w : World) (base : Nat) (h : OwnP w base 9 1 StE v ds) (hl : ds.length ≤ 900000) (hbase : base ≤ w.heap.size) :
    Calls Tryz.prog 151 #[v] w fun e w' => e = .returned (.tuple #[]) ∧ OwnP w' base 9 1 StE v (srtL ds) ∧ Below base w w' := by
  rcases own_strs h with ⟨rfl, rfl⟩ | ⟨b, cap, cur, rfl, hb, hg, hnc, hm, hcs, ht, hz⟩
  · refine (Any.slices_Sort_string_none Tryz.sortStr none 0 w).mono ?_
    rintro e w' ⟨rfl, rfl⟩
    exact ⟨rfl, by simpa [srtL] using OwnP.nil, Below.refl _ _⟩
  · have hlt : b < w.heap.size := (Array.getElem?_eq_some_iff.1 hg).1
    have hH : Holds encStr w b 0 (ds.map toBy).toArray := holds_of_block hg ht
    have hcon := Any.slices_Sort_string Tryz.sortStr b 0 cap (ds.map toBy) w hH hlt (by rw [List.length_map]; omega)
    rw [List.length_map] at hcon
    refine Calls.mono hcon ?_
    rintro e w' ⟨rfl, n, os, rfl⟩
    have hp : ((ds.map toBy).mergeSort fun x y => decide (x ≤ y)).Perm (ds.map toBy) := List.mergeSort_perm _ _
    have hrow := ownsRow_sorted (n := n) (os := os) (ss := ds.map toBy) (ts := (ds.map toBy).mergeSort fun x y => decide (x ≤ y)) hp.length_eq hb hg (by rw [List.length_map]; exact hnc) hm hcs
    rw [← hp.length_eq] at hrow
    refine ⟨rfl, ?_, (Below.refl base w).grown (grownBy_sorted _) hbase (fun g hg => by cases hg; exact hb)⟩
    have hlen : ((ds.map toBy).mergeSort fun x y => decide (x ≤ y)).length = ds.length := by rw [hp.length_eq, List.length_map]
    have := own_of hrow (fun x hx => by
      obtain ⟨y, hy, rfl⟩ := List.mem_map.1 (hp.subset hx)
      exact hz y hy)
    rw [hlen] at this
    exact this

theorem compactStr_any (ds : List ByteArray) (v : Value) (w : World) (base : Nat) (h : OwnP w base 9 1 StE v ds) (hl : ds.length ≤ 900000) (hbase : base ≤ w.heap.size) :
    Calls Tryz.prog 152 #[v] w fun e w' => ∃ v', e = .returned v' ∧ OwnP w' base 9 1 StE v' (cmpL ds) ∧ Below base w w' := by
  rcases own_strs h with ⟨rfl, rfl⟩ | ⟨b, cap, cur, rfl, hb, hg, hnc, hm, hcs, ht, hz⟩
  · refine (Any.slices_Compact_string_empty Tryz.compactStr none 0 w).mono ?_
    rintro e w' ⟨rfl, rfl⟩
    exact ⟨_, rfl, by simpa [cmpL, Lib.compact, Lib.compactUpTo] using OwnP.nil, Below.refl _ _⟩
  · have hlt : b < w.heap.size := (Array.getElem?_eq_some_iff.1 hg).1
    have hH : Holds encStr w b 0 (ds.map toBy).toArray := holds_of_block hg ht
    have hcon := Any.slices_Compact_string Tryz.compactStr b 0 cap (ds.map toBy) w hH (by rw [List.length_map]; omega) (by rw [List.length_map]; exact hnc)
    rw [List.length_map] at hcon
    refine Calls.mono hcon ?_
    rintro e w' ⟨rfl, n, rfl⟩
    have hcl := Lib.compact_length_le (ds.map toBy)
    rw [List.length_map] at hcl
    have hm2 : ∀ x ∈ Lib.compact (ds.map toBy), x ∈ ds.map toBy := fun x hx => by
      unfold Lib.compact Lib.compactUpTo at hx
      obtain ⟨j, hj, rfl⟩ := List.mem_map.1 hx
      have hj' : j < (ds.map toBy).length := List.mem_range.1 (List.mem_filter.1 hj).1
      rw [getElem!_pos _ j (by simpa using hj')]
      simpa using List.getElem_mem hj'
    have hcm : cmpL ds = (Lib.compact (ds.map toBy)).map ofBy := rfl
    rw [hcm]
    generalize Lib.compact (ds.map toBy) = ts at hcl hm2 ⊢
    refine ⟨_, rfl, ?_, ?_⟩
    · have hF : (ts ++ List.replicate (ds.length - ts.length) []).length = ds.length := by simp; omega
      have htk := take_putCells cur (ts ++ List.replicate (ds.length - ts.length) []) (by rw [hF, hcs]; omega)
      have hheap : (putRow encStr (Sort.ahead w n) b 0 (ts ++ List.replicate (ds.length - ts.length) []).toArray).heap[b]? = some (.cells (putCells encStr 0 (ts ++ List.replicate (ds.length - ts.length) []).toArray cur) 9 (0, 0)) := by
        simp [putRow, mapBlock, Sort.ahead, Array.getElem?_modify, hg, onCells]
      refine own_of (v := .slice (some ⟨b, 0, none⟩) ts.length cap) ⟨by simp, .inr ⟨b, cap, _, rfl, hb, hheap, by omega, hm, by simp [putCells, hcs], ?_⟩⟩ (fun x hx => by
        obtain ⟨y, hy, rfl⟩ := List.mem_map.1 (hm2 x hx)
        exact hz y hy)
      have := congrArg (List.take ts.length) htk
      rw [List.take_take, hF, Nat.min_eq_left hcl, ← List.map_take, List.take_left] at this
      rw [Nat.mul_one]; exact this
    · refine (Below.refl base w).grown (w' := putRow encStr (Sort.ahead w n) b 0 (ts ++ List.replicate (ds.length - ts.length) []).toArray) (row := some b) ⟨rfl, rfl, rfl, by simp, fun k hk hne => ?_⟩ hbase (fun g hg => by cases hg; exact hb)
      have : b ≠ k := fun e => hne (by rw [e])
      simp [putRow, mapBlock, Sort.ahead, Array.getElem?_modify, this]
end Go.Proofs.YtlapdmgjfdelnaaGreat

namespace Go.Proofs.YtlapdmgjfdelnaaGreat
open Go.RowKit
set_option maxRecDepth 100000

/-- The texts of a tree's own entries. -/
def txtL (t : Tr) : List ByteArray := t.es.map (·.s)
/-- What register.Values tells. -/
def valsOf (t : Tr) : List ByteArray := cmpL (srtL (if t.right 5 then txtL t else []))
theorem srtL_len (l : List ByteArray) : (srtL l).length = l.length := by unfold srtL; rw [List.length_map, (List.mergeSort_perm _ _).length_eq, List.length_map]
set_option maxHeartbeats 4000000 in
theorem rvals_any (t : Tr) (w : World) (ve vk : Value) (h : t.rd w w.heap.size ve vk) (hN : t.es.length ≤ 900000) :
    Calls Tryz.prog 93 #[.agg #[ve, vk]] w (RetO w 9 1 (fun _ => StE) (valsOf t)) := by
  have HC : Hid (∀ w', Below w.heap.size w w' → t.rd w' w'.heap.size ve vk) := fun w' hb => rd_below hb hb.size _ _ _ h
  have HK0 : Hid (valsOf t = cmpL (srtL (if t.right 5 then t.es.map (·.s) else []))) := rfl
  obtain ⟨es, ks⟩ := t
  rw [rd_iff] at h
  obtain ⟨⟨A, m, rfl, c1, c2, c3⟩, ⟨A0, n0, rfl, d1, d2, d3⟩⟩ := h
  unfold Big at c2 d2
  simp only [Tr.es] at hN HK0 ⊢
  have hb0 : Below w.heap.size w (w.alloc (.cells #[.slice A es.length m, .slice A0 ks.length n0] 25)) := (Below.refl _ w).alloc (Nat.le_refl _) _
  go_enter Tryz.func93, Tryz.ntmps93
  go_wp2_with fail
  refine (tRight_any _ _ _ _ (HC.out _ hb0)).mono ?_
  rintro e w1 ⟨rfl, hb1⟩
  have hs1 := hb1.size
  simp only [World.size_alloc] at hs1
  have hB1 : Below w.heap.size w w1 := hb0.trans (hb1.mono (by simp))
  have b0 : w1.cell? ⟨w.heap.size, 0, none⟩ = some (.slice A es.length m) := by rw [hb1.cell (p := ⟨w.heap.size, 0, none⟩) (by simp)]; simp
  cases hr : (Tr.mk es ks).right 5
  · have HK1 : Hid (valsOf (.mk es ks) = cmpL (srtL [])) := by unfold Hid; rw [HK0.out, hr]; rfl
    obtain ⟨L, hL⟩ : ∃ L : List ByteArray, L = [] := ⟨_, rfl⟩
    have HK : Hid (valsOf (.mk es ks) = cmpL (srtL L)) := by unfold Hid; rw [hL]; exact HK1.out
    have hLl : L.length ≤ 900000 := by rw [hL]; simp
    obtain ⟨wr, hwr⟩ : ∃ wr, wr = w1 := ⟨_, rfl⟩
    subst hwr
    have hown : OwnP wr (w.heap.size + 1) 9 1 StE (.slice none 0 0) L := by rw [hL]; exact OwnP.nil
    have hB0 := hB1
    clear hr hL
    go_wp2_with fail
    refine (sortStr_any L _ wr (w.heap.size + 1) hown hLl (by omega)).mono ?_
    rintro e w2 ⟨rfl, ho2, hb2⟩
    have hs2 := hb2.size
    have hll := srtL_len L
    go_wp2_with fail
    refine (compactStr_any (srtL L) _ w2 (w.heap.size + 1) ho2 (by omega) (by omega)).mono ?_
    rintro e w3 ⟨v3, rfl, ho3, hb3⟩
    go_wp2_with fail
    go_ret
    exact ⟨_, rfl, by rw [HK.out]; exact ho3.mono (by omega), hB0.trans ((hb2.trans hb3).mono (by omega))⟩
  have HK1 : Hid (valsOf (.mk es ks) = cmpL (srtL (es.map (·.s)))) := by unfold Hid; rw [HK0.out, hr]; rfl
  clear hr d3 d2 d1
  go_wp2_with fail
  go_loopw [3, 11] (fun v i wr => ∃ k : Nat, k ≤ es.length ∧ i = .int .i64 k ∧ OwnP wr (w.heap.size + 1) 9 1 StE v ((es.take k).map (·.s)) ∧ Below (w.heap.size + 1) w1 wr) (fun _ i _ => es.length - (intOf i).toNat)
  case atStart => exact ⟨0, Nat.zero_le _, rfl, OwnP.nil, Below.refl _ _⟩
  case round =>
    obtain ⟨k, hk, rfl, hown, hb⟩ := hrel
    have hsz := hb.size
    have hB0 : Below w.heap.size w wr := hB1.trans (hb.mono (by omega))
    by_cases hlt : k < es.length
    · obtain ⟨x, hx⟩ : ∃ x, es[k]? = some x := ⟨_, List.getElem?_eq_getElem hlt⟩
      obtain ⟨b, off, rfl, hbB, hc⟩ := c3 (by rintro rfl; simp at hlt)
      obtain ⟨cs, ⟨rfl, hok⟩, _, hu⟩ := hc k _ hx
      have e0 : wr.cell? ⟨b, off + k * 4, none⟩ = some (.int .i64 x.dc) := (hB0.cell hbB).trans (hu 0 _ rfl)
      have e1 : wr.cell? ⟨b, off + k * 4 + 1, none⟩ = some (.int .i64 x.n) := (hB0.cell hbB).trans (hu 1 _ rfl)
      have e2 : wr.cell? ⟨b, off + k * 4 + 2, none⟩ = some (.string x.s) := (hB0.cell hbB).trans (hu 2 _ rfl)
      have e3 : wr.cell? ⟨b, off + k * 4 + 3, none⟩ = some (.int .i64 x.v) := (hB0.cell hbB).trans (hu 3 _ rfl)
      have HX : Hid ((es.take (k + 1)).map (·.s) = (es.take k).map (·.s) ++ [x.s]) := by unfold Hid; rw [List.take_add_one, hx]; simp
      have HL : Hid (((es.take k).map (·.s)).length + [x.s].length ≤ Few) := by unfold Hid Few; simp; omega
      have HKY : Hid (StE x.s [.string x.s]) := ⟨rfl, hok.s⟩
      clear hu hc c3 hx hb0 hb1 b0 hok
      go_wp2_with (at_builtin; go_loud ((with_reducible refine wpList_few rfl (.tmp 15) (.tmp 18) _ rfl eiStr (by decide) (by decide) (fun _ _ h => StE.one h) rfl ((hown.alloc _).alloc _) rfl (SlP.oneN (x := x.s) HKY.out rfl _ rfl) HL.out (by simp only [World.size_alloc]; omega) ?_); intro v1 w2 hown1 hb2 _; have hb3 := (((Below.refl (w.heap.size + 1) wr).alloc (by omega) _).alloc (by simp only [World.size_alloc]; omega) _).trans hb2))
      go_roundw
      case rel => exact ⟨k + 1, by omega, by go_num, by rw [HX.out]; exact hown1, hb.trans hb3⟩
      case measure => simp [intOf]; omega
    · obtain rfl : k = es.length := by omega
      rw [List.take_of_length_le (Nat.le_refl _)] at hown
      have hLl : (es.map (·.s)).length ≤ 900000 := by simp; omega
      have HK := HK1
      clear HK1 HK0 c3
      generalize es.map (·.s) = L at *
      go_wp2_with fail
      refine (sortStr_any L _ wr (w.heap.size + 1) hown hLl (by omega)).mono ?_
      rintro e w2 ⟨rfl, ho2, hb2⟩
      have hs2 := hb2.size
      have hll := srtL_len L
      go_wp2_with fail
      refine (compactStr_any (srtL L) _ w2 (w.heap.size + 1) ho2 (by omega) (by omega)).mono ?_
      rintro e w3 ⟨v3, rfl, ho3, hb3⟩
      go_wp2_with fail
      go_ret
      exact ⟨_, rfl, by rw [HK.out]; exact ho3.mono (by omega), hB0.trans ((hb2.trans hb3).mono (by omega))⟩
end Go.Proofs.YtlapdmgjfdelnaaGreat

namespace Go.Proofs.YtlapdmgjfdelnaaGreat
open Go.RowKit
set_option maxRecDepth 100000

def okT : Option ByteArray → ByteArray → Bool
  | none, _ => true
  | some q, x => ltS q x
/-- Is a text the next one? -/
def pickC (last b : Option ByteArray) (x : ByteArray) : Bool := okT last x && (match b with | none => true | some c => ltS x c)
def pickS (last b : Option ByteArray) (x : ByteArray) : Option ByteArray := if pickC last b x then some x else b
def sdGo (l : List ByteArray) : Nat → List ByteArray → List ByteArray
  | 0, out => out
  | n + 1, out => match l.foldl (pickS out.getLast?) none with | none => out | some b => sdGo l n (out ++ [b])
/-- What tributaryref10.Sorted tells. -/
def sdL (l : List ByteArray) : List ByteArray := sdGo l (l.length + 1) []
def ahT (l : List ByteArray) (last : Option ByteArray) : Nat := (l.filter fun x => okT last x).length
theorem pick_mem (l : List ByteArray) (last : Option ByteArray) : ∀ (b : Option ByteArray), (∀ e, b = some e → okT last e = true) → ∀ e, l.foldl (pickS last) b = some e → (b = some e ∨ e ∈ l) ∧ okT last e = true := by
  induction l with
  | nil => intro b hb e he; exact ⟨.inl he, hb e he⟩
  | cons x l ih =>
    intro b hb e he
    rw [List.foldl_cons] at he
    by_cases hc : pickC last b x = true
    · have e1 : pickS last b x = some x := by simp [pickS, hc]
      rw [e1] at he
      simp only [pickC, Bool.and_eq_true] at hc
      obtain ⟨h1, h2⟩ := ih (some x) (fun e he => by cases he; exact hc.1) e he
      refine ⟨.inr ?_, h2⟩
      rcases h1 with h1 | h1
      · cases h1; simp
      · exact List.mem_cons_of_mem _ h1
    · have e1 : pickS last b x = b := by simp [pickS, hc]
      rw [e1] at he
      obtain ⟨h1, h2⟩ := ih b hb e he
      refine ⟨?_, h2⟩
      rcases h1 with h1 | h1
      · exact .inl h1
      · exact .inr (List.mem_cons_of_mem _ h1)
theorem pick_min (l : List ByteArray) (last : Option ByteArray) : ∀ (b : Option ByteArray), (∀ c, b = some c → ∃ e, l.foldl (pickS last) b = some e ∧ ltS c e = false) ∧ ∀ x ∈ l, okT last x = true → ∃ e, l.foldl (pickS last) b = some e ∧ ltS x e = false := by
  induction l with
  | nil => intro b; exact ⟨fun c h => ⟨c, h, ltS_irrefl _⟩, fun _ h => by cases h⟩
  | cons y l ih =>
    intro b
    rw [List.foldl_cons]
    obtain ⟨i1, i2⟩ := ih (pickS last b y)
    refine ⟨fun c hc => ?_, fun x hx h2 => ?_⟩
    · subst hc
      by_cases hs : pickC last (some c) y = true
      · obtain ⟨e, he, hle⟩ := i1 y (by simp [pickS, hs])
        refine ⟨e, he, ?_⟩
        simp only [pickC, Bool.and_eq_true] at hs
        cases hce : ltS c e
        · rfl
        · rw [ltS_trans hs.2 hce] at hle; cases hle
      · exact i1 c (by simp [pickS, hs])
    · rcases List.mem_cons.1 hx with rfl | hx
      · cases b with
        | none =>
          have hs : pickC last none x = true := by simp [pickC, h2]
          exact i1 x (by simp [pickS, hs])
        | some c =>
          by_cases hs : pickC last (some c) x = true
          · exact i1 x (by simp [pickS, hs])
          · obtain ⟨e, he, hle⟩ := i1 c (by simp [pickS, hs])
            refine ⟨e, he, ?_⟩
            have hxc : ltS x c = false := by
              cases hxc : ltS x c
              · rfl
              · exact absurd (by simp [pickC, h2, hxc]) hs
            cases hxe : ltS x e
            · rfl
            · cases hec : ltS e c
              · have := ltS_total hec hle; rw [this] at hxe; rw [hxe] at hxc; cases hxc
              · rw [ltS_trans hxe hec] at hxc; cases hxc
      · exact i2 x hx h2
theorem okT_trans {last : Option ByteArray} {a b : ByteArray} (h : okT last a = true) (k : ltS a b = true) : okT last b = true := by
  cases last with
  | none => rfl
  | some q => exact ltS_trans h k
theorem ahT_lt {l : List ByteArray} {last : Option ByteArray} {e : ByteArray} (h : l.foldl (pickS last) none = some e) : ahT l (some e) < ahT l last := by
  obtain ⟨h1, h2⟩ := pick_mem l last none (fun _ h => by cases h) e h
  rcases h1 with h1 | h1
  · cases h1
  · exact filter_lt h1 (fun y hy => okT_trans h2 hy) h2 (ltS_irrefl _)
theorem ahT_le (l : List ByteArray) (last : Option ByteArray) : ahT l last ≤ l.length := List.length_filter_le _ _
theorem sdGo_spec (l : List ByteArray) : ∀ (n : Nat) (out : List ByteArray), ahT l out.getLast? < n → (out.Pairwise fun a b => ltS a b = true) → (∀ e ∈ out, e ∈ l) → (∀ x ∈ l, okT out.getLast? x = false → x ∈ out) →
    ((sdGo l n out).Pairwise fun a b => ltS a b = true) ∧ (∀ e ∈ sdGo l n out, e ∈ l) ∧ ∀ x ∈ l, x ∈ sdGo l n out
  | 0, _, h, _, _, _ => absurd h (Nat.not_lt_zero _)
  | n + 1, out, h, h1, h2, h3 => by
    rw [sdGo]
    cases hb : l.foldl (pickS out.getLast?) none with
    | none =>
      refine ⟨h1, h2, fun x hx => ?_⟩
      cases ho : okT out.getLast? x
      · exact h3 x hx ho
      · obtain ⟨e, he, _⟩ := (pick_min l out.getLast? none).2 x hx ho
        rw [hb] at he; cases he
    | some e =>
      obtain ⟨hm, hok⟩ := pick_mem l out.getLast? none (fun _ h => by cases h) e hb
      have hel : e ∈ l := by
        rcases hm with hm | hm
        · cases hm
        · exact hm
      have hle : (out ++ [e]).getLast? = some e := by simp
      refine sdGo_spec l n (out ++ [e]) ?_ ?_ ?_ ?_
      · rw [hle]; have := ahT_lt hb; omega
      · rw [List.pairwise_append]
        refine ⟨h1, List.pairwise_singleton _ _, fun a ha b hb' => ?_⟩
        rw [List.mem_singleton] at hb'; subst hb'
        rcases List.eq_nil_or_concat out with rfl | ⟨out', z, rfl⟩
        · cases ha
        · rw [List.concat_eq_append] at *
          rw [List.getLast?_append] at hok
          have hz : ltS z b = true := hok
          rcases List.mem_append.1 ha with ha | ha
          · exact ltS_trans ((List.pairwise_append.1 h1).2.2 a ha z (by simp)) hz
          · rw [List.mem_singleton] at ha; subst ha; exact hz
      · intro a ha
        rcases List.mem_append.1 ha with ha | ha
        · exact h2 a ha
        · rw [List.mem_singleton] at ha; subst ha; exact hel
      · intro x hx ho
        rw [hle] at ho
        have ho : ltS e x = false := ho
        cases ho' : okT out.getLast? x
        · exact List.mem_append_left _ (h3 x hx ho')
        · obtain ⟨e', he', hmn⟩ := (pick_min l out.getLast? none).2 x hx ho'
          rw [hb] at he'; cases he'
          rw [ltS_total ho hmn]; simp
theorem sdL_spec (l : List ByteArray) : ((sdL l).Pairwise fun a b => ltS a b = true) ∧ ∀ x, x ∈ sdL l ↔ x ∈ l := by
  obtain ⟨h1, h2, h3⟩ := sdGo_spec l (l.length + 1) [] (by have := ahT_le l ([] : List ByteArray).getLast?; omega) .nil (fun _ h => by cases h) (fun x _ h => by simp [okT] at h)
  exact ⟨h1, fun x => ⟨h2 x, h3 x⟩⟩

theorem ltS_to (a b : ByteArray) : ltS a b = decide (toBy a < toBy b) := by
  unfold ltS toBy
  rw [bytesLess_eq, ByteArray.toList_eq, ByteArray.toList_eq]
theorem compact_mem {zs : List (List UInt8)} (x : List UInt8) : x ∈ Lib.compact zs ↔ x ∈ zs := by
  unfold Lib.compact Lib.compactUpTo
  rw [List.mem_map]
  constructor
  · rintro ⟨j, hj, rfl⟩
    have hj' : j < zs.length := List.mem_range.1 (List.mem_filter.1 hj).1
    rw [getElem!_pos _ j (by simpa using hj')]
    simp
  · intro hx
    obtain ⟨i, hi, rfl⟩ := List.getElem_of_mem hx
    have key : ∀ i (hi : i < zs.length), ∃ j, j ∈ (List.range zs.length).filter (Lib.keeps zs.toArray) ∧ zs.toArray[j]! = zs[i] := by
      intro i
      induction i using Nat.strongRecOn with
      | ind i ih =>
        intro hi
        have hg : zs.toArray[i]! = zs[i] := by rw [getElem!_pos _ i (by simpa using hi)]; simp
        by_cases hk : Lib.keeps zs.toArray i = true
        · exact ⟨i, List.mem_filter.2 ⟨List.mem_range.2 hi, hk⟩, hg⟩
        · unfold Lib.keeps at hk
          simp only [decide_eq_true_eq, not_or, ne_eq, Decidable.not_not] at hk
          obtain ⟨j, hj, he⟩ := ih (i - 1) (by omega) (by omega)
          refine ⟨j, hj, ?_⟩
          rw [he, ← hg, hk.2, getElem!_pos _ (i - 1) (by simp; omega)]; simp
    obtain ⟨j, hj, he⟩ := key i hi
    exact ⟨j, hj, he⟩
theorem compact_sorted {zs : List (List UInt8)} (h : zs.Pairwise fun a b => a ≤ b) : (Lib.compact zs).Pairwise fun a b => a < b := by
  unfold Lib.compact Lib.compactUpTo
  rw [List.pairwise_map, List.pairwise_filter]
  have hr := List.pairwise_lt_range (n := zs.length)
  refine hr.imp_of_mem fun {i j} hi hj hij _ hk => ?_
  have hi' := List.mem_range.1 hi
  have hj' := List.mem_range.1 hj
  rw [List.pairwise_iff_getElem] at h
  unfold Lib.keeps at hk
  simp only [decide_eq_true_eq, ne_eq] at hk
  have hne : zs.toArray[j]! ≠ zs.toArray[j - 1]! := by
    rcases hk with hk | hk
    · omega
    · exact hk
  rw [getElem!_pos _ j (by simpa using hj'), getElem!_pos _ (j - 1) (by simp; omega)] at hne
  rw [getElem!_pos _ i (by simpa using hi'), getElem!_pos _ j (by simpa using hj')]
  simp only [List.getElem_toArray] at hne ⊢
  have h1 : zs[j - 1]'(by omega) ≤ zs[j] := h (j - 1) j (by omega) hj' (by omega)
  have h2 : zs[i] ≤ zs[j - 1]'(by omega) := by
    by_cases he : i = j - 1
    · subst he; exact List.le_refl _
    · exact h i (j - 1) hi' (by omega) (by omega)
  have h3 : zs[j - 1]'(by omega) < zs[j] := by
    rcases Decidable.em (zs[j - 1]'(by omega) < zs[j]) with h4 | h4
    · exact h4
    · exact absurd (List.le_antisymm (List.not_lt.1 h4) h1) hne
  rcases Decidable.em (zs[i] < zs[j]) with h4 | h4
  · exact h4
  · exact absurd h3 (List.not_lt.2 (List.le_trans (List.not_lt.1 h4) h2))
/-- The library's way and the reference's. -/
theorem sd_eq (l : List ByteArray) : cmpL (srtL l) = sdL l := by
  obtain ⟨h1, h2⟩ := sdL_spec l
  have hp : ((l.map toBy).mergeSort fun x y => decide (x ≤ y)).Perm (l.map toBy) := List.mergeSort_perm _ _
  have hs : ((l.map toBy).mergeSort fun x y => decide (x ≤ y)).Pairwise fun a b => a ≤ b := by
    have := List.pairwise_mergeSort (le := fun x y : List UInt8 => decide (x ≤ y)) (fun a b c h k => by simp only [decide_eq_true_eq] at *; exact List.le_trans h k) (fun a b => by
      simp only [Bool.or_eq_true, decide_eq_true_eq]; exact List.le_total a b) (l.map toBy)
    exact this.imp fun h => by simpa using h
  have hc : cmpL (srtL l) = (Lib.compact ((l.map toBy).mergeSort fun x y => decide (x ≤ y))).map ofBy := by
    unfold cmpL srtL; rw [map_to_of]
  rw [hc]
  refine sorted_ext (r := ltS) ltS_irrefl (fun _ _ _ => ltS_trans) ?_ h1 fun x => ?_
  · rw [List.pairwise_map]
    exact (compact_sorted hs).imp fun h => by rw [ltS_to, toBy_ofBy, toBy_ofBy]; simpa using h
  · rw [h2, List.mem_map]
    constructor
    · rintro ⟨y, hy, rfl⟩
      obtain ⟨z, hz, rfl⟩ := List.mem_map.1 (hp.subset ((compact_mem y).1 hy))
      exact hz
    · intro hx
      exact ⟨toBy x, (compact_mem _).2 (hp.symm.subset (List.mem_map.2 ⟨x, hx, rfl⟩)), rfl⟩
end Go.Proofs.YtlapdmgjfdelnaaGreat

namespace Go.Proofs.YtlapdmgjfdelnaaGreat
open Go.RowKit
set_option maxRecDepth 100000

end Go.Proofs.YtlapdmgjfdelnaaGreat

namespace Go.Proofs
open Go.Shelf
def Tryz.sortRun_ren : Go.Shelf.Ren := ⟨fun | 6 => 169 | 15 => 198 | 14 => 207 | 28 => 232 | 29 => 233 | 20 => 236 | 21 => 237 | 22 => 238 | 23 => 239 | 24 => 240 | 25 => 241 | 26 => 242 | 27 => 243 | 46 => 254 | 47 => 250 | 48 => 251 | 49 => 255 | 50 => 256 | 57 => 259 | n => n, fun | 22 => 169 | 24 => 201 | 25 => 204 | 3 => 3 | 39 => 224 | 0 => 0 | 53 => 256 | 55 => 258 | 4 => 4 | 46 => 249 | 45 => 248 | 50 => 238 | 5 => 5 | 9 => 9 | 66 => 270 | 70 => 274 | 76 => 279 | 77 => 280 | n => n, fun | n => n⟩
theorem Tryz.sortRun : Go.Proofs.SlLaysF0.n6 Tryz.prog Tryz.sortRun_ren := {
  mixed := by kernel_rfl
  f6 := ⟨Tryz.f169.name, by decide, Tryz.func169.trans (congrArg some (by kernel_rfl))⟩
  f14 := ⟨Tryz.f207.name, by decide, Tryz.func207.trans (congrArg some (by kernel_rfl))⟩
  f15 := Tryz.func198.trans (congrArg some (by kernel_rfl))
  f20 := ⟨Tryz.f236.name, by decide, Tryz.func236.trans (congrArg some (by kernel_rfl))⟩
  f21 := ⟨Tryz.f237.name, by decide, Tryz.func237.trans (congrArg some (by kernel_rfl))⟩
  f22 := ⟨Tryz.f238.name, by decide, Tryz.func238.trans (congrArg some (by kernel_rfl))⟩
  f23 := ⟨Tryz.f239.name, by decide, Tryz.func239.trans (congrArg some (by kernel_rfl))⟩
  f24 := ⟨Tryz.f240.name, by decide, Tryz.func240.trans (congrArg some (by kernel_rfl))⟩
  f25 := ⟨Tryz.f241.name, by decide, Tryz.func241.trans (congrArg some (by kernel_rfl))⟩
  f26 := ⟨Tryz.f242.name, by decide, Tryz.func242.trans (congrArg some (by kernel_rfl))⟩
  f27 := ⟨Tryz.f243.name, by decide, Tryz.func243.trans (congrArg some (by kernel_rfl))⟩
  f28 := Tryz.func232.trans (congrArg some (by kernel_rfl))
  f29 := Tryz.func233.trans (congrArg some (by kernel_rfl))
  f46 := ⟨Tryz.f254.name, by decide, Tryz.func254.trans (congrArg some (by kernel_rfl))⟩
  f47 := Tryz.func250.trans (congrArg some (by kernel_rfl))
  f48 := Tryz.func251.trans (congrArg some (by kernel_rfl))
  f49 := ⟨Tryz.f255.name, by decide, Tryz.func255.trans (congrArg some (by kernel_rfl))⟩
  f50 := ⟨Tryz.f256.name, by decide, Tryz.func256.trans (congrArg some (by kernel_rfl))⟩
  f57 := ⟨Tryz.f259.name, by decide, Tryz.func259.trans (congrArg some (by kernel_rfl))⟩
  t0 := Tryz.underlying0
  a0 := Tryz.isAgg0
  z0 := Tryz.sizeOf0
  v0 := Tryz.zeroValue0
  t3 := Tryz.underlying3
  a3 := Tryz.isAgg3
  z3 := Tryz.sizeOf3
  v3 := Tryz.zeroValue3
  t4 := Tryz.underlying4
  a4 := Tryz.isAgg4
  z4 := Tryz.sizeOf4
  v4 := Tryz.zeroValue4
  t5 := Tryz.underlying5
  a5 := Tryz.isAgg5
  z5 := Tryz.sizeOf5
  v5 := Tryz.zeroValue5
  t9 := Tryz.underlying9
  a9 := Tryz.isAgg9
  z9 := Tryz.sizeOf9
  v9 := Tryz.zeroValue9
  t22 := Tryz.underlying169
  a22 := Tryz.isAgg169
  z22 := Tryz.sizeOf169
  v22 := Tryz.zeroValue169
  t25 := Tryz.underlying204
  a25 := Tryz.isAgg204
  z25 := Tryz.sizeOf204
  v25 := Tryz.zeroValue204
  t39 := Tryz.underlying224
  a39 := Tryz.isAgg224
  z39 := Tryz.sizeOf224
  v39 := Tryz.zeroValue224
  t45 := Tryz.underlying248
  a45 := Tryz.isAgg248
  z45 := Tryz.sizeOf248
  v45 := Tryz.zeroValue248
  t46 := Tryz.underlying249
  a46 := Tryz.isAgg249
  z46 := Tryz.sizeOf249
  v46 := Tryz.zeroValue249
  t50 := Tryz.underlying238
  a50 := Tryz.isAgg238
  z50 := Tryz.sizeOf238
  v50 := Tryz.zeroValue238
  t53 := Tryz.underlying256
  a53 := Tryz.isAgg256
  z53 := Tryz.sizeOf256
  v53 := Tryz.zeroValue256
  t55 := Tryz.underlying258
  a55 := Tryz.isAgg258
  z55 := Tryz.sizeOf258
  v55 := Tryz.zeroValue258
  t66 := Tryz.underlying270
  a66 := Tryz.isAgg270
  z66 := Tryz.sizeOf270
  v66 := Tryz.zeroValue270
  t70 := Tryz.underlying274
  a70 := Tryz.isAgg274
  z70 := Tryz.sizeOf274
  v70 := Tryz.zeroValue274
  t76 := Tryz.underlying279
  a76 := Tryz.isAgg279
  z76 := Tryz.sizeOf279
  v76 := Tryz.zeroValue279
  t77 := Tryz.underlying280
  a77 := Tryz.isAgg280
  z77 := Tryz.sizeOf280
  v77 := Tryz.zeroValue280 }
end Go.Proofs

namespace Go.Proofs.YtlapdmgjfdelnaaGreat
open Go.RowKit Go.Sort
set_option maxRecDepth 100000

theorem heap_rowK {w : World} {g n : Nat} {os : Array Obj} {cur : Array Value} {e : TypeId} {fr : Nat × Nat} (F : Array Value) (hb : w.heap[g]? = some (.cells cur e fr)) :
    (grow (putRow id (Sort.ahead w n) g 0 F) os).heap[g]? = some (.cells (putCells id 0 F cur) e fr) := by
  have hg : g < w.heap.size := (Array.getElem?_eq_some_iff.1 hb).1
  rw [heap_grow_old _ _ (by simpa using hg)]
  simp [putRow, mapBlock, Sort.ahead, Array.getElem?_modify, hb, onCells]
theorem grownBy_rowK {w : World} {g n : Nat} {os : Array Obj} (F : Array Value) : w.grownBy (grow (putRow id (Sort.ahead w n) g 0 F) os) (some g) := by
  refine ⟨rfl, rfl, rfl, by simp, fun k hk hne => ?_⟩
  rw [heap_grow_old _ _ (by simpa using hk)]
  have : g ≠ k := fun e => hne (by rw [e])
  simp [putRow, mapBlock, Sort.ahead, Array.getElem?_modify, this]

def encR {α : Type} (en : α → Int × Int) (x : α) : List Value := [.int .i64 (en x).1, .int .i64 (en x).2]
theorem flatten_two {α : Type} [Inhabited α] (en : α → Int × Int) (l : List α) (j : Nat) (hj : j < l.length * 2) : (l.map (encR en)).flatten[j]? = some ((encR en l[j / 2]!)[j % 2]!) := by
  have hm : j % 2 < 2 := Nat.mod_lt _ (by omega)
  have hd : j = j / 2 * 2 + j % 2 := by omega
  have hf := flat_at (sz := 2) (l.map (encR en)) (fun cs h => by obtain ⟨x, _, rfl⟩ := List.mem_map.1 h; rfl) (j / 2) (j % 2) hm
  rw [← hd] at hf
  have hlt : j / 2 < l.length := by omega
  rw [hf, List.getElem?_map, List.getElem?_eq_getElem hlt]
  simp only [Option.map_some, Option.bind_some]
  rw [getElem!_pos l (j / 2) hlt]
  rcases (show j % 2 = 0 ∨ j % 2 = 1 by omega) with e | e <;> rw [e] <;> rfl

theorem sortRun_any {α : Type} [Inhabited α] (en : α → Int × Int) (cf : α → α → Int) (hO : SWO (ltOf cf)) (g : Nat) (eg : ∀ args w, (callFunc g args).run Tryz.prog w = .ok (.enter g args) w)
    (hc : ∀ (x y : α) (W : World), Calls Tryz.prog g #[.agg #[.int .i64 (en x).1, .int .i64 (en x).2], .agg #[.int .i64 (en y).1, .int .i64 (en y).2]] W fun e w' => e = .returned (.int .i64 (cf x y)) ∧ ∃ q os', w' = grow (W.drewN q) os')
    (ds : List α) (v : Value) (w : World) (base : Nat) (h : OwnP w base 201 2 RuE v (ds.map en)) (hl : ds.length ≤ 900000) (hbase : base ≤ w.heap.size) :
    Calls Tryz.prog 169 #[v, .func (.func g) #[] #[]] w fun e w' => e = .returned (.tuple #[]) ∧
      ∃ ts : List α, ts.Perm ds ∧ ts.Pairwise (fun a b => 0 ≤ cf b a) ∧ OwnP w' base 201 2 RuE v (ts.map en) ∧ Below base w w' := by
  obtain ⟨css, h1, h2, h3⟩ := h
  rcases h3 with ⟨rfl, hn⟩ | ⟨b, cap, cur, rfl, hb, hg, hnc, hm, hcs, ht⟩
  · obtain rfl : ds = [] := by simpa using hn
    refine (AnyF.slices_SortFunc_none Tryz.sortRun none 0 (.func (.func g) #[] #[]) w).mono ?_
    rintro e w' ⟨rfl, rfl⟩
    exact ⟨rfl, [], List.Perm.refl _, List.Pairwise.nil, OwnP.nil, Below.refl _ _⟩
  · have hlt : b < w.heap.size := (Array.getElem?_eq_some_iff.1 hg).1
    have hlen : (ds.map en).length = ds.length := List.length_map ..
    rw [hlen] at h2 hnc ht ⊢
    have hcss : css = ds.map (encR en) := by
      apply List.ext_getElem?
      intro j
      by_cases hj : j < ds.length
      · obtain ⟨cs, hcs, ⟨hcv, _⟩, _⟩ := h1.2 j (en ds[j]) (by rw [List.getElem?_map, List.getElem?_eq_getElem hj]; rfl)
        rw [hcs, List.getElem?_map, List.getElem?_eq_getElem hj, hcv]; rfl
      · rw [List.getElem?_eq_none (by rw [h1.1, hlen]; omega), List.getElem?_eq_none (by simp; omega)]
    have hok : ∀ x ∈ ds, I64 (en x).1 ∧ I64 (en x).2 := fun x hx => by
      obtain ⟨j, hj⟩ := List.getElem?_of_mem hx
      obtain ⟨cs, _, ⟨_, hr⟩, _⟩ := h1.2 j (en x) (by rw [List.getElem?_map, hj]; rfl)
      exact hr
    have hH : HoldsK (encR en) 2 w b 0 ds.toArray := by
      intro j hj
      have hj : j < ds.length * 2 := by simpa using hj
      refine ⟨?_, by simp [World.frozen?, hg]⟩
      rw [get_flatK _ _ _ _ (by simpa using hj), Nat.zero_add, show (w.cell? ⟨b, j, none⟩) = cur[j]? from by simp [World.cell?, hg]]
      have hf := flatten_two en ds j hj
      rw [← hcss, ← ht, List.getElem?_take_of_lt hj, Array.getElem?_toList] at hf
      rw [hf]; simp
    have hcon := AnyQ.slices_SortFunc Tryz.sortRun 2 Tryz.isAgg201 Tryz.sizeOf201 (encR en) (fun _ => rfl) (fun x u hu => by simp [encR] at hu; rcases hu with rfl | rfl <;> rfl) cf hO g #[] b 0 cap ds.toArray w eg
      (fun m os dk _ x y => hc x y _) hH hlt (by simp; omega)
    have hcon' : Calls Tryz.prog 169 #[.slice (some ⟨b, 0, none⟩) ds.length cap, .func (.func g) #[] #[]] w _ := hcon
    refine hcon'.mono ?_
    rintro e w' ⟨rfl, d', n, os, hp, hs, rfl⟩
    have hsz : d'.size = ds.length := by simpa using hp.1
    have hperm : d'.toList.Perm ds := by
      have := hp.2.2
      rw [show ds.toArray.extract 0 ds.toArray.size = ds.toArray by simp, show d'.extract 0 ds.toArray.size = d' by rw [show ds.toArray.size = d'.size by simp [hsz]]; simp] at this
      simpa using this
    refine ⟨rfl, d'.toList, hperm, ?_, ⟨d'.toList.map (encR en), ⟨by simp, fun j x hx => ?_⟩, ?_⟩, ?_⟩
    · rw [List.pairwise_iff_getElem]
      intro i j hi hj hij
      have hj' : j < d'.size := by simpa using hj
      have h4 := hs i j (Nat.zero_le _) hij (by simp; omega)
      rw [getElem!_pos d' i (by omega), getElem!_pos d' j hj'] at h4
      simp only [ltOf, decide_eq_false_iff_not, Int.not_lt] at h4
      simpa using h4
    · rw [List.getElem?_map] at hx
      obtain ⟨y, hy, rfl⟩ := Option.map_eq_some_iff.1 hx
      refine ⟨encR en y, by rw [List.getElem?_map, hy]; rfl, ⟨rfl, hok y (hperm.subset (List.mem_of_getElem? hy))⟩, rfl⟩
    · have hlm : (d'.toList.map en).length = ds.length := by simp [hsz]
      rw [hlm]
      refine ⟨by rw [flat_len (sz := 2) _ (fun cs h => by obtain ⟨x, _, rfl⟩ := List.mem_map.1 h; rfl)]; simp [hsz], .inr ⟨b, cap, _, rfl, hb, heap_rowK _ hg, hnc, hm, by simp [putCells, hcs], ?_⟩⟩
      apply List.ext_getElem?
      intro j
      by_cases hj : j < ds.length * 2
      · have hjc : j < cur.size := by rw [hcs]; have := Nat.mul_le_mul_right 2 hnc; omega
        rw [List.getElem?_take_of_lt hj, Array.getElem?_toList, flatten_two en d'.toList j (by simp [hsz]; omega)]
        simp only [putCells, Array.getElem?_mapIdx, Array.getElem?_eq_getElem hjc, Option.map_some]
        rw [if_pos ⟨Nat.zero_le _, by simp [hsz]; omega⟩, Nat.sub_zero, id, get_flatK _ _ _ _ (by rw [hsz]; exact hj)]
        simp only [Array.getElem!_toList]
      · rw [List.getElem?_take_eq_none (by omega), List.getElem?_eq_none (by rw [flat_len (sz := 2) _ (fun cs h => by obtain ⟨x, _, rfl⟩ := List.mem_map.1 h; rfl)]; simp [hsz]; omega)]
    · exact (Below.refl base w).grown (grownBy_rowK _) hbase (fun g hg => by cases hg; exact hb)
end Go.Proofs.YtlapdmgjfdelnaaGreat

namespace Go.Proofs.YtlapdmgjfdelnaaGreat
open Go.RowKit Go.Sort
set_option maxRecDepth 100000

theorem cmpLo_lt (x y : Int) : ltOf cmpI x y = decide (x < y) := by
  unfold ltOf cmpI
  by_cases h1 : x < y
  · simp [h1]
  · by_cases h2 : y < x <;> simp [h1, h2]
theorem swoI : SWO (ltOf cmpI) where
  irrefl x := by rw [cmpLo_lt]; simp
  trans x y z h1 h2 := by rw [cmpLo_lt] at *; simp at *; omega
  ntrans x y z h1 h2 := by rw [cmpLo_lt] at *; simp at *; omega
theorem cmpI_nonneg (a b : Int) : 0 ≤ cmpI b a ↔ a ≤ b := by
  unfold cmpI; split <;> (try split) <;> omega

theorem ofClo_any (x y : Int × Int) (W : World) : Calls Tryz.prog 170 #[.agg #[.int .i64 x.1, .int .i64 x.2], .agg #[.int .i64 y.1, .int .i64 y.2]] W fun e w' => e = .returned (.int .i64 (cmpI x.1 y.1)) ∧ ∃ q os', w' = grow (W.drewN q) os' := by
  go_enter Tryz.func170, Tryz.ntmps170
  go_wp2_with (go_at_call 171; refine (cmp64_any _ _ _).mono ?_; rintro e w' ⟨rfl, rfl⟩)
  go_ret
  exact ⟨rfl, 0, _, by rw [alloc_eq_grow, alloc_eq_grow, grow_grow]; rfl⟩

def dup (n : Int) : Int × Int := (n, n)
/-- Sorted numbers, joined: the reference's set. -/
theorem join_of {ns ts : List Int} (hn : ∀ x ∈ ns, numB x = true) (hp : ts.Perm ns) (hs : ts.Pairwise fun a b => a ≤ b) : joinL (ts.map dup) = ofL ns := by
  have hn' : ∀ x ∈ ns, 1 ≤ x ∧ x ≤ 1099511627776 := fun x hx => by simpa [numB] using hn x hx
  obtain ⟨a1, a2⟩ := ofL_right hn'
  obtain ⟨b1, b2⟩ := joinL_right (l := ts.map dup) (fun r hr => by
    obtain ⟨x, hx, rfl⟩ := List.mem_map.1 hr
    have := hn' x (hp.subset hx)
    exact ⟨this.1, Int.le_refl _, this.2⟩) (List.pairwise_map.2 hs)
  refine runs_eq _ _ none none b1 a1 fun n => ?_
  rw [b2, Bool.eq_iff_iff, a2]
  unfold hasL
  rw [List.any_eq_true]
  constructor
  · rintro ⟨r, hr, h⟩
    obtain ⟨x, hx, rfl⟩ := List.mem_map.1 hr
    have h2 : x ≤ n ∧ n ≤ x := by
      have h3 : (decide (x ≤ n) && decide (n ≤ x)) = true := h
      simpa using h3
    obtain rfl : n = x := by omega
    exact hp.subset hx
  · intro h
    exact ⟨dup n, List.mem_map.2 ⟨n, hp.symm.subset h, rfl⟩, by simp [dup, inR]⟩

set_option maxHeartbeats 1000000 in
theorem sof_any (ns : List Int) (v : Value) (w : World) (h : SlP w w.heap.size 1 InE v ns) (hn : ∀ x ∈ ns, numB x = true) (hN : ns.length ≤ 400000) :
    Calls Tryz.prog 129 #[v] w fun e w' => ∃ v', e = .returned (.tuple #[v', .int .i64 0]) ∧ OwnP w' w.heap.size 201 2 RuE v' (ofL ns) ∧ Below w.heap.size w w' := by
  obtain ⟨A, c, rfl, b1, b2, b3⟩ := h
  unfold Big at b2
  go_enter Tryz.func129, Tryz.ntmps129
  go_wp2_with fail
  go_loopw [4, 9] (fun v i wr => ∃ k : Nat, k ≤ ns.length ∧ i = .int .i64 k ∧ OwnP wr w.heap.size 201 2 RuE v ((ns.take k).map dup) ∧ Below w.heap.size w wr) (fun _ i _ => ns.length - (intOf i).toNat)
  case atStart => exact ⟨0, Nat.zero_le _, rfl, OwnP.nil, Below.refl _ _⟩
  case round =>
    obtain ⟨k, hk, rfl, hown, hb⟩ := hrel
    have hsz := hb.size
    by_cases hlt : k < ns.length
    · obtain ⟨x, hx⟩ : ∃ x, ns[k]? = some x := ⟨_, List.getElem?_eq_getElem hlt⟩
      obtain ⟨b, off, rfl, hbB, hc⟩ := b3 (by rintro rfl; simp at hlt)
      obtain ⟨cs, ⟨rfl, hok⟩, _, hu⟩ := hc k _ hx
      have e0 : wr.cell? ⟨b, off + k, none⟩ = some (.int .i64 x) := (hb.cell hbB).trans (by simpa using hu 0 _ rfl)
      have HB := hid (hn x (List.mem_of_getElem? hx))
      have HX : Hid ((ns.take (k + 1)).map dup = (ns.take k).map dup ++ [dup x]) := by unfold Hid; rw [take_succ' hx, List.map_append]; rfl
      have HRE : Hid (RuE (dup x) [.int .i64 x, .int .i64 x]) := ⟨rfl, hok, hok⟩
      have HL : Hid (((ns.take k).map dup).length + [dup x].length ≤ Few) := by unfold Hid Few; simp; omega
      clear hu hx hc b3 hok
      go_wp2_with (first | (go_at_call 168; refine (snum_any _ _).mono ?_; rw [HB.out]; rintro e w' ⟨rfl, rfl⟩) | (at_builtin; with_reducible refine wpList_few rfl (.tmp 16) (.tmp 20) _ rfl eiRun (by decide) (by decide) (fun _ _ h => h.one) rfl (hown.alloc _) rfl (SlP.one (x := dup x) HRE.out rfl _ rfl) HL.out (by rw [World.size_alloc]; omega) ?_; intro v1 w1 hown1 hb1 _))
      go_roundw
      case rel => exact ⟨k + 1, by omega, by go_num, by rw [HX.out]; exact hown1, hb.trans (((Below.refl _ _).alloc (by omega) _).trans hb1)⟩
      case measure => simp [intOf]; omega
    · obtain rfl : k = ns.length := by omega
      rw [List.take_of_length_le (Nat.le_refl _)] at hown
      have HC : Hid (∀ W base v, OwnP W base 201 2 RuE v (ns.map dup) → base ≤ W.heap.size → Calls Tryz.prog 169 #[v, .func (.func 170) #[] #[]] W fun e w' => e = .returned (.tuple #[]) ∧
        ∃ ts : List Int, ts.Perm ns ∧ ts.Pairwise (fun a b => a ≤ b) ∧ OwnP w' base 201 2 RuE v (ts.map dup) ∧ Below base W w') := fun W base v ho hbs =>
          (sortRun_any dup cmpI swoI 170 (enters_of Tryz.func170 (by kernel_rfl) rfl) (fun x y W => ofClo_any (dup x) (dup y) W) ns v W base ho (by omega) hbs).mono fun e w' ⟨he, ts, h1, h2, h3, h4⟩ =>
            ⟨he, ts, h1, h2.imp fun h => (cmpI_nonneg _ _).1 h, h3, h4⟩
      have HN := hid hn
      clear hn b3
      go_wp2_with fail
      refine (HC.out _ _ _ hown hsz).mono ?_
      rintro e w1 ⟨rfl, ts, hp, hs, ho1, hb1⟩
      have HJ := hid (join_of HN.out hp hs)
      have hs1 := hb1.size
      have hlen : ts.length = ns.length := hp.length_eq
      have hsl := ho1.sl (by rw [List.length_map, hlen]; unfold Big; omega)
      have hro : RunsOk (ts.map dup) := fun r hr => by
        obtain ⟨x, hx, rfl⟩ := List.mem_map.1 hr
        have := HN.out x (hp.subset hx)
        simp [numB] at this
        simp [dup]; omega
      have HRO := hid hro
      have HL1 : Hid ((ts.map dup).length ≤ 900000) := by unfold Hid; rw [List.length_map, hlen]; omega
      clear hp hs hro hlen ho1 hown
      go_wp2_with fail
      refine (sjoined_any (ts.map dup) _ w1 hsl HL1.out HRO.out).mono ?_
      rintro e w2 ⟨v2, rfl, ho2, hb2⟩
      rw [HJ.out] at ho2
      go_wp2_with fail
      go_ret2
      exact ⟨_, rfl, ho2.mono (by omega), (hb.trans hb1).trans (hb2.mono (by omega))⟩
end Go.Proofs.YtlapdmgjfdelnaaGreat

namespace Go.Proofs.YtlapdmgjfdelnaaGreat
open Go.RowKit Go.Sort
set_option maxRecDepth 100000

def cmpR (x y : Int × Int) : Int := cmpI x.1 y.1
theorem cmpR_lt (x y : Int × Int) : ltOf cmpR x y = decide (x.1 < y.1) := cmpLo_lt x.1 y.1
theorem swoR : SWO (ltOf cmpR) where
  irrefl x := by rw [cmpR_lt]; simp
  trans x y z h1 h2 := by rw [cmpR_lt] at *; simp at *; omega
  ntrans x y z h1 h2 := by rw [cmpR_lt] at *; simp at *; omega
theorem unionClo_any (x y : Int × Int) (W : World) : Calls Tryz.prog 216 #[.agg #[.int .i64 x.1, .int .i64 x.2], .agg #[.int .i64 y.1, .int .i64 y.2]] W fun e w' => e = .returned (.int .i64 (cmpR x y)) ∧ ∃ q os', w' = grow (W.drewN q) os' := by
  go_enter Tryz.func216, Tryz.ntmps216
  go_wp2_with (go_at_call 171; refine (cmp64_any _ _ _).mono ?_; rintro e w' ⟨rfl, rfl⟩)
  go_ret
  exact ⟨rfl, 0, _, by rw [alloc_eq_grow, alloc_eq_grow, grow_grow]; rfl⟩

theorem runsOk_of {l : List (Int × Int)} (h : ∀ r ∈ l, runOk r) : RunsOk l := fun r hr => by
  have := h r hr; unfold runOk at this; omega
theorem runs_ok' : ∀ (l : List (Int × Int)) (p : Option Int), runsR p l = true → ∀ r ∈ l, runOk r
  | x :: l, p, h, r, hr => by
    rw [runsR_iff] at h
    rcases List.mem_cons.1 hr with rfl | hr
    · exact h.1
    · exact runs_ok' l _ h.2.2 r hr
/-- Runs of both, sorted and joined: the reference's union. -/
theorem join_union {a b ts : List (Int × Int)} (ha : runsR none a = true) (hb : runsR none b = true) (hp : ts.Perm (a ++ b)) (hs : ts.Pairwise fun x y => x.1 ≤ y.1) : joinL ts = byL a b 0 := by
  have oa := runs_ok' a none ha
  have ob := runs_ok' b none hb
  have ot : ∀ r ∈ ts, runOk r := fun r hr => by
    rcases List.mem_append.1 (hp.subset hr) with h | h
    · exact oa r h
    · exact ob r h
  obtain ⟨a1, a2⟩ := joinL_right ot hs
  obtain ⟨b1, b2⟩ := byL_right 0 oa ob
  refine runs_eq _ _ none none a1 b1 fun n => ?_
  rw [a2, b2]
  have : hasL ts n = hasL (a ++ b) n := by
    unfold hasL
    rw [Bool.eq_iff_iff, List.any_eq_true, List.any_eq_true]
    exact ⟨fun ⟨r, h1, h2⟩ => ⟨r, hp.subset h1, h2⟩, fun ⟨r, h1, h2⟩ => ⟨r, hp.symm.subset h1, h2⟩⟩
  rw [this, hasL_app]
  simp [inn]

theorem sboth_any (a b : List (Int × Int)) (va vb : Value) (w : World) (ha : SlP w w.heap.size 2 RuE va a) (hb : SlP w w.heap.size 2 RuE vb b) :
    Calls Tryz.prog 199 #[va, vb] w fun e w' => e = .returned (.bool (runsR none a && runsR none b)) ∧ Below w.heap.size w w' := by
  have HB := hid hb
  go_enter Tryz.func199, Tryz.ntmps199
  go_wp2_with fail
  refine (sright_any a va w ha).mono ?_
  rintro e w1 ⟨rfl, hb1⟩
  have hs1 := hb1.size
  cases hr : runsR none a
  · have HR := hid hr
    clear hr
    go_wp2_with fail
    go_ret
    exact ⟨ret_bool (by rw [HR.out]; rfl), hb1⟩
  · have HR := hid hr
    clear hr
    go_wp2_with fail
    refine (sright_any b vb w1 (HB.out.imp hb1 hs1 fun _ _ _ h => h)).mono ?_
    rintro e w2 ⟨rfl, hb2⟩
    go_wp2_with fail
    go_ret
    exact ⟨ret_bool (by rw [HR.out]; rfl), hb1.trans (hb2.mono hs1)⟩

set_option maxHeartbeats 2000000 in
theorem sunion_any (a b : List (Int × Int)) (va vb : Value) (w : World) (ha : SlP w w.heap.size 2 RuE va a) (hb : SlP w w.heap.size 2 RuE vb b) (hra : runsR none a = true) (hrb : runsR none b = true) (hN : a.length ≤ 300000) (hN' : b.length ≤ 300000) :
    Calls Tryz.prog 177 #[va, vb] w (RetO w 201 2 (fun _ => RuE) (byL a b 0)) := by
  have HA := hid ha
  have HB := hid hb
  have HRA := hid hra
  have HRB := hid hrb
  have hor : RunsOk (a ++ b) := runsOk_of fun r hr => by
    rcases List.mem_append.1 hr with h | h
    · exact runs_ok' a none hra r h
    · exact runs_ok' b none hrb r h
  have HOR := hid hor
  obtain ⟨A1, c1, rfl, _⟩ := ha
  obtain ⟨A2, c2, rfl, _⟩ := hb
  clear hra hrb hor
  go_enter Tryz.func177, Tryz.ntmps177
  go_wp2_with fail
  refine (sboth_any a b _ _ w HA.out HB.out).mono ?_
  rw [HRA.out, HRB.out]
  rintro e w1 ⟨rfl, hb1⟩
  have hs1 := hb1.size
  go_wp2_with fail
  refine (concat_any a b (.slice A1 a.length c1) (.slice A2 b.length c2) w1.heap.size _ (by simp) (by simp) (by simp) (HA.out.imp (hb1.alloc hs1 _) (by simp; omega) fun _ _ _ h => h) (HB.out.imp (hb1.alloc hs1 _) (by simp; omega) fun _ _ _ h => h) hN hN').mono ?_
  rintro e w2 ⟨v2, rfl, ho2, hb2⟩
  have hs2 := hb2.size
  simp only [World.size_alloc] at hs2
  have hB2 : Below w.heap.size w w2 := (hb1.alloc hs1 _).trans (hb2.mono (by simp; omega))
  have ho2' : OwnP w2 (w1.heap.size + 1) 201 2 RuE v2 ((a ++ b).map id) := by rw [List.map_id]; exact ho2.mono (by simp)
  go_wp2_with fail
  refine (sortRun_any id cmpR swoR 216 (enters_of Tryz.func216 (by kernel_rfl) rfl) (fun x y W => unionClo_any x y W) (a ++ b) v2 w2 _ ho2' (by simp; omega) hs2).mono ?_
  rintro e w3 ⟨rfl, ts, hp, hs, ho3, hb3⟩
  rw [List.map_id] at ho3
  have hs3 := hb3.size
  have hJ := join_union HRA.out HRB.out hp (hs.imp fun h => (cmpI_nonneg _ _).1 h)
  have HJ := hid hJ
  have hlen : ts.length = a.length + b.length := by rw [hp.length_eq, List.length_append]
  have hsl := ho3.sl (by rw [hlen]; unfold Big; omega)
  have HSL := hid hsl
  have HTR : Hid (RunsOk ts) := fun r hr => HOR.out r (hp.subset hr)
  have hl3 : ts.length ≤ 900000 := by omega
  clear hp hs ho3 hJ hsl ho2 ho2' hlen
  go_wp2_with fail
  refine (sjoined_any ts _ w3 HSL.out hl3 HTR.out).mono ?_
  rintro e w4 ⟨v4, rfl, ho4, hb4⟩
  rw [HJ.out] at ho4
  go_wp2_with fail
  go_ret
  exact ⟨_, rfl, ho4.mono (by omega), (hB2.trans (hb3.mono (by omega))).trans (hb4.mono (by omega))⟩
end Go.Proofs.YtlapdmgjfdelnaaGreat

namespace Go.Proofs.YtlapdmgjfdelnaaGreat
open Go.RowKit
set_option maxRecDepth 100000

/-- A rule on sets: it hands back the reference's set. -/
def RuleRun (g : Nat) (how : Int) : Prop :=
  (∀ args W, (callFunc g args).run Tryz.prog W = .ok (.enter g args) W) ∧
  ∀ (a b : List (Int × Int)) (va vb : Value) (W : World), SlP W W.heap.size 2 RuE va a → SlP W W.heap.size 2 RuE vb b → runsR none a = true → runsR none b = true → a.length ≤ 100000 → b.length ≤ 100000 →
    Calls Tryz.prog g #[va, vb] W (RetO W 201 2 (fun _ => RuE) (byL a b how))

/-- The state of the loop: array p0 holds what was made of the first k centers, and the rest of the first context. -/
def ByA (a b : List Sp) (how : Int) (vs us : Nat → Value) (w1 w2 : World) (k : Nat) (wr : World) : Prop :=
  ∃ ps : Nat → Value, wr.heap[w1.heap.size]? = some (.cells #[ps 0, ps 1, ps 2, ps 3] 171 (0, 0)) ∧ wr.heap[w2.heap.size]? = some (.cells #[us 0, us 1, us 2, us 3] 171 (0, 0)) ∧
    (∀ j, j < k → OwnP wr (w2.heap.size + 1) 201 2 RuE (ps j) (byL (partL a (j : Int)) (partL b (j : Int)) how)) ∧ (∀ j, k ≤ j → ps j = vs j) ∧ (∀ blk, w1.heap.size < blk → blk < w2.heap.size → wr.heap[blk]? = w2.heap[blk]?) ∧ Below w1.heap.size w1 wr

set_option maxHeartbeats 4000000 in
theorem cby_any (a b : List Sp) (how : Int) (g : Nat) (hf : RuleRun g how) (va vb : Value) (w : World) (ha : SlP w w.heap.size 3 SpE va a) (hb : SlP w w.heap.size 3 SpE vb b) (hra : apartB a = true) (hrb : apartB b = true) (hN : a.length ≤ 20000) (hN' : b.length ≤ 20000) :
    Calls Tryz.prog 155 #[va, vb, .func (.func g) #[] #[]] w (RetO w 45 3 (fun _ => SpE) (ctxBy a b how)) := by
  obtain ⟨eg, hf⟩ := hf
  have HA := hid ha
  have HB := hid hb
  obtain ⟨A1, c1, rfl, _⟩ := ha
  obtain ⟨A2, c2, rfl, _⟩ := hb
  go_enter Tryz.func155, Tryz.ntmps155
  go_wp2_with fail
  refine (apart_any a _ w HA.out (by omega)).mono ?_
  rintro e w1 ⟨vs, rfl, hsl, hb1⟩
  have hs1 := hb1.size
  rw [hra]
  simp only [hra, if_true] at hsl
  obtain ⟨B0, m0, g0, _⟩ := hsl 0 (by omega)
  obtain ⟨B1, m1, g1, _⟩ := hsl 1 (by omega)
  obtain ⟨B2, m2, g2, _⟩ := hsl 2 (by omega)
  obtain ⟨B3, m3, g3, _⟩ := hsl 3 (by omega)
  have HVS := hid (fun i (hi : i < 4) => (hsl i hi).slp (fun b hb => hb.2) (Below.refl _ w1))
  have G0 := hid g0
  have G1 := hid g1
  have G2 := hid g2
  have G3 := hid g3
  simp only [g0, g1, g2, g3]
  clear hsl g0 g1 g2 g3
  go_wp2_with fail
  refine (apart_any b _ _ (HB.out.imp (hb1.alloc hs1 _) (by simp; omega) fun _ _ _ h => h) (by omega)).mono ?_
  rintro e w2 ⟨us, rfl, hsl, hb2⟩
  have hs2 := hb2.size
  simp only [World.size_alloc] at hs2
  rw [hrb]
  simp only [hrb, if_true] at hsl
  obtain ⟨D0, n0, k0, _⟩ := hsl 0 (by omega)
  obtain ⟨D1, n1, k1, _⟩ := hsl 1 (by omega)
  obtain ⟨D2, n2, k2, _⟩ := hsl 2 (by omega)
  obtain ⟨D3, n3, k3, _⟩ := hsl 3 (by omega)
  have HUS := hid hsl
  have K0 := hid k0
  have K1 := hid k1
  have K2 := hid k2
  have K3 := hid k3
  simp only [k0, k1, k2, k3]
  clear hsl k0 k1 k2 k3
  have hp2 := hid ((hb2.block w1.heap.size (by simp)).trans (heap_new rfl))
  have hB2 : Below w1.heap.size w1 w2 := ((Below.refl _ w1).alloc (Nat.le_refl _) _).trans (hb2.mono (by simp))
  go_wp2_with fail
  go_loopw [28] (fun i wr => ∃ k : Nat, k ≤ 4 ∧ i = .int .i64 k ∧ ByA a b how vs us w1 w2 k wr) (fun i _ => 4 - (intOf i).toNat)
  case atStart =>
    refine ⟨0, by omega, rfl, vs, ?_, ?_, fun j hj => absurd hj (Nat.not_lt_zero _), fun _ _ => rfl, fun blk _ hb => heap_old hb, hB2.alloc (by omega) _⟩
    · rw [heap_old (by omega), G0.out, G1.out, G2.out, G3.out]; exact hp2.out
    · rw [heap_new rfl, K0.out, K1.out, K2.out, K3.out]; rfl
  case round =>
    obtain ⟨k, hk, rfl, ps, hpa, hqa, hpo, hpv, hkp, hbr⟩ := hrel
    have hsz := hbr.size
    have hp3 : w1.heap.size < wr.heap.size := (Array.getElem?_eq_some_iff.1 hpa).1
    have hq3 : w2.heap.size < wr.heap.size := (Array.getElem?_eq_some_iff.1 hqa).1
    by_cases hk4 : k < 4
    · have hki : (k : Int) < 4 := by omega
      have hla := partL_len a k
      have hlb := partL_len b k
      have hq2 : w2.heap.size + 1 ≤ wr.heap.size := by omega
      have HSA : Hid (SlP wr.drew wr.drew.heap.size 2 RuE (vs k) (partL a k)) := (HVS.out k hk4).imp hbr.drew hsz fun _ _ _ h => h
      have HSB : Hid (SlP wr.drew wr.drew.heap.size 2 RuE (us k) (partL b k)) := SlP_iff.2 ((HUS.out k hk4).up (w' := wr.drew) (fun blk hb => hkp blk (by have := hb.1; simp only [World.size_alloc] at this; omega) hb.2) (fun blk hb => by have := hb.2; show blk < wr.heap.size; omega) (fun _ _ _ h => h))
      have hcall := hf (partL a k) (partL b k) (vs k) (us k) wr.drew HSA.out HSB.out (apart_part hra hk4) (apart_part hrb hk4) (by omega) (by omega)
      have hpc : wr.cell? ⟨w1.heap.size, k, none⟩ = some (vs k) := by rw [cell_cells hpa, four_get ps hk4, hpv k (Nat.le_refl _)]
      have hqc : wr.cell? ⟨w2.heap.size, k, none⟩ = some (us k) := (cell_cells hqa).trans (four_get us hk4)
      have HPA := hid hpa
      have HQA := hid hqa
      have HPO := hid hpo
      have HPV := hid hpv
      have HKP := hid hkp
      have HCALL := hid hcall
      clear hpa hqa hpo hpv hkp hf hcall
      go_wp2_with fail
      refine wp_region_pop_n (S := fun w' => w'.cell? ⟨w1.heap.size, k, none⟩ = some (vs k) ∧ w'.cell? ⟨w2.heap.size, k, none⟩ = some (us k)) 10 (by kernel_rfl) (by kernel_rfl) ?_
      simp only [List.take_succ_cons, List.take_zero, List.drop_succ_cons, List.drop_zero]
      have hHeld : (fun w' : World => w'.cell? ⟨w1.heap.size, k, none⟩ = some (vs k) ∧ w'.cell? ⟨w2.heap.size, k, none⟩ = some (us k)) wr.drew := by go_keep
      refine wpAnyH_take (i := 0) (oi := _) (v := ?v0) rfl (by kernel_rfl) (by kernel_rfl) (by kernel_rfl) (fun _ _ _ h => h) (Or.inl ⟨by rfl, ?h0⟩) (by assumption) ?_
      case h0 => (intro w hSw; (try dsimp only at hSw); go_simp; (try with_reducible rfl))
      simp only [Act.put, List.setIfInBounds_toArray]
      refine wpAnyH_take (i := 1) (oi := _) (v := ?v1) rfl (by kernel_rfl) (by kernel_rfl) (by kernel_rfl) (fun _ _ _ h => h) (Or.inl ⟨by rfl, ?h1⟩) (by assumption) ?_
      case h1 => (intro w hSw; (try dsimp only at hSw); go_simp; (try with_reducible rfl))
      simp only [Act.put, List.setIfInBounds_toArray]
      refine wpAnyH_take (i := 2) (oi := _) (v := ?v2) rfl (by kernel_rfl) (by kernel_rfl) (by kernel_rfl) (fun _ _ _ h => h) (Or.inl ⟨by rfl, ?h2⟩) (by assumption) ?_
      case h2 => (intro w hSw; (try dsimp only at hSw); go_simp; (try with_reducible rfl))
      simp only [Act.put, List.setIfInBounds_toArray]
      refine wpAnyH_take (i := 3) (oi := _) (v := ?v3) rfl (by kernel_rfl) (by kernel_rfl) (by kernel_rfl) (fun _ _ _ h => h) (Or.inl ⟨by rfl, ?h3⟩) (by assumption) ?_
      case h3 => (intro w hSw; (try dsimp only at hSw); go_simp; (try with_reducible rfl))
      simp only [Act.put, List.setIfInBounds_toArray]
      refine wpAnyH_take (i := 4) (oi := _) (v := ?v4) rfl (by kernel_rfl) (by kernel_rfl) (by kernel_rfl) (fun _ _ _ h => h) (Or.inl ⟨by rfl, ?h4⟩) (by assumption) ?_
      case h4 => (intro w hSw; (try dsimp only at hSw); go_simp; (try with_reducible rfl))
      simp only [Act.put, List.setIfInBounds_toArray]
      refine wpAnyH_take (i := 5) (oi := _) (v := ?v5) rfl (by kernel_rfl) (by kernel_rfl) (by kernel_rfl) (fun _ _ _ h => h) (Or.inl ⟨by rfl, ?h5⟩) (by assumption) ?_
      case h5 => (intro w hSw; (try dsimp only at hSw); go_simp; (try with_reducible rfl))
      simp only [Act.put, List.setIfInBounds_toArray]
      refine wpAnyH_take (i := 6) (oi := _) (v := ?v6) rfl (by kernel_rfl) (by kernel_rfl) (by kernel_rfl) (fun _ _ _ h => h) (Or.inl ⟨by rfl, ?h6⟩) (by assumption) ?_
      case h6 => (intro w hSw; (try dsimp only at hSw); go_simp; (try with_reducible rfl))
      simp only [Act.put, List.setIfInBounds_toArray]
      refine wpAnyH_take (i := 7) (oi := _) (v := ?v7) rfl (by kernel_rfl) (by kernel_rfl) (by kernel_rfl) (fun _ _ _ h => h) (Or.inl ⟨by rfl, ?h7⟩) (by assumption) ?_
      case h7 => (intro w hSw; (try dsimp only at hSw); go_simp; (try with_reducible rfl))
      simp only [Act.put, List.setIfInBounds_toArray]
      refine wpAnyH_ready (rs := [8]) (by kernel_rfl) (by simp) ?_
      refine AllReadyH.cons (o := _) rfl (fun K hK => ?_) AllReadyH.nil
      go_simp
      refine HCALL.out.mono ?_
      rintro e w3 ⟨v3, rfl, ho3, hb3⟩
      obtain ⟨A3, c3, rfl⟩ := ho3.shape
      have hb3' : Below wr.heap.size wr w3 := (Below.refl _ wr).drew.trans hb3
      have hp4 := (hb3'.block w1.heap.size hp3).trans HPA.out
      have hq4 := (hb3'.block w2.heap.size hq3).trans HQA.out
      have hpc3 : w3.cell? ⟨w1.heap.size, k, none⟩ = some (vs k) := by rw [cell_cells hp4, four_get ps hk4, HPV.out k (Nat.le_refl _)]
      have hqc3 : w3.cell? ⟨w2.heap.size, k, none⟩ = some (us k) := (cell_cells hq4).trans (four_get us hk4)
      have hf3 : w3.frozen? ⟨w1.heap.size, k, none⟩ = false := cells_frz hp4
      have HP4 := hid hp4
      have HQ4 := hid hq4
      have HO3 := hid ho3
      have HB3 := hid hb3'
      clear hp4 hq4 ho3 hb3 hb3'
      dsimp only
      refine hK.out _ _ ⟨hpc3, hqc3⟩ (fun hHeld8 => ?_)
      clear hK K
      simp only [List.setIfInBounds_toArray]
      refine wpAnyH_take (i := 9) (oi := _) (v := ?v9) rfl (by kernel_rfl) (by kernel_rfl) (by kernel_rfl) (fun _ _ _ h => h) (Or.inl ⟨by rfl, ?h9⟩) (by assumption) ?_
      case h9 => (intro w hSw; (try dsimp only at hSw); go_simp; (try with_reducible rfl))
      simp only [Act.put, List.setIfInBounds_toArray]
      refine wpAnyH_done (by kernel_rfl) ?_ _
      change wpList _ _ _ _ _ _
      go_wp2_with fail
      go_roundw
      case rel =>
        have hs3 := HB3.out.size
        refine ⟨k + 1, by omega, by go_num, fun j => if j = k then .slice A3 (byL (partL a k) (partL b k) how).length c3 else ps j, ?_, ?_, fun j hj => ?_, fun j hj => ?_, fun blk h1 h2 => ?_, (hbr.trans (HB3.out.mono hsz)).setCell (Nat.le_refl _) _⟩
        · rw [cells_set HP4.out, four_set ps hk4]
        · exact (Below.heap_setCell _ _ _ _ (by show w2.heap.size ≠ w1.heap.size; omega)).trans HQ4.out
        · by_cases e : j = k
          · subst e
            simp only [if_true]
            exact (HO3.out.mono (by show _ ≤ wr.heap.size; omega)).setOther (by show w1.heap.size < _; omega) _
          · simp only [if_neg e]
            exact ((HPO.out j (by omega)).grow HB3.out).setOther (by show w1.heap.size < _; omega) _
        · show (if j = k then _ else ps j) = vs j
          rw [if_neg (show ¬ j = k by omega)]; exact HPV.out j (by omega)
        · exact (Below.heap_setCell _ _ _ _ (by show blk ≠ w1.heap.size; omega)).trans ((HB3.out.block blk (by omega)).trans (HKP.out blk h1 h2))
      case measure => simp [intOf]; omega
    · obtain rfl : k = 4 := by omega
      have d0 : wr.cell? ⟨w1.heap.size, 0, none⟩ = some (ps 0) := cell_cells (i := 0) hpa
      have d1 : wr.cell? ⟨w1.heap.size, 1, none⟩ = some (ps 1) := cell_cells (i := 1) hpa
      have d2 : wr.cell? ⟨w1.heap.size, 2, none⟩ = some (ps 2) := cell_cells (i := 2) hpa
      have d3 : wr.cell? ⟨w1.heap.size, 3, none⟩ = some (ps 3) := cell_cells (i := 3) hpa
      have HOL : ∀ j : Nat, (byL (partL a (j : Int)) (partL b (j : Int)) how).length ≤ 80001 := fun j => by
        have := byL_len (partL a (j : Int)) (partL b (j : Int)) how; have := partL_len a (j : Int); have := partL_len b (j : Int); omega
      have HSP : Hid (∀ j, j < 4 → SlP wr wr.heap.size 2 RuE (ps j) (byL (partL a (j : Int)) (partL b (j : Int)) how)) := fun j hj => (hpo j hj).sl (by have := HOL j; unfold Big; omega)
      have HOLH := hid HOL
      clear hpa hqa hpo hpv hkp HOL
      go_wp2_with fail
      refine (whole_any (fun j => byL (partL a (j : Int)) (partL b (j : Int)) how) ps wr HSP.out (fun j _ => by have := HOLH.out j; show (byL _ _ _).length ≤ _; omega)).mono ?_
      rintro e w4 ⟨v4, rfl, ho4, hb4⟩
      go_wp2_with fail
      go_ret
      exact ⟨_, rfl, ho4.mono (by omega), (hb1.trans (hbr.mono hs1)).trans (hb4.mono (by omega))⟩

theorem union_rule : RuleRun 177 0 :=
  ⟨enters_of Tryz.func177 (by kernel_rfl) rfl, fun a b va vb W ha hb hra hrb hN hN' => sunion_any a b va vb W ha hb hra hrb (by omega) (by omega)⟩
theorem cunion_any (a b : List Sp) (va vb : Value) (w : World) (ha : SlP w w.heap.size 3 SpE va a) (hb : SlP w w.heap.size 3 SpE vb b) (hra : apartB a = true) (hrb : apartB b = true) (hN : a.length ≤ 20000) (hN' : b.length ≤ 20000) :
    Calls Tryz.prog 132 #[va, vb] w (RetO w 45 3 (fun _ => SpE) (ctxBy a b 0)) := by
  go_enter Tryz.func132, Tryz.ntmps132
  go_wp2_with fail
  refine (cby_any a b 0 _ union_rule va vb w ha hb hra hrb hN hN').mono ?_
  rintro e w1 ⟨v, rfl, h⟩
  go_wp2_with fail
  go_ret
  exact ⟨v, rfl, h⟩
end Go.Proofs.YtlapdmgjfdelnaaGreat

namespace Go.Proofs.YtlapdmgjfdelnaaGreat
open Go.RowKit
set_option maxRecDepth 100000

/-- The state of the first loop. -/
def OfA (l : List Dt) (w : World) (k : Nat) (wr : World) : Prop :=
  ∃ vs : Nat → Value, Rows4 wr (w.heap.size + 1) w.heap.size 168 2 1 InE vs (fun i => numsL (l.take k) i) ∧ Below w.heap.size w wr

/-- The state of the second loop: array Bq holds the sets of the first k centers. -/
def OfB (l : List Dt) (w1 : World) (k : Nat) (wr : World) : Prop :=
  ∃ ps : Nat → Value, wr.heap[w1.heap.size]? = some (.cells #[ps 0, ps 1, ps 2, ps 3] 171 (0, 0)) ∧
    (∀ j, j < 4 → OwnP wr (w1.heap.size + 1) 201 2 RuE (ps j) (if j < k then ofL (numsL l (j : Int)) else [])) ∧ Below w1.heap.size w1 wr

set_option maxHeartbeats 4000000 in
theorem cof_any (l : List Dt) (vl : Value) (w : World) (h : SlP w w.heap.size 2 DtE vl l) (hR : ∀ d ∈ l, d.right = true) (hN : l.length ≤ 100000) :
    Calls Tryz.prog 79 #[vl] w fun e w' => ∃ v, e = .returned (.tuple #[v, .int .i64 0]) ∧ OwnP w' w.heap.size 45 3 SpE v (ctxOf l) ∧ Below w.heap.size w w' := by
  obtain ⟨A, n, rfl, b1, b2, b3⟩ := h
  unfold Big at b2
  go_enter Tryz.func79, Tryz.ntmps79
  go_wp2_with fail
  go_loopw [12] (fun i wr => ∃ k : Nat, k ≤ l.length ∧ i = .int .i64 k ∧ OfA l w k wr) (fun i _ => l.length - (intOf i).toNat)
  case atStart => exact ⟨0, Nat.zero_le _, rfl, fun _ => .slice none 0 0, Rows4.start (heap_new rfl) (by omega), (Below.refl _ w).alloc (Nat.le_refl _) _⟩
  case round =>
    obtain ⟨k, hk, rfl, vs, hr4, hb⟩ := hrel
    have hsz := hb.size
    have hsz2 : w.heap.size < wr.heap.size := (Array.getElem?_eq_some_iff.1 hr4.arr).1
    have hsz4 : w.heap.size ≠ wr.heap.size := by omega
    by_cases hlt : k < l.length
    · obtain ⟨⟨dc, num⟩, hx⟩ : ∃ x, l[k]? = some x := ⟨_, List.getElem?_eq_getElem hlt⟩
      obtain ⟨b, off, rfl, hbB, hc⟩ := b3 (by rintro rfl; simp at hlt)
      obtain ⟨cs, ⟨rfl, hok⟩, _, hu⟩ := hc k _ hx
      have e0 : wr.cell? ⟨b, off + k * 2, none⟩ = some (.int .i64 dc) := (hb.cell hbB).trans (hu 0 _ rfl)
      have e1 : wr.cell? ⟨b, off + k * 2 + 1, none⟩ = some (.int .i64 num) := (hb.cell hbB).trans (hu 1 _ rfl)
      have hri := hR _ (List.mem_of_getElem? hx)
      have hbd : (0 ≤ dc ∧ dc < 4) ∧ 1 ≤ num ∧ num ≤ 1099511627776 := by simpa [Dt.right, and_assoc] using hri
      have HRI := hid hri
      have HR4 := hid hr4
      obtain ⟨d, rfl⟩ : ∃ d : Nat, dc = (d : Int) := ⟨dc.toNat, by omega⟩
      have hd4 : d < 4 := by omega
      have hdi : (d : Int) < 4 := by omega
      have HPD : Hid ((fun i : Nat => numsL (l.take (k + 1)) i) = fun i => if i = d then numsL (l.take k) d ++ [num] else numsL (l.take k) i) := by
        unfold Hid; funext i
        rw [numsL_take hx]
        by_cases e : i = d
        · subst e; rw [if_pos rfl, if_pos rfl]
        · rw [if_neg e, if_neg (by show ¬ (d : Int) = (i : Int); omega), List.append_nil]
      have HL : Hid ((numsL (l.take k) d).length + [num].length ≤ Few) := by have := numsL_len (l.take k) d; rw [List.length_take] at this; unfold Hid Few; simp; omega
      have HRE : Hid (InE num [.int .i64 num]) := ⟨rfl, hok.n⟩
      have hbp : wr.cell? ⟨w.heap.size, d, none⟩ = some (vs d) := HR4.out.at hd4
      have HLT := hid ((HR4.out.own d hd4).lt)
      clear hu hx hc b3 hok hr4 hri hR
      go_upto_region 7 with (go_at_call 109; refine (dright_any ⟨d, num⟩ _).mono ?_; rw [HRI.out]; rintro e wd ⟨rfl, hbd'⟩; have hsd := hbd'.size; simp only [World.size_alloc] at hsd)
      have HB1 : Hid (Below wr.heap.size wr wd) := ((Below.refl _ wr).alloc (Nat.le_refl _) _).trans (hbd'.mono (by simp))
      have hx0 : wd.cell? ⟨wr.heap.size, 0, none⟩ = some (.int .i64 (d : Int)) := by rw [hbd'.cell (p := ⟨wr.heap.size, 0, none⟩) (by simp)]; simp
      have hx1 : wd.cell? ⟨wr.heap.size, 1, none⟩ = some (.int .i64 num) := by rw [hbd'.cell (p := ⟨wr.heap.size, 1, none⟩) (by simp)]; simp
      have hxb : wd.heap[wr.heap.size]? = some (.cells #[.int .i64 (d : Int), .int .i64 num] 52 (0, 0)) := (hbd'.block wr.heap.size (by simp)).trans (heap_new rfl)
      have HXB := hid hxb
      have hbp1 : wd.cell? ⟨w.heap.size, d, none⟩ = some (vs d) := (HB1.out.cell (p := ⟨w.heap.size, d, none⟩) hsz2).trans hbp
      have HR5 := hid (HR4.out.grow HB1.out)
      have hwd1 : w.heap.size < wd.heap.size := by omega
      have hwd2 : w.heap.size ≠ wd.heap.size := by omega
      have hwd3 : wr.heap.size < wd.heap.size := by omega
      have hwd4 : wr.heap.size ≠ wd.heap.size := by omega
      have HBW := hid (hb.trans (HB1.out.mono hsz))
      clear hbp hxb hbd' e0 e1
      go_wp2_with fail
      refine wp_region_pop_n (S := fun w' => w'.cell? ⟨wr.heap.size, 0, none⟩ = some (.int .i64 (d : Int)) ∧ w'.cell? ⟨wr.heap.size, 1, none⟩ = some (.int .i64 num) ∧ w'.cell? ⟨w.heap.size, d, none⟩ = some (vs d)) 11 (by kernel_rfl) (by kernel_rfl) ?_
      simp only [List.take_succ_cons, List.take_zero, List.drop_succ_cons, List.drop_zero]
      have hHeld : (fun w' : World => w'.cell? ⟨wr.heap.size, 0, none⟩ = some (.int .i64 (d : Int)) ∧ w'.cell? ⟨wr.heap.size, 1, none⟩ = some (.int .i64 num) ∧ w'.cell? ⟨w.heap.size, d, none⟩ = some (vs d)) wd.drew := by go_keep
      refine wpAnyH_take (i := 0) (oi := _) (v := ?v0) rfl (by kernel_rfl) (by kernel_rfl) (by kernel_rfl) (fun _ _ _ h => h) (Or.inl ⟨by rfl, ?h0⟩) (by assumption) ?_
      case h0 => (intro w hSw; (try dsimp only at hSw); go_simp; (try with_reducible rfl))
      simp only [Act.put, List.setIfInBounds_toArray]
      refine wpAnyH_take (i := 1) (oi := _) (v := ?v1) rfl (by kernel_rfl) (by kernel_rfl) (by kernel_rfl) (fun _ _ _ h => h) (Or.inl ⟨by rfl, ?h1⟩) (by assumption) ?_
      case h1 => (intro w hSw; (try dsimp only at hSw); go_simp; (try with_reducible rfl))
      simp only [Act.put, List.setIfInBounds_toArray]
      refine wpAnyH_take (i := 2) (oi := _) (v := ?v2) rfl (by kernel_rfl) (by kernel_rfl) (by kernel_rfl) (fun _ _ _ h => h) (Or.inl ⟨by rfl, ?h2⟩) (by assumption) ?_
      case h2 => (intro w hSw; (try dsimp only at hSw); go_simp; (try with_reducible rfl))
      simp only [Act.put, List.setIfInBounds_toArray]
      refine wpAnyH_take (i := 3) (oi := _) (v := ?v3) rfl (by kernel_rfl) (by kernel_rfl) (by kernel_rfl) (fun _ _ _ h => h) (Or.inl ⟨by rfl, ?h3⟩) (by assumption) ?_
      case h3 => (intro w hSw; (try dsimp only at hSw); go_simp; (try with_reducible rfl))
      simp only [Act.put, List.setIfInBounds_toArray]
      refine wpAnyH_take (i := 4) (oi := _) (v := ?v4) rfl (by kernel_rfl) (by kernel_rfl) (by kernel_rfl) (fun _ _ _ h => h) (Or.inl ⟨by rfl, ?h4⟩) (by assumption) ?_
      case h4 => (intro w hSw; (try dsimp only at hSw); go_simp; (try with_reducible rfl))
      simp only [Act.put, List.setIfInBounds_toArray]
      refine wpAnyH_take (i := 5) (oi := _) (v := ?v5) rfl (by kernel_rfl) (by kernel_rfl) (by kernel_rfl) (fun _ _ _ h => h) (Or.inl ⟨by rfl, ?h5⟩) (by assumption) ?_
      case h5 => (intro w hSw; (try dsimp only at hSw); go_simp; (try with_reducible rfl))
      simp only [Act.put, List.setIfInBounds_toArray]
      refine wpAnyH_take (i := 6) (oi := _) (v := ?v6) rfl (by kernel_rfl) (by kernel_rfl) (by kernel_rfl) (fun _ _ _ h => h) (Or.inl ⟨by rfl, ?h6⟩) (by assumption) ?_
      case h6 => (intro w hSw; (try dsimp only at hSw); go_simp; (try with_reducible rfl))
      simp only [Act.put, List.setIfInBounds_toArray]
      refine wpAnyH_take (i := 7) (oi := _) (v := ?v7) rfl (by kernel_rfl) (by kernel_rfl) (by kernel_rfl) (fun _ _ _ h => h) (Or.inl ⟨by rfl, ?h7⟩) (by assumption) ?_
      case h7 => (intro w hSw; (try dsimp only at hSw); go_simp; (try with_reducible rfl))
      simp only [Act.put, List.setIfInBounds_toArray]
      refine wpAnyH_ready (rs := [8]) (by kernel_rfl) (by simp) ?_
      refine AllReadyH.cons (o := _) rfl (fun K hK => ?_) AllReadyH.nil
      go_simp
      refine hK.out _ _ ?_ (fun hHeld8 => ?_)
      · go_keep
      clear hK K
      simp only [List.setIfInBounds_toArray]
      refine wpAnyH_ready (rs := [9]) (by kernel_rfl) (by simp) ?_
      refine AllReadyH.cons (o := _) rfl (fun K hK => ?_) AllReadyH.nil
      (refine step_few4 (v := vs d) rfl (.tmp 24) (.tmp 27) _ rfl eiInt64 (by decide) (by decide) (fun _ _ h => h.one) rfl (((HR5.out.own d hd4).grow ((Below.refl _ wd).alloc (Nat.le_refl _) _)).drew) rfl (SlP.one (x := num) HRE.out rfl _ (by simp)) HL.out (by simp; omega) ?_; intro v1 w4 hown4 hb4 hg4 hv4; have hsh4 := OwnP.shape hown4; simp only [List.length_append, List.length_singleton] at hsh4; obtain ⟨A1, c1, hv1⟩ := hsh4; subst hv1; have hg4h : Hid (w4.heap[w.heap.size]? = some (.cells #[vs 0, vs 1, vs 2, vs 3] 168 (0, 0))) := (hg4.block w.heap.size (by simp; omega) (fun e => by have := HLT.out _ e.symm; omega)).trans ((heap_old hwd1).trans HR5.out.arr); have hc4 : w4.cell? ⟨w.heap.size, d, none⟩ = some (vs d) := (cell_cells hg4h.out).trans (four_get vs hd4); have hf4 : w4.frozen? ⟨w.heap.size, d, none⟩ = false := cells_frz hg4h.out; have hx3 := (hg4.block wr.heap.size (by simp; omega) (fun e => by have := HLT.out _ e.symm; omega)).trans ((heap_old hwd3).trans HXB.out); have hx4 : Hid (w4.cell? ⟨wr.heap.size, 0, none⟩ = some (.int .i64 (d : Int)) ∧ w4.cell? ⟨wr.heap.size, 1, none⟩ = some (.int .i64 num) ∧ w4.cell? ⟨w.heap.size, d, none⟩ = some (vs d)) := ⟨(cell_cells (i := 0) hx3).trans rfl, (cell_cells (i := 1) hx3).trans rfl, hc4⟩; clear hx3)
      refine hK.out _ _ ?_ (fun hHeld9 => ?_)
      · exact hx4.out
      clear hK K
      simp only [Act.put, List.setIfInBounds_toArray]
      refine wpAnyH_take (i := 10) (oi := _) (v := ?v10) rfl (by kernel_rfl) (by kernel_rfl) (by kernel_rfl) (fun _ _ _ h => h) (Or.inl ⟨by rfl, ?h10⟩) (by assumption) ?_
      case h10 => (intro w hSw; (try dsimp only at hSw); go_simp; (try with_reducible rfl))
      simp only [Act.put, List.setIfInBounds_toArray]
      refine wpAnyH_done (by kernel_rfl) ?_ _
      change wpList _ _ _ _ _ _
      go_wp2_with fail
      go_roundw
      case rel =>
        refine ⟨k + 1, by omega, by go_num, fun i => if i = d then .slice A1 ((numsL (l.take k) d).length + 1) c1 else vs i, ?_, ?_⟩
        · rw [HPD.out]
          exact Rows4.put (w := (wd.alloc (.cells #[.int .i64 num] 2)).drew) ((HR5.out.grow ((Below.refl _ _).alloc (Nat.le_refl _) _)).same rfl) hd4 hown4 hg4 hv4
        · exact (((HBW.out.alloc (by omega) _).drew.trans (hb4.mono (by omega))).setCell (Nat.le_refl _) _)
      case measure => simp [intOf]; omega
    · obtain rfl : k = l.length := by omega
      rw [List.take_of_length_le (Nat.le_refl _)] at hr4
      have c0 : wr.cell? ⟨w.heap.size, 0, none⟩ = some (vs 0) := hr4.at (by omega)
      have c1 : wr.cell? ⟨w.heap.size, 1, none⟩ = some (vs 1) := hr4.at (by omega)
      have c2 : wr.cell? ⟨w.heap.size, 2, none⟩ = some (vs 2) := hr4.at (by omega)
      have c3 : wr.cell? ⟨w.heap.size, 3, none⟩ = some (vs 3) := hr4.at (by omega)
      have HR := hid hr4
      have HRR := hid hR
      clear hr4 b3 hR
      go_wp2_with fail
      obtain ⟨w1, rfl⟩ : ∃ w1 : World, w1 = wr := ⟨_, rfl⟩
      go_loopw [32] (fun i wr => ∃ k : Nat, k ≤ 4 ∧ i = .int .i64 k ∧ OfB l w1 k wr) (fun i _ => 4 - (intOf i).toNat)
      case atStart => exact ⟨0, by omega, rfl, fun _ => .slice none 0 0, heap_new rfl, fun j _ => by rw [if_neg (Nat.not_lt_zero _)]; exact OwnP.nil, (Below.refl _ _).alloc (Nat.le_refl _) _⟩
      case round =>
        obtain ⟨k, hk, rfl, ps, hpa, hpo, hbi⟩ := hrel
        have hsi := hbi.size
        have hsi2 : w1.heap.size < wr.heap.size := (Array.getElem?_eq_some_iff.1 hpa).1
        by_cases hk4 : k < 4
        · have hki : (k : Int) < 4 := by omega
          have hidx : ∀ w, (Instr.index 168 (.agg #[vs 0, vs 1, vs 2, vs 3]) (.int .i64 (k : Int))).run Tryz.prog w = .ok (vs k) w := fun w => by
            match k, hk4 with
            | 0, _ => rfl
            | 1, _ => rfl
            | 2, _ => rfl
            | 3, _ => rfl
          have hnl := numsL_len l k
          have HSL : Hid (SlP wr wr.heap.size 1 InE (vs k) (numsL l k)) := (HR.out.sl hk4 (by show (numsL l k).length ≤ Big; unfold Big; omega)).imp hbi hsi fun _ _ _ h => h
          have HNB : Hid (∀ x ∈ numsL l k, numB x = true) := fun x hx => by
            unfold numsL at hx
            obtain ⟨d, hd, rfl⟩ := List.mem_map.1 hx
            have h1 := HRR.out d (List.mem_filter.1 hd).1
            simp [Dt.right] at h1
            simp [numB]; omega
          have HPA := hid hpa
          have HPO := hid hpo
          have hpc : wr.cell? ⟨w1.heap.size, k, none⟩ = some (ps k) := (cell_cells hpa).trans (four_get ps hk4)
          clear hpa hpo
          go_wp2_with fail
          refine (sof_any (numsL l k) (vs k) wr HSL.out HNB.out (by omega)).mono ?_
          rintro e w2 ⟨v2, rfl, ho2, hb2⟩
          obtain ⟨A2, n2, rfl⟩ := ho2.shape
          have hp2 := (hb2.block w1.heap.size hsi2).trans HPA.out
          have hc2 : w2.cell? ⟨w1.heap.size, k, none⟩ = some (ps k) := (cell_cells hp2).trans (four_get ps hk4)
          have hf2 : w2.frozen? ⟨w1.heap.size, k, none⟩ = false := cells_frz hp2
          have HP2 := hid hp2
          have HO2 := hid ho2
          clear hp2 ho2 hpc hidx
          go_wp2_with fail
          go_roundw
          case rel =>
            refine ⟨k + 1, by omega, by go_num, fun j => if j = k then .slice A2 (ofL (numsL l k)).length n2 else ps j, ?_, fun j hj => ?_, (hbi.trans (hb2.mono hsi)).setCell (Nat.le_refl _) _⟩
            · rw [cells_set HP2.out, four_set ps hk4]
            · by_cases e : j = k
              · subst e
                simp only [if_true, if_pos (Nat.lt_succ_self j)]
                exact (HO2.out.mono (by omega)).setOther (by simp) _
              · have e2 : (if j < k + 1 then ofL (numsL l (j : Int)) else []) = (if j < k then ofL (numsL l (j : Int)) else []) := by
                  by_cases e3 : j < k
                  · rw [if_pos e3, if_pos (by omega)]
                  · rw [if_neg e3, if_neg (by omega)]
                simp only [if_neg e]
                rw [e2]
                exact ((HPO.out j hj).grow hb2).setOther (by simp) _
          case measure => simp [intOf]; omega
        · obtain rfl : k = 4 := by omega
          have d0 : wr.cell? ⟨w1.heap.size, 0, none⟩ = some (ps 0) := cell_cells (i := 0) hpa
          have d1 : wr.cell? ⟨w1.heap.size, 1, none⟩ = some (ps 1) := cell_cells (i := 1) hpa
          have d2 : wr.cell? ⟨w1.heap.size, 2, none⟩ = some (ps 2) := cell_cells (i := 2) hpa
          have d3 : wr.cell? ⟨w1.heap.size, 3, none⟩ = some (ps 3) := cell_cells (i := 3) hpa
          have HOL : ∀ j : Nat, (ofL (numsL l (j : Int))).length ≤ 100001 := fun j => by have := ofL_len (numsL l (j : Int)); have := numsL_len l (j : Int); omega
          have HSP : Hid (∀ j, j < 4 → SlP wr wr.heap.size 2 RuE (ps j) (ofL (numsL l (j : Int)))) := fun j hj => by
            have := hpo j hj
            rw [if_pos hj] at this
            exact this.sl (by have := HOL j; unfold Big; omega)
          have HOLH := hid HOL
          clear hpa hpo HOL
          go_wp2_with fail
          refine (whole_any (fun j => ofL (numsL l (j : Int))) ps wr HSP.out (fun j _ => by have := HOLH.out j; show (ofL _).length ≤ _; omega)).mono ?_
          rintro e w2 ⟨v2, rfl, ho2, hb2⟩
          go_wp2_with fail
          go_ret2
          exact ⟨_, rfl, ho2.mono (by omega), (hb.trans (hbi.mono hsz)).trans (hb2.mono (by omega))⟩
end Go.Proofs.YtlapdmgjfdelnaaGreat

namespace Go.Proofs.YtlapdmgjfdelnaaGreat
open Go.RowKit
set_option maxRecDepth 100000

/-- What tree.Dots hands back. -/
def RetDots (t : Tr) (w : World) (e : Ending) (w' : World) : Prop :=
  ∃ v n, e = .returned (.tuple #[v, .int .i64 n]) ∧ n = (if t.right 5 then 0 else 1) ∧ OwnP w' w.heap.size 45 3 SpE v (if t.right 5 then ctxOf t.dots else []) ∧ Below w.heap.size w w'
set_option maxHeartbeats 1000000 in
theorem tdots_any (t : Tr) (ve vk : Value) (w : World) (h : t.rd w w.heap.size ve vk) (hN : t.sz ≤ 90000) :
    Calls Tryz.prog 111 #[.agg #[ve, vk]] w (RetDots t w) := by
  have HC : Hid (∀ w', Below w.heap.size w w' → t.rd w' w'.heap.size ve vk) := fun w' hb => rd_below hb hb.size _ _ _ h
  have hdl := dots_len t
  obtain ⟨A3, n3, A4, n4, rfl, rfl⟩ := rd_shape h
  have hb0 := (Below.refl w.heap.size w).alloc (Nat.le_refl _) (.cells #[.slice A3 t.es.length n3, .slice A4 t.ks.length n4] 25)
  clear h
  go_enter Tryz.func111, Tryz.ntmps111
  go_wp2_with fail
  refine (tRight_any t _ _ _ (HC.out _ hb0)).mono ?_
  rintro e w1 ⟨rfl, hb1⟩
  have hs1 := hb1.size
  simp only [World.size_alloc] at hs1
  have hB1 : Below w.heap.size w w1 := hb0.trans (hb1.mono (by simp))
  have c0 : w1.cell? ⟨w.heap.size, 0, none⟩ = some (.slice A3 t.es.length n3) := by rw [hb1.cell (p := ⟨w.heap.size, 0, none⟩) (by simp)]; simp
  have c1 : w1.cell? ⟨w.heap.size, 1, none⟩ = some (.slice A4 t.ks.length n4) := by rw [hb1.cell (p := ⟨w.heap.size, 1, none⟩) (by simp)]; simp
  cases hr : t.right 5
  · have HR := hid hr
    clear hr
    go_wp2_with fail
    go_ret2
    exact ⟨_, _, rfl, by rw [HR.out]; rfl, by rw [HR.out]; exact OwnP.nil, hB1⟩
  · have HR := hid hr
    have HD := hid (right_dots t 5 hr)
    clear hr
    go_wp2_with fail
    refine (tall_any t _ _ _ (HC.out _ hB1) (by omega)).mono ?_
    rintro e w2 ⟨v2, rfl, ho2, hb2⟩
    have hs2 := hb2.size
    have hsl := ho2.sl (by unfold Big; omega)
    clear ho2
    go_wp2_with fail
    refine (cof_any t.dots v2 w2 hsl HD.out (by omega)).mono ?_
    rintro e w3 ⟨v3, rfl, ho3, hb3⟩
    go_wp2_with fail
    go_ret2
    exact ⟨_, _, rfl, by rw [HR.out]; rfl, by rw [HR.out]; exact ho3.mono (by omega), (hB1.trans (hb2.mono (by omega))).trans (hb3.mono (by omega))⟩

theorem chk_eq {t : Tr} (h : t.right 5 = true) (d : Dt) : cHas (ctxOf t.dots) d = hasC (ctxOf t.dots) d := cHas_eq (apart_ctxOf (right_dots t 5 h)) d

/-- flag.Check's answer: 0 where a change may be made, else 1. -/
def chkI (t : Tr) (d : Dt) : Int := if chkT t d then 0 else 1
set_option maxHeartbeats 2000000 in
theorem fcheck_any (t : Tr) (d : Dt) (ve vk : Value) (w : World) (h : t.rd w w.heap.size ve vk) (hN : t.sz ≤ 90000) :
    Calls Tryz.prog 78 #[.agg #[ve, vk], .agg #[.int .i64 d.dc, .int .i64 d.n]] w fun e w' => e = .returned (.int .i64 (chkI t d)) ∧ Below w.heap.size w w' := by
  have HC : Hid (∀ w', Below w.heap.size w w' → t.rd w' w'.heap.size ve vk) := fun w' hb => rd_below hb hb.size _ _ _ h
  have hcl : (ctxOf t.dots).length ≤ 900000 := by have := ctxOfK_len t.dots 4; have := dots_len t; unfold ctxOf; omega
  have HCL := hid hcl
  obtain ⟨A3, n3, A4, n4, rfl, rfl⟩ := rd_shape h
  have hb0 := ((Below.refl w.heap.size w).alloc (Nat.le_refl _) (.cells #[.slice A3 t.es.length n3, .slice A4 t.ks.length n4] 25)).alloc (by simp) (.cells #[.int .i64 d.dc, .int .i64 d.n] 52)
  clear h hcl
  go_enter Tryz.func78, Tryz.ntmps78
  go_wp2_with fail
  refine (tdots_any t _ _ _ (HC.out _ hb0) hN).mono ?_
  rintro e w1 ⟨v1, n1, rfl, hn1, ho1, hb1⟩
  have hs1 := hb1.size
  simp only [World.size_alloc] at hs1
  have hB1 : Below w.heap.size w w1 := hb0.trans (hb1.mono (by simp; omega))
  have c0 : w1.cell? ⟨w.heap.size + 1, 0, none⟩ = some (.int .i64 d.dc) := by rw [hb1.cell (p := ⟨w.heap.size + 1, 0, none⟩) (by simp)]; simp
  have c1 : w1.cell? ⟨w.heap.size + 1, 1, none⟩ = some (.int .i64 d.n) := by rw [hb1.cell (p := ⟨w.heap.size + 1, 1, none⟩) (by simp)]; simp
  cases hr : t.right 5
  · have HR : Hid (chkT t d = false) := by unfold Hid chkT; rw [hr]; rfl
    rw [hr] at hn1
    obtain rfl : n1 = 1 := hn1
    clear hr ho1
    go_wp2_with fail
    go_ret
    exact ⟨ret_int (by rw [chkI, HR.out]; rfl), hB1⟩
  rw [hr] at hn1 ho1
  obtain rfl : n1 = 0 := hn1
  simp only [if_true] at ho1
  have hsl := ho1.sl (by have := HCL.out; unfold Big; omega)
  have HSL := hid hsl
  cases hd : d.right
  · have HR : Hid (chkT t d = false) := by unfold Hid chkT; rw [hr, hd]; rfl
    have HD := hid hd
    clear hr ho1 hsl hd
    go_wp2_with (go_at_call 109; refine (dright_any d _).mono ?_; rw [HD.out]; rintro e w2 ⟨rfl, hb2⟩)
    go_ret
    exact ⟨ret_int (by rw [chkI, HR.out]; rfl), hB1.trans (hb2.mono (by omega))⟩
  · have HR : Hid (chkT t d = !cHas (ctxOf t.dots) d) := by unfold Hid chkT; rw [hr, hd, chk_eq hr]; rfl
    have HD := hid hd
    clear hr ho1 hsl hd
    go_wp2_with fail
    refine (dright_any d _).mono ?_
    rw [HD.out]
    rintro e w2 ⟨rfl, hb2⟩
    have hs2 := hb2.size
    have d0 : w2.cell? ⟨w.heap.size + 1, 0, none⟩ = some (.int .i64 d.dc) := (hb2.cell (p := ⟨w.heap.size + 1, 0, none⟩) (by show w.heap.size + 1 < _; omega)).trans c0
    have d1 : w2.cell? ⟨w.heap.size + 1, 1, none⟩ = some (.int .i64 d.n) := (hb2.cell (p := ⟨w.heap.size + 1, 1, none⟩) (by show w.heap.size + 1 < _; omega)).trans c1
    go_wp2_with fail
    refine (chas_any (ctxOf t.dots) d v1 w2 (HSL.out.imp hb2 hs2 fun _ _ _ h => h) HCL.out).mono ?_
    rintro e w3 ⟨rfl, hb3⟩
    have hB3 := (hB1.trans (hb2.mono (by omega))).trans (hb3.mono (show w.heap.size ≤ _ by omega))
    generalize cHas (ctxOf t.dots) d = q at *
    cases q
    all_goals
      go_wp2_with fail
      go_ret
      exact ⟨ret_int (by rw [chkI, HR.out]; rfl), hB3⟩
end Go.Proofs.YtlapdmgjfdelnaaGreat

namespace Go.Proofs.YtlapdmgjfdelnaaGreat
open Go.RowKit
set_option maxRecDepth 100000

/-- The call hands back what is known, in blocks of its own, and an error's number. -/
def RetCE (w : World) (t : Tr) (c : List Sp) (k : Int) (e : Ending) (w' : World) : Prop :=
  ∃ ve vk vc, e = .returned (.tuple #[.agg #[ve, vk, vc], .int .i64 k]) ∧ t.rda w' (fun b => w.heap.size ≤ b ∧ b < w'.heap.size) ve vk ∧ SlA w' (fun b => w.heap.size ≤ b ∧ b < w'.heap.size) 3 SpE vc c ∧ Below w.heap.size w w'
theorem chkT_right {t : Tr} {d : Dt} (h : chkT t d = true) : d.right = true := by
  unfold chkT at h; simp at h; exact h.1.2
theorem chkT_tree {t : Tr} {d : Dt} (h : chkT t d = true) : t.right 5 = true := by
  unfold chkT at h; simp at h; exact h.1.1
theorem SlA.one {α : Type} {w : World} {ok : Nat → Prop} {sz n : Nat} {E : α → List Value → Prop} {x : α} {cs : List Value} {e : TypeId} {z : Nat × Nat} (hE : E x cs) (hl : cs.length = sz) (h : w.heap[n]? = some (.cells cs.toArray e z)) (ho : ok n) :
    SlA w ok sz E (.slice (some ⟨n, 0, none⟩) 1 1) [x] := by
  refine ⟨_, 1, rfl, Nat.le_refl _, by simp [Big], fun _ => ⟨_, 0, rfl, ho, fun j y hy => ?_⟩⟩
  match j, hy with
  | 0, hy =>
    simp at hy; subst hy
    exact ⟨cs, hE, hl, fun i u hi => by rw [cell_cells h]; simpa using hi⟩
theorem En.Ok.mk' {d : Dt} {n : Int} (hd : d.Ok) (hn : I64 n) : En.Ok ⟨d.dc, d.n, ByteArray.empty, n⟩ := ⟨hd.dc, hd.n, hn, by simp [Big]⟩
end Go.Proofs.YtlapdmgjfdelnaaGreat

namespace Go.Proofs.YtlapdmgjfdelnaaGreat
open Go.RowKit
set_option maxRecDepth 100000

theorem ctxOf_len (l : List Dt) : (ctxOf l).length ≤ 4 * (l.length + 1) := ctxOfK_len l 4
theorem ctxBy_len (a b : List Sp) (how : Int) : (ctxBy a b how).length ≤ 4 * (2 * a.length + 2 * b.length + 1) := ctxByK_len a b how 4
theorem right_one {d : Dt} (h : d.right = true) : ∀ x ∈ [d], x.right = true := fun x hx => by simp at hx; subst hx; exact h
/-- What a change of a flag has seen. -/
def seenC (t : Tr) (d : Dt) : List Sp := ctxBy (ctxOf t.dots) (ctxOf [d]) 0
theorem seenC_len (t : Tr) (d : Dt) : (seenC t d).length ≤ 4 * (8 * t.sz + 30) := by
  have h1 := ctxBy_len (ctxOf t.dots) (ctxOf [d]) 0
  have h2 := ctxOf_len t.dots
  have h3 := ctxOf_len [d]
  have h4 := dots_len t
  unfold seenC
  simp at h3
  omega

set_option maxHeartbeats 2000000 in
theorem seen_any (t : Tr) (d : Dt) (ve vk : Value) (w : World) (h : t.rd w w.heap.size ve vk) (hN : t.sz ≤ 4000) (hr : t.right 5 = true) (hd : d.right = true) (ho : d.Ok) :
    Calls Tryz.prog 217 #[.agg #[ve, vk], .agg #[.int .i64 d.dc, .int .i64 d.n]] w (RetO w 45 3 (fun _ => SpE) (seenC t d)) := by
  have HC : Hid (∀ w', Below w.heap.size w w' → t.rd w' w'.heap.size ve vk) := fun w' hb => rd_below hb hb.size _ _ _ h
  have hdl := dots_len t
  have h2 := ctxOf_len t.dots
  have h3 := ctxOf_len [d]
  simp only [List.length_singleton] at h3
  have HAA := hid (apart_ctxOf (right_dots t 5 hr))
  have HAB := hid (apart_ctxOf (right_one hd))
  have HDR := hid (right_one hd)
  obtain ⟨A3, n3, A4, n4, rfl, rfl⟩ := rd_shape h
  have hb0 := ((Below.refl w.heap.size w).alloc (Nat.le_refl _) (.cells #[.slice A3 t.es.length n3, .slice A4 t.ks.length n4] 25)).alloc (by simp) (.cells #[.int .i64 d.dc, .int .i64 d.n] 52)
  clear h
  go_enter Tryz.func217, Tryz.ntmps217
  go_wp2_with fail
  refine (tdots_any t _ _ _ (HC.out _ hb0) (by omega)).mono ?_
  rintro e w1 ⟨v1, n1, rfl, hn1, ho1, hb1⟩
  rw [hr] at ho1 hn1
  obtain rfl : n1 = 0 := hn1
  rw [if_pos rfl] at ho1
  have hs1 := hb1.size
  simp only [World.size_alloc] at hs1
  have hB1 : Below w.heap.size w w1 := hb0.trans (hb1.mono (by simp; omega))
  have c0 : w1.cell? ⟨w.heap.size + 1, 0, none⟩ = some (.int .i64 d.dc) := by rw [hb1.cell (p := ⟨w.heap.size + 1, 0, none⟩) (by simp)]; simp
  have c1 : w1.cell? ⟨w.heap.size + 1, 1, none⟩ = some (.int .i64 d.n) := by rw [hb1.cell (p := ⟨w.heap.size + 1, 1, none⟩) (by simp)]; simp
  have HO1 := hid ho1
  clear hr hd ho1
  go_wp2_with fail
  refine (cof_any [d] _ _ (SlP.oneB (E := DtE) (x := d) (cs := [.int .i64 d.dc, .int .i64 d.n]) ⟨rfl, ho⟩ rfl _ rfl (by simp)) HDR.out (by simp)).mono ?_
  rintro e w2 ⟨v2, rfl, ho2, hb2⟩
  have hs2 := hb2.size
  simp only [World.size_alloc] at hs2
  have hb2' : Below w1.heap.size w1 w2 := ((Below.refl _ w1).alloc (Nat.le_refl _) _).trans (hb2.mono (by simp))
  have hsl1 := (HO1.out.grow hb2').sl (by unfold Big; omega)
  have hsl2 := ho2.sl (by unfold Big; omega)
  have H1 := hid hsl1
  have H2 := hid hsl2
  clear hsl1 hsl2 ho2
  go_wp2_with fail
  refine (cunion_any (ctxOf t.dots) (ctxOf [d]) v1 v2 w2 H1.out H2.out HAA.out HAB.out (by omega) (by omega)).mono ?_
  rintro e w3 ⟨v3, rfl, ho3, hb3⟩
  go_wp2_with fail
  go_ret
  exact ⟨_, rfl, ho3.mono (by omega), (hB1.trans (hb2'.mono (by omega))).trans (hb3.mono (by omega))⟩

/-- flag.On's answer. -/
def onB (t : Tr) : Bool := t.right 5 && decide (0 < t.es.length)
theorem fon_any (t : Tr) (w : World) (ve vk : Value) (h : t.rd w w.heap.size ve vk) :
    Calls Tryz.prog 91 #[.agg #[ve, vk]] w fun e w' => e = .returned (.bool (onB t)) ∧ Below w.heap.size w w' := by
  have HC : Hid (∀ w', Below w.heap.size w w' → t.rd w' w'.heap.size ve vk) := fun w' hb => rd_below hb hb.size _ _ _ h
  have hfit := fit_rd _ _ _ h
  have hel : t.es.length ≤ 140737488355328 := by obtain ⟨es, ks⟩ := t; exact hfit.1
  obtain ⟨A3, n3, A4, n4, rfl, rfl⟩ := rd_shape h
  have hb0 := (Below.refl w.heap.size w).alloc (Nat.le_refl _) (.cells #[.slice A3 t.es.length n3, .slice A4 t.ks.length n4] 25)
  clear h hfit
  go_enter Tryz.func91, Tryz.ntmps91
  go_wp2_with fail
  refine (tRight_any t _ _ _ (HC.out _ hb0)).mono ?_
  rintro e w1 ⟨rfl, hb1⟩
  have hs1 := hb1.size
  simp only [World.size_alloc] at hs1
  have hB1 : Below w.heap.size w w1 := hb0.trans (hb1.mono (by simp))
  have c0 : w1.cell? ⟨w.heap.size, 0, none⟩ = some (.slice A3 t.es.length n3) := by rw [hb1.cell (p := ⟨w.heap.size, 0, none⟩) (by simp)]; simp
  cases hr : t.right 5
  · have HR : Hid (onB t = false) := by unfold Hid onB; rw [hr]; rfl
    clear hr
    go_wp2_with fail
    go_ret
    exact ⟨ret_bool HR.out.symm, hB1⟩
  · have HR : Hid (onB t = decide (0 < t.es.length)) := by unfold Hid onB; rw [hr]; rfl
    clear hr
    go_wp2_with fail
    go_ret
    exact ⟨ret_bool HR.out.symm, hB1⟩

/-- What flag.Disable knows. -/
def disC (t : Tr) (d : Dt) : List Sp := if chkT t d then seenC t d else []
set_option maxHeartbeats 4000000 in
theorem fdisable_any (t : Tr) (d : Dt) (ve vk : Value) (w : World) (h : t.rd w w.heap.size ve vk) (hN : t.sz ≤ 4000) (hd : d.Ok) :
    Calls Tryz.prog 185 #[.agg #[ve, vk], .agg #[.int .i64 d.dc, .int .i64 d.n]] w (RetCE w (.mk [] []) (disC t d) (chkI t d)) := by
  have HC : Hid (∀ w', Below w.heap.size w w' → t.rd w' w'.heap.size ve vk) := fun w' hb => rd_below hb hb.size _ _ _ h
  obtain ⟨A3, n3, A4, n4, rfl, rfl⟩ := rd_shape h
  have hb0 := (((Below.refl w.heap.size w).alloc (Nat.le_refl _) (.cells #[.slice A3 t.es.length n3, .slice A4 t.ks.length n4] 25)).alloc (by simp) (.cells #[.int .i64 d.dc, .int .i64 d.n] 52)).alloc (by simp; omega) (.cells #[.slice none 0 0, .slice none 0 0, .slice none 0 0] 29)
  clear h
  go_enter Tryz.func185, Tryz.ntmps185
  go_wp2_with fail
  refine (fcheck_any t d _ _ _ (HC.out _ hb0) (by omega)).mono ?_
  rintro e w1 ⟨rfl, hb1⟩
  have hs1 := hb1.size
  simp only [World.size_alloc] at hs1
  have hB1 : Below w.heap.size w w1 := hb0.trans (hb1.mono (by simp; omega))
  have c0 : w1.cell? ⟨w.heap.size, 0, none⟩ = some (.slice A3 t.es.length n3) := by
    rw [hb1.cell (p := ⟨w.heap.size, 0, none⟩) (by simp; omega)]
    rw [World.cell?_alloc_lt _ _ _ (by simp; omega), World.cell?_alloc_lt _ _ _ (by simp)]; simp
  have c1 : w1.cell? ⟨w.heap.size, 1, none⟩ = some (.slice A4 t.ks.length n4) := by
    rw [hb1.cell (p := ⟨w.heap.size, 1, none⟩) (by simp; omega)]
    rw [World.cell?_alloc_lt _ _ _ (by simp; omega), World.cell?_alloc_lt _ _ _ (by simp)]; simp
  have d0 : w1.cell? ⟨w.heap.size + 1, 0, none⟩ = some (.int .i64 d.dc) := by rw [hb1.cell (p := ⟨w.heap.size + 1, 0, none⟩) (by simp), World.cell?_alloc_lt _ _ _ (by simp)]; simp
  have d1 : w1.cell? ⟨w.heap.size + 1, 1, none⟩ = some (.int .i64 d.n) := by rw [hb1.cell (p := ⟨w.heap.size + 1, 1, none⟩) (by simp), World.cell?_alloc_lt _ _ _ (by simp)]; simp
  have hg : w1.heap[w.heap.size + 2]? = some (.cells #[.slice none 0 0, .slice none 0 0, .slice none 0 0] 29 (0, 0)) := (hb1.block (w.heap.size + 2) (by simp)).trans (heap_new (by simp))
  have HG := hid hg
  have k0 : w1.cell? ⟨w.heap.size + 2, 0, none⟩ = some (.slice none 0 0) := cell_cells (i := 0) hg
  have k1 : w1.cell? ⟨w.heap.size + 2, 1, none⟩ = some (.slice none 0 0) := cell_cells (i := 1) hg
  have k2 : w1.cell? ⟨w.heap.size + 2, 2, none⟩ = some (.slice none 0 0) := cell_cells (i := 2) hg
  have z0 := cells_frz (i := 0) hg
  have z1 := cells_frz (i := 1) hg
  have z2 := cells_frz (i := 2) hg
  clear hg hb1
  cases hc : chkT t d
  · have HE : Hid (chkI t d = 1) := by unfold Hid chkI; rw [hc]; rfl
    have HD : Hid (disC t d = []) := by unfold Hid disC; rw [hc]; rfl
    rw [HE.out]
    clear hc
    go_wp2_with fail
    obtain ⟨r0, r1, r2, hK, hS⟩ := box3 HG.out (.slice none 0 0) (.slice none 0 0) (.slice none 0 0)
    have hBW := ((hB1.setCell (p := ⟨w.heap.size + 2, 0, none⟩) (by simp) (.slice none 0 0)).setCell (p := ⟨w.heap.size + 2, 1, none⟩) (by simp) (.slice none 0 0)).setCell (p := ⟨w.heap.size + 2, 2, none⟩) (by simp) (.slice none 0 0)
    refine bodyPost_ret (v := .tuple #[.agg #[.slice none 0 0, .slice none 0 0, .slice none 0 0], .int .i64 1]) (by simp [results, Tryz.results185, go_sem, r0, r1, r2]) rfl ⟨_, _, _, by rw [HE.out], ?_, ?_, hBW⟩
    · exact rda_nil _ _
    · rw [HD.out]; exact SlA.nil
  · have HE : Hid (chkI t d = 0) := by unfold Hid chkI; rw [hc]; rfl
    have HD : Hid (disC t d = seenC t d) := by unfold Hid disC; rw [hc]; rfl
    have HDR := hid (chkT_right hc)
    have HTR := hid (chkT_tree hc)
    rw [HE.out]
    clear hc
    go_wp2_with fail
    refine (seen_any t d _ _ w1 (HC.out _ hB1) hN HTR.out HDR.out hd).mono ?_
    rintro e w2 ⟨v2, rfl, ho2, hb2⟩
    obtain ⟨A2, c2, rfl⟩ := ho2.shape
    have hs2 := hb2.size
    have hB2 : Below w.heap.size w w2 := hB1.trans (hb2.mono (by omega))
    have HG2 := hid ((hb2.block (w.heap.size + 2) (by omega)).trans HG.out)
    clear k0 k1 k2 z0 z1 z2 c0 c1 d0 d1
    have k0 : w2.cell? ⟨w.heap.size + 2, 0, none⟩ = some (.slice none 0 0) := cell_cells (i := 0) HG2.out
    have k1 : w2.cell? ⟨w.heap.size + 2, 1, none⟩ = some (.slice none 0 0) := cell_cells (i := 1) HG2.out
    have k2 : w2.cell? ⟨w.heap.size + 2, 2, none⟩ = some (.slice none 0 0) := cell_cells (i := 2) HG2.out
    have z0 := cells_frz (i := 0) HG2.out
    have z1 := cells_frz (i := 1) HG2.out
    have z2 := cells_frz (i := 2) HG2.out
    have HO2 := hid ho2
    have hsc := seenC_len t d
    clear ho2
    go_wp2_with fail
    obtain ⟨r0, r1, r2, hK, hS⟩ := box3 HG2.out (.slice none 0 0) (.slice none 0 0) (.slice A2 (seenC t d).length c2)
    have hBW := ((hB2.setCell (p := ⟨w.heap.size + 2, 0, none⟩) (by simp) (.slice none 0 0)).setCell (p := ⟨w.heap.size + 2, 1, none⟩) (by simp) (.slice none 0 0)).setCell (p := ⟨w.heap.size + 2, 2, none⟩) (by simp) (.slice A2 (seenC t d).length c2)
    refine bodyPost_ret (v := .tuple #[.agg #[.slice none 0 0, .slice none 0 0, .slice A2 (seenC t d).length c2], .int .i64 0]) (by simp [results, Tryz.results185, go_sem, r0, r1, r2]) rfl ⟨_, _, _, by rw [HE.out], rda_nil _ _, ?_, hBW⟩
    rw [HD.out]
    refine (HO2.out.sla (by unfold Big; omega)).up (fun b hb => hK b (by have := hb.1; omega)) (fun b hb => ⟨by have := hb.1; omega, by rw [hS]; exact hb.2.1⟩) (fun _ _ _ h => h)
end Go.Proofs.YtlapdmgjfdelnaaGreat

namespace Go.Proofs.YtlapdmgjfdelnaaGreat
open Go.RowKit
set_option maxRecDepth 100000

/-- What set.check tells. -/
def sckB (t : Tr) (s : ByteArray) (d : Dt) : Bool := chkT t d && keyB s
def sckI (t : Tr) (s : ByteArray) (d : Dt) : Int := if sckB t s d then 0 else 1
set_option maxHeartbeats 2000000 in
theorem scheck_any (t : Tr) (s : ByteArray) (d : Dt) (ve vk : Value) (w : World) (h : t.rd w w.heap.size ve vk) (hs : s.size ≤ Big) (hN : t.sz ≤ 90000) :
    Calls Tryz.prog 218 #[.agg #[ve, vk], .string s, .agg #[.int .i64 d.dc, .int .i64 d.n]] w fun e w' => e = .returned (.int .i64 (sckI t s d)) ∧ Below w.heap.size w w' := by
  have HC : Hid (∀ w', Below w.heap.size w w' → t.rd w' w'.heap.size ve vk) := fun w' hb => rd_below hb hb.size _ _ _ h
  obtain ⟨A3, n3, A4, n4, rfl, rfl⟩ := rd_shape h
  have hb0 := ((Below.refl w.heap.size w).alloc (Nat.le_refl _) (.cells #[.slice A3 t.es.length n3, .slice A4 t.ks.length n4] 25)).alloc (by simp) (.cells #[.int .i64 d.dc, .int .i64 d.n] 52)
  unfold Big at hs
  clear h
  go_enter Tryz.func218, Tryz.ntmps218
  go_wp2_with fail
  refine (fcheck_any t d _ _ _ (HC.out _ hb0) (by omega)).mono ?_
  rintro e w1 ⟨rfl, hb1⟩
  have hB1 : Below w.heap.size w w1 := hb0.trans (hb1.mono (by simp; omega))
  clear hb1 hb0
  cases hc : chkT t d
  · have HI : Hid (chkI t d = 1) := by unfold Hid chkI; rw [hc]; rfl
    have HR : Hid (sckI t s d = 1) := by unfold Hid sckI sckB; rw [hc]; rfl
    rw [HI.out]
    clear hc
    go_wp2_with fail
    go_ret
    exact ⟨ret_int HR.out.symm, hB1⟩
  have HI : Hid (chkI t d = 0) := by unfold Hid chkI; rw [hc]; rfl
  rw [HI.out]
  cases hk : keyB s
  · have HR : Hid (sckI t s d = 1) := by unfold Hid sckI sckB; rw [hc, hk]; rfl
    have hkb : ¬ (1 ≤ s.size ∧ s.size ≤ 30) := by simpa [keyB] using hk
    clear hc hk
    by_cases hz : s.size < 1
    · have t1 : decide ((s.size : Int) < 1) = true := by simp; omega
      go_wp2_with fail
      go_ret
      exact ⟨ret_int HR.out.symm, hB1⟩
    · have t1 : decide ((s.size : Int) < 1) = false := by simp; omega
      have t2 : decide ((30 : Int) < s.size) = true := by simp; omega
      go_wp2_with fail
      go_ret
      exact ⟨ret_int HR.out.symm, hB1⟩
  · have HR : Hid (sckI t s d = 0) := by unfold Hid sckI sckB; rw [hc, hk]; rfl
    have hkb : 1 ≤ s.size ∧ s.size ≤ 30 := by simpa [keyB] using hk
    have t1 : decide ((s.size : Int) < 1) = false := by simp; omega
    have t2 : decide ((30 : Int) < s.size) = false := by simp; omega
    clear hc hk
    go_wp2_with fail
    go_ret
    exact ⟨ret_int HR.out.symm, hB1⟩

theorem setHasClo_any (key x : ByteArray) (A A' : Option Addr) (n c n' c' : Nat) (B : Nat) (w : World) (hc : w.cell? ⟨B, 0, none⟩ = some (.string key)) (hB : B < w.heap.size) :
    Calls Tryz.prog 248 #[.agg #[.string x, .slice A n c, .slice A' n' c'], .pointer (some ⟨B, 0, none⟩)] w fun e w' => e = .returned (.bool (decide (x = key))) ∧ Below w.heap.size w w' := by
  have hne : B ≠ w.heap.size := by omega
  have HE : Hid ((x.toList == key.toList) = decide (x = key)) := by
    unfold Hid; rw [Bool.eq_iff_iff]; simp [bytes_inj]
  go_enter Tryz.func248, Tryz.ntmps248
  go_wp2_with fail
  go_ret
  exact ⟨ret_bool HE.out, by go_grown⟩
theorem setHasTest {key : ByteArray} {B : Nat} {w : World} (hc : w.cell? ⟨B, 0, none⟩ = some (.string key)) (hB : B < w.heap.size) : TestKid 248 #[.pointer (some ⟨B, 0, none⟩)] (fun x => decide (x = key)) w :=
  ⟨enters_of Tryz.func248 (by kernel_rfl) rfl, fun x A A' n c n' c' W _ hW => setHasClo_any key x A A' n c n' c' B W ((hW.cell (p := ⟨B, 0, none⟩) hB).trans hc) (by have := hW.size; omega)⟩
/-- Is there a kid at this key? -/
def hasK (t : Tr) (s : ByteArray) : Bool := t.ks.any fun y => decide (y.1 = s)
theorem sethas_any (t : Tr) (s : ByteArray) (ve vk : Value) (w : World) (h : t.rd w w.heap.size ve vk) :
    Calls Tryz.prog 219 #[.agg #[ve, vk], .string s] w fun e w' => e = .returned (.bool (hasK t s)) ∧ Below w.heap.size w w' := by
  have HK : Hid (∀ w', Below w.heap.size w w' → SlP w' w'.heap.size 3 (KdE w' w'.heap.size) vk t.ks) := fun w' hb => kids_slp (rd_below hb hb.size _ _ _ h)
  obtain ⟨A3, n3, A4, n4, rfl, rfl⟩ := rd_shape h
  clear h
  go_enter Tryz.func219, Tryz.ntmps219
  go_wp2_with fail
  refine (conKid_any (fun y => decide (y = s)) _ _ t.ks _ _ (HK.out _ (by go_grown)) (setHasTest (key := s) (B := w.heap.size + 1) (by simp) (by simp))).mono ?_
  rintro e w1 ⟨rfl, hb1⟩
  go_wp2_with fail
  go_ret
  exact ⟨ret_bool rfl, Below.trans (by go_grown) (hb1.mono (by simp; omega))⟩

theorem kid_right5 {t : Tr} (h : t.right 5 = true) (s : ByteArray) : (kidT t s).right 5 = true := right_up _ 4 5 (kidT_right (n := 4) h (by omega) s) (by omega)
set_option maxHeartbeats 2000000 in
theorem sseen_any (t : Tr) (s : ByteArray) (d : Dt) (ve vk : Value) (w : World) (h : t.rd w w.heap.size ve vk) (hs : s.size ≤ Big) (hN : t.sz ≤ 4000) (hr : t.right 5 = true) (hd : d.right = true) (ho : d.Ok) :
    Calls Tryz.prog 220 #[.agg #[ve, vk], .string s, .agg #[.int .i64 d.dc, .int .i64 d.n]] w (RetO w 45 3 (fun _ => SpE) (seenC (kidT t s) d)) := by
  have HC : Hid (∀ w', Below w.heap.size w w' → t.rd w' w'.heap.size ve vk) := fun w' hb => rd_below hb hb.size _ _ _ h
  have hk5 := kid_right5 hr s
  have hks := kidT_sz t s
  have hG : tgetT t [s] = kidT t s := by unfold tgetT; rw [hr]; rfl
  have HSN : Hid (seenC (kidT t s) d = ctxBy (ctxOf (kidT t s).dots) (ctxOf [d]) 0) := rfl
  generalize kidT t s = u at *
  have hdl := dots_len u
  have h2 := ctxOf_len u.dots
  have h3 := ctxOf_len [d]
  simp only [List.length_singleton] at h3
  have HAA := hid (apart_ctxOf (right_dots u 5 hk5))
  have HAB := hid (apart_ctxOf (right_one hd))
  have HDR := hid (right_one hd)
  obtain ⟨A3, n3, A4, n4, rfl, rfl⟩ := rd_shape h
  have hb0 := ((Below.refl w.heap.size w).alloc (Nat.le_refl _) (.cells #[.slice A3 t.es.length n3, .slice A4 t.ks.length n4] 25)).alloc (by simp) (.cells #[.int .i64 d.dc, .int .i64 d.n] 52)
  have hb1 : Below w.heap.size w (((w.alloc (.cells #[.slice A3 t.es.length n3, .slice A4 t.ks.length n4] 25)).alloc (.cells #[.int .i64 d.dc, .int .i64 d.n] 52)).alloc (.cells #[.string s] 9)) := hb0.alloc (by simp; omega) _
  clear h hr hd
  go_enter Tryz.func220, Tryz.ntmps220
  go_wp2_with fail
  refine (tget_any t [s] _ _ _ _ (HC.out _ hb1) (SlP.oneB (E := StE) (n := w.heap.size + 1 + 1) (x := s) (cs := [.string s]) ⟨rfl, hs⟩ rfl _ (by simp) (by simp)) (by omega)).mono ?_
  rw [hG]
  rintro e w1 ⟨ve1, vk1, rfl, hrd1, hb2⟩
  obtain ⟨A5, n5, A6, n6, rfl, rfl⟩ := rda_shape hrd1
  have hs1 := hb2.size
  simp only [World.size_alloc] at hs1
  have hB1 : Below w.heap.size w w1 := hb1.trans (hb2.mono (by simp; omega))
  have c0 : w1.cell? ⟨w.heap.size + 1, 0, none⟩ = some (.int .i64 d.dc) := by
    rw [hb2.cell (p := ⟨w.heap.size + 1, 0, none⟩) (by simp), World.cell?_alloc_lt _ _ _ (by simp)]; simp
  have c1 : w1.cell? ⟨w.heap.size + 1, 1, none⟩ = some (.int .i64 d.n) := by
    rw [hb2.cell (p := ⟨w.heap.size + 1, 1, none⟩) (by simp), World.cell?_alloc_lt _ _ _ (by simp)]; simp
  have HU := hid (rda_rd hrd1 (fun b hb => hb.2) (Below.refl _ w1))
  have HK5 := hid hk5
  clear hrd1 hb2 hG hk5
  go_wp2_with fail
  refine (tdots_any u _ _ w1 HU.out (by omega)).mono ?_
  rintro e w2 ⟨v2, n2, rfl, hn2, ho2, hb2⟩
  rw [HK5.out] at ho2 hn2
  obtain rfl : n2 = 0 := hn2
  rw [if_pos rfl] at ho2
  obtain ⟨A7, n7, rfl⟩ := ho2.shape
  have hs2 := hb2.size
  have hB2 : Below w.heap.size w w2 := hB1.trans (hb2.mono (by omega))
  have d0 : w2.cell? ⟨w.heap.size + 1, 0, none⟩ = some (.int .i64 d.dc) := (hb2.cell (p := ⟨w.heap.size + 1, 0, none⟩) (by show w.heap.size + 1 < _; omega)).trans c0
  have d1 : w2.cell? ⟨w.heap.size + 1, 1, none⟩ = some (.int .i64 d.n) := (hb2.cell (p := ⟨w.heap.size + 1, 1, none⟩) (by show w.heap.size + 1 < _; omega)).trans c1
  have HO2 := hid ho2
  clear ho2 c0 c1 hb2
  go_wp2_with fail
  refine (cof_any [d] _ _ (SlP.oneB (E := DtE) (x := d) (cs := [.int .i64 d.dc, .int .i64 d.n]) ⟨rfl, ho⟩ rfl _ rfl (by simp)) HDR.out (by simp)).mono ?_
  rintro e w3 ⟨v3, rfl, ho3, hb3⟩
  obtain ⟨A8, n8, rfl⟩ := ho3.shape
  have hs3 := hb3.size
  simp only [World.size_alloc] at hs3
  have hb3' : Below w2.heap.size w2 w3 := ((Below.refl _ w2).alloc (Nat.le_refl _) _).trans (hb3.mono (by simp))
  have H1 := hid ((HO2.out.grow hb3').sl (by unfold Big; omega))
  have H2 := hid (ho3.sl (by unfold Big; omega))
  clear ho3 hb3 d0 d1
  go_wp2_with fail
  refine (cunion_any (ctxOf u.dots) (ctxOf [d]) _ _ w3 H1.out H2.out HAA.out HAB.out (by omega) (by omega)).mono ?_
  rintro e w4 ⟨v4, rfl, ho4, hb4⟩
  go_wp2_with fail
  go_ret
  exact ⟨_, rfl, by rw [HSN.out]; exact ho4.mono (by omega), (hB2.trans (hb3'.mono (by omega))).trans (hb4.mono (by omega))⟩
end Go.Proofs.YtlapdmgjfdelnaaGreat
