/- What the laws need, part 1: set.Elems, set.Has, tributaryref10.Elems, tributaryref10.Less, slices.Contains at texts. No condition but that there are not too many. set.check, set.has, set.seen. No condition but that there are not too many entries. set.Del. No condition but that there are not too many entries. set.Add. No condition but that there are not too many entries. Plain facts on trees of one key, on the elements of a tree, and on trees in which no dot stands twice. The plain law of SetTurns. tributaryref10.Sorted, Texts. No condition but that there are not too many. tributaryref08.Once, tributaryref10.With. No condition but that there are not too many. tributarylaw11.awake answers true. No condition. tributarylaw11.small, may, seen. No condition but that there are not too many entries. -/
import Derived.Test.YtmphgnjodangcaaGreatUa10
namespace Go.Proofs.YtmphgnjodangcaaGreat
open Go.RowKit
set_option maxRecDepth 100000

def elP (x : Kd) : Bool := decide (0 < x.2.es.length)
def elL (ks : List Kd) : List ByteArray := (ks.filter elP).map (·.1)
theorem elL_take {ks : List Kd} {k : Nat} {x : Kd} (h : ks[k]? = some x) : elL (ks.take (k + 1)) = elL (ks.take k) ++ (if elP x then [x.1] else []) := by
  unfold elL
  rw [List.take_add_one, h, List.filter_append, List.map_append]
  cases hp : elP x <;> simp [hp]
theorem elL_len (ks : List Kd) : (elL ks).length ≤ ks.length := by unfold elL; rw [List.length_map]; exact List.length_filter_le _ _
/-- What set.Elems tells. -/
def elemsOf (t : Tr) : List ByteArray := if t.right 5 then elL t.ks else []
set_option maxHeartbeats 4000000 in
theorem selems_any (t : Tr) (w : World) (ve vk : Value) (h : t.rd w w.heap.size ve vk) (hN : t.ks.length ≤ 900000) :
    Calls Tryz.prog 69 #[.agg #[ve, vk]] w (RetO w 9 1 (fun _ => StE) (elemsOf t)) := by
  have HC : Hid (∀ w', Below w.heap.size w w' → t.rd w' w'.heap.size ve vk) := fun w' hb => rd_below hb hb.size _ _ _ h
  have HK0 : Hid (elemsOf t = if t.right 5 then elL t.ks else []) := rfl
  obtain ⟨es, ks⟩ := t
  rw [rd_iff] at h
  obtain ⟨⟨A0, n0, rfl, d1, d2, d3⟩, ⟨A, m, rfl, c1, c2, c3⟩⟩ := h
  unfold Big at c2 d2
  simp only [Tr.ks] at hN HK0 ⊢
  have hb0 : Below w.heap.size w (w.alloc (.cells #[.slice A0 es.length n0, .slice A ks.length m] 27)) := (Below.refl _ w).alloc (Nat.le_refl _) _
  go_enter Tryz.func69, Tryz.ntmps69
  go_wp2_with fail
  refine (tRight_any _ _ _ _ (HC.out _ hb0)).mono ?_
  rintro e w1 ⟨rfl, hb1⟩
  have hs1 := hb1.size
  simp only [World.size_alloc] at hs1
  have hB1 : Below w.heap.size w w1 := hb0.trans (hb1.mono (by simp))
  have b1 : w1.cell? ⟨w.heap.size, 1, none⟩ = some (.slice A ks.length m) := by rw [hb1.cell (p := ⟨w.heap.size, 1, none⟩) (by simp)]; simp
  cases hr : (Tr.mk es ks).right 5
  · have HK : Hid (elemsOf (.mk es ks) = []) := by unfold Hid; rw [HK0.out, hr]; rfl
    clear hr
    go_wp2_with fail
    go_ret
    exact ⟨_, rfl, by rw [HK.out]; exact OwnP.nil, hB1⟩
  have HK : Hid (elemsOf (.mk es ks) = elL ks) := by unfold Hid; rw [HK0.out, hr]; rfl
  clear hr d3 d2 d1
  go_wp2_with fail
  go_loopw [3, 11] (fun v i wr => ∃ k : Nat, k ≤ ks.length ∧ i = .int .i64 k ∧ OwnP wr (w.heap.size + 1) 9 1 StE v (elL (ks.take k)) ∧ Below (w.heap.size + 1) w1 wr) (fun _ i _ => ks.length - (intOf i).toNat)
  case atStart => exact ⟨0, Nat.zero_le _, rfl, OwnP.nil, Below.refl _ _⟩
  case round =>
    obtain ⟨k, hk, rfl, hown, hb⟩ := hrel
    have hsz := hb.size
    have hB0 : Below w.heap.size w wr := hB1.trans (hb.mono (by omega))
    by_cases hlt : k < ks.length
    · obtain ⟨⟨key, t⟩, hx⟩ : ∃ x, ks[k]? = some x := ⟨_, List.getElem?_eq_getElem hlt⟩
      obtain ⟨b, off, rfl, hbB, hc⟩ := c3 (by rintro rfl; simp at hlt)
      obtain ⟨cs, ⟨ve', vk', rfl, hkb, hrd⟩, _, hu⟩ := hc k _ hx
      have hte : t.es.length ≤ 140737488355328 := by have := fit_rd _ _ _ hrd; obtain ⟨es', ks'⟩ := t; exact this.1
      obtain ⟨A5, n5, A6, n6, rfl, rfl⟩ := rd_shape hrd
      have e0 : wr.cell? ⟨b, off + k * 3, none⟩ = some (.string key) := (hB0.cell hbB).trans (hu 0 _ rfl)
      have e1 : wr.cell? ⟨b, off + k * 3 + 1, none⟩ = some (.slice A5 t.es.length n5) := (hB0.cell hbB).trans (hu 1 _ rfl)
      have e2 : wr.cell? ⟨b, off + k * 3 + 2, none⟩ = some (.slice A6 t.ks.length n6) := (hB0.cell hbB).trans (hu 2 _ rfl)
      have HT : Hid (elL (ks.take (k + 1)) = elL (ks.take k) ++ (if elP (key, t) then [key] else [])) := elL_take hx
      have HKY : Hid (StE key [.string key]) := ⟨rfl, hkb⟩
      have hfi : decide ((0 : Int) < (t.es.length : Int)) = decide (0 < t.es.length) := by simp
      clear hu hc c3 hx hrd hb0 hb1 b1
      cases he : decide (0 < t.es.length)
      · have HX : Hid (elL (ks.take (k + 1)) = elL (ks.take k)) := by unfold Hid; rw [HT.out, show elP (key, t) = false from he]; simp
        rw [he] at hfi
        go_wp2_with fail
        go_roundw
        case rel => exact ⟨k + 1, by omega, by go_num, by rw [HX.out]; exact hown.alloc _, hb.alloc (by omega) _⟩
        case measure => simp [intOf]; omega
      · have HX : Hid (elL (ks.take (k + 1)) = elL (ks.take k) ++ [key]) := by unfold Hid; rw [HT.out, show elP (key, t) = true from he]; rfl
        have HL : Hid ((elL (ks.take k)).length + [key].length ≤ Few) := by have := elL_len (ks.take k); unfold Hid Few; simp at this ⊢; omega
        rw [he] at hfi
        go_wp2_with (at_builtin; go_loud ((with_reducible refine wpList_few rfl (.tmp 20) (.tmp 23) _ rfl eiStr (by decide) (by decide) (fun _ _ h => StE.one h) rfl ((hown.alloc _).alloc _) rfl (SlP.oneN (x := key) HKY.out rfl _ rfl) HL.out (by simp only [World.size_alloc]; omega) ?_); intro v1 w2 hown1 hb2 _; have hb3 := (((Below.refl (w.heap.size + 1) wr).alloc (by omega) _).alloc (by simp only [World.size_alloc]; omega) _).trans hb2))
        go_roundw
        case rel => exact ⟨k + 1, by omega, by go_num, by rw [HX.out]; exact hown1, hb.trans hb3⟩
        case measure => simp [intOf]; omega
    · obtain rfl : k = ks.length := by omega
      rw [List.take_of_length_le (Nat.le_refl _)] at hown
      go_wp2_with fail
      go_ret
      exact ⟨_, rfl, by rw [HK.out]; exact hown.mono (by omega), hB0⟩

set_option maxHeartbeats 4000000 in
theorem r10elems_any (t : Tr) (w : World) (ve vk : Value) (h : t.rd w w.heap.size ve vk) (hN : t.ks.length ≤ 900000) :
    Calls Tryz.prog 68 #[.agg #[ve, vk]] w (RetO w 9 1 (fun _ => StE) (elL t.ks)) := by
  obtain ⟨es, ks⟩ := t
  rw [rd_iff] at h
  obtain ⟨⟨A0, n0, rfl, d1, d2, d3⟩, ⟨A, m, rfl, c1, c2, c3⟩⟩ := h
  unfold Big at c2 d2
  simp only [Tr.ks] at hN ⊢
  have hb0 : Below w.heap.size w (w.alloc (.cells #[.slice A0 es.length n0, .slice A ks.length m] 27)) := (Below.refl _ w).alloc (Nat.le_refl _) _
  go_enter Tryz.func68, Tryz.ntmps68
  go_wp2_with fail
  go_loopw [3, 8] (fun v i wr => ∃ k : Nat, k ≤ ks.length ∧ i = .int .i64 k ∧ OwnP wr (w.heap.size + 1) 9 1 StE v (elL (ks.take k)) ∧ Below (w.heap.size + 1) (w.alloc (.cells #[.slice A0 es.length n0, .slice A ks.length m] 27)) wr) (fun _ i _ => ks.length - (intOf i).toNat)
  case atStart => exact ⟨0, Nat.zero_le _, rfl, OwnP.nil, Below.refl _ _⟩
  case round =>
    obtain ⟨k, hk, rfl, hown, hb⟩ := hrel
    have hsz := hb.size
    simp only [World.size_alloc] at hsz
    have hB0 : Below w.heap.size w wr := hb0.trans (hb.mono (by omega))
    by_cases hlt : k < ks.length
    · obtain ⟨⟨key, t⟩, hx⟩ : ∃ x, ks[k]? = some x := ⟨_, List.getElem?_eq_getElem hlt⟩
      obtain ⟨b, off, rfl, hbB, hc⟩ := c3 (by rintro rfl; simp at hlt)
      obtain ⟨cs, ⟨ve', vk', rfl, hkb, hrd⟩, _, hu⟩ := hc k _ hx
      have hte : t.es.length ≤ 140737488355328 := by have := fit_rd _ _ _ hrd; obtain ⟨es', ks'⟩ := t; exact this.1
      obtain ⟨A5, n5, A6, n6, rfl, rfl⟩ := rd_shape hrd
      have e0 : wr.cell? ⟨b, off + k * 3, none⟩ = some (.string key) := (hB0.cell hbB).trans (hu 0 _ rfl)
      have e1 : wr.cell? ⟨b, off + k * 3 + 1, none⟩ = some (.slice A5 t.es.length n5) := (hB0.cell hbB).trans (hu 1 _ rfl)
      have z1 : wr.cell? ⟨w.heap.size, 1, none⟩ = some (.slice (some ⟨b, off, none⟩) ks.length m) := by rw [hb.cell (p := ⟨w.heap.size, 1, none⟩) (by simp)]; simp
      have HT : Hid (elL (ks.take (k + 1)) = elL (ks.take k) ++ (if elP (key, t) then [key] else [])) := elL_take hx
      have HK : Hid (StE key [.string key]) := ⟨rfl, hkb⟩
      have hfi : decide ((0 : Int) < (t.es.length : Int)) = decide (0 < t.es.length) := by simp
      clear hu hc c3 hx hrd d3 hb0
      cases he : decide (0 < t.es.length)
      · have HX : Hid (elL (ks.take (k + 1)) = elL (ks.take k)) := by unfold Hid; rw [HT.out, show elP (key, t) = false from he]; simp
        rw [he] at hfi
        go_wp2_with fail
        go_roundw
        case rel => exact ⟨k + 1, by omega, by go_num, by rw [HX.out]; exact hown, hb⟩
        case measure => simp [intOf]; omega
      · have HX : Hid (elL (ks.take (k + 1)) = elL (ks.take k) ++ [key]) := by unfold Hid; rw [HT.out, show elP (key, t) = true from he]; rfl
        have HL : Hid ((elL (ks.take k)).length + [key].length ≤ Few) := by have := elL_len (ks.take k); unfold Hid Few; simp at this ⊢; omega
        rw [he] at hfi
        go_wp2_with (at_builtin; go_loud ((with_reducible refine wpList_few rfl (.tmp 20) (.tmp 27) _ rfl eiStr (by decide) (by decide) (fun _ _ h => StE.one h) rfl (hown.alloc _) rfl (SlP.one (x := key) HK.out rfl _ rfl) HL.out (by rw [World.size_alloc]; omega) ?_); intro v1 w1 hown1 hb1 _; have hb2 := ((Below.refl (w.heap.size + 1) wr).alloc (by omega) _).trans hb1))
        go_roundw
        case rel => exact ⟨k + 1, by omega, by go_num, by rw [HX.out]; exact hown1, hb.trans hb2⟩
        case measure => simp [intOf]; omega
    · obtain rfl : k = ks.length := by omega
      rw [List.take_of_length_le (Nat.le_refl _)] at hown
      go_wp2_with fail
      go_ret
      exact ⟨_, rfl, hown.mono (by omega), hB0⟩

/-- What tributaryref10.Less tells. -/
def lessL (l : List ByteArray) (s : ByteArray) : List ByteArray := l.filter fun x => !decide (x = s)
theorem lessL_take {l : List ByteArray} {k : Nat} {x : ByteArray} (h : l[k]? = some x) (s : ByteArray) : lessL (l.take (k + 1)) s = lessL (l.take k) s ++ (if x = s then [] else [x]) := by
  unfold lessL
  rw [List.take_add_one, h, List.filter_append]
  by_cases hp : x = s <;> simp [hp]
theorem lessL_len (l : List ByteArray) (s : ByteArray) : (lessL l s).length ≤ l.length := List.length_filter_le _ _
theorem lessL_lt (l : List ByteArray) (s : ByteArray) : decide ((lessL l s).length < l.length) = l.any fun x => decide (s = x) := by
  induction l with
  | nil => rfl
  | cons y l ih =>
    have h := lessL_len l s
    by_cases e : y = s
    · have : lessL (y :: l) s = lessL l s := by simp [lessL, e]
      rw [this, List.any_cons]; simp [e]; omega
    · have h2 : lessL (y :: l) s = y :: lessL l s := by simp [lessL, e]
      rw [h2, List.any_cons, ← ih]
      have e' : ¬ s = y := fun h => e h.symm
      simp [e']
set_option maxHeartbeats 4000000 in
theorem r10less_any (l : List ByteArray) (s : ByteArray) (v : Value) (w : World) (h : SlP w w.heap.size 1 StE v l) (hN : l.length ≤ 900000) :
    Calls Tryz.prog 71 #[v, .string s] w (RetO w 9 1 (fun _ => StE) (lessL l s)) := by
  obtain ⟨A, n, rfl, b1, b2, b3⟩ := h
  unfold Big at b2
  go_enter Tryz.func71, Tryz.ntmps71
  go_wp2_with fail
  go_loopw [5, 9] (fun v i wr => ∃ k : Nat, k ≤ l.length ∧ i = .int .i64 k ∧ OwnP wr w.heap.size 9 1 StE v (lessL (l.take k) s) ∧ Below w.heap.size w wr) (fun _ i _ => l.length - (intOf i).toNat)
  case atStart => exact ⟨0, Nat.zero_le _, rfl, OwnP.nil, Below.refl _ _⟩
  case round =>
    obtain ⟨k, hk, rfl, hown, hb⟩ := hrel
    have hsz := hb.size
    by_cases hlt : k < l.length
    · obtain ⟨x, hx⟩ : ∃ x, l[k]? = some x := ⟨_, List.getElem?_eq_getElem hlt⟩
      obtain ⟨b, off, rfl, hbB, hc⟩ := b3 (by rintro rfl; simp at hlt)
      obtain ⟨cs, ⟨rfl, hok⟩, _, hu⟩ := hc k _ hx
      have e0 : wr.cell? ⟨b, off + k, none⟩ = some (.string x) := (hb.cell hbB).trans (by simpa using hu 0 _ rfl)
      have HT := hid (lessL_take hx s)
      have HK : Hid (StE x [.string x]) := ⟨rfl, hok⟩
      clear hu hc b3 hx
      by_cases he : x = s
      · have HX : Hid (lessL (l.take (k + 1)) s = lessL (l.take k) s) := by unfold Hid; rw [HT.out, if_pos he]; simp
        have hq : (x.toList == s.toList) = true := by rw [he]; simp
        clear he
        go_wp2_with fail
        go_roundw
        case rel => exact ⟨k + 1, by omega, by go_num, by rw [HX.out]; exact hown, hb⟩
        case measure => simp [intOf]; omega
      · have HX : Hid (lessL (l.take (k + 1)) s = lessL (l.take k) s ++ [x]) := by unfold Hid; rw [HT.out, if_neg he]
        have HL : Hid ((lessL (l.take k) s).length + [x].length ≤ Few) := by have := lessL_len (l.take k) s; unfold Hid Few; simp at this ⊢; omega
        have hq : (x.toList == s.toList) = false := by simp [bytes_inj]; exact he
        clear he
        go_wp2_with (at_builtin; go_loud ((with_reducible refine wpList_few rfl (.tmp 18) (.tmp 23) _ rfl eiStr (by decide) (by decide) (fun _ _ h => StE.one h) rfl (hown.alloc _) rfl (SlP.one (x := x) HK.out rfl _ rfl) HL.out (by rw [World.size_alloc]; omega) ?_); intro v1 w1 hown1 hb1 _; have hb2 := ((Below.refl w.heap.size wr).alloc (by omega) _).trans hb1))
        go_roundw
        case rel => exact ⟨k + 1, by omega, by go_num, by rw [HX.out]; exact hown1, hb.trans hb2⟩
        case measure => simp [intOf]; omega
    · obtain rfl : k = l.length := by omega
      rw [List.take_of_length_le (Nat.le_refl _)] at hown
      go_wp2_with fail
      go_ret
      exact ⟨_, rfl, hown, hb⟩

set_option maxHeartbeats 1000000 in
theorem indexStr_any (l : List ByteArray) (s : ByteArray) (v : Value) (w : World) (B : Nat) (h : SlP w B 1 StE v l) :
    Calls Tryz.prog 203 #[v, .string s] w fun e w' => e = .returned (.int .i64 (idxI (fun x => decide (s = x)) l)) ∧ w = w' := by
  obtain ⟨A, n, rfl, b1, b2, b3⟩ := h
  unfold Big at b2
  go_enter Tryz.func203, Tryz.ntmps203
  go_wp2_with fail
  go_loop [8] (fun i => ∃ k : Nat, k ≤ l.length ∧ i = .int .i64 k ∧ Hid (∀ (j : Nat) y, j < k → l[j]? = some y → (fun x => decide (s = x)) y = false)) (fun i => l.length - (intOf i).toNat)
  case atStart => exact ⟨0, Nat.zero_le _, rfl, fun j y hj => absurd hj (Nat.not_lt_zero _)⟩
  case round =>
    obtain ⟨k, hk, rfl, hrel⟩ := hrel
    by_cases hlt : k < l.length
    · obtain ⟨x, hx⟩ : ∃ x, l[k]? = some x := ⟨_, List.getElem?_eq_getElem hlt⟩
      obtain ⟨b, off, rfl, hbB, hc⟩ := b3 (by rintro rfl; simp at hlt)
      obtain ⟨cs, ⟨rfl, hok⟩, _, hu⟩ := hc k _ hx
      have e0 : w.cell? ⟨b, off + k, none⟩ = some (.string x) := by simpa using hu 0 _ rfl
      have HX := hid hx
      clear hu hc b3 hx
      by_cases he : s = x
      · have HQ : Hid ((fun x => decide (s = x)) x = true) := by unfold Hid; simpa using he
        have hq : (s.toList == x.toList) = true := by rw [he]; simp
        clear he
        go_wp2_with fail
        go_ret
        exact ⟨ret_int (idxI_hit hrel.out HX.out HQ.out).symm, rfl⟩
      · have HQ : Hid ((fun x => decide (s = x)) x = false) := by unfold Hid; simpa using he
        have hq : (s.toList == x.toList) = false := by simp [bytes_inj]; exact he
        clear he
        go_wp2_with fail
        go_round
        case rel =>
          refine ⟨k + 1, by omega, by go_num, fun j y hj hy => ?_⟩
          by_cases hjk : j = k
          · subst hjk; have h2 := HX.out; rw [hy] at h2; cases h2; exact HQ.out
          · exact hrel.out j y (by omega) hy
        case measure => simp [intOf]; omega
    · obtain rfl : k = l.length := by omega
      go_wp2_with fail
      go_ret
      exact ⟨ret_int (idxI_miss hrel.out).symm, rfl⟩
theorem containsStr_any (l : List ByteArray) (s : ByteArray) (v : Value) (w : World) (h : SlP w w.heap.size 1 StE v l) :
    Calls Tryz.prog 146 #[v, .string s] w fun e w' => e = .returned (.bool (l.any fun x => decide (s = x))) ∧ w = w' := by
  have hbd := idxI_bd (fun x => decide (s = x)) l
  have HA := hid (idxI_any (fun x => decide (s = x)) l)
  obtain ⟨A, n, rfl, b1, b2, b3⟩ := h
  unfold Big at b2
  go_enter Tryz.func146, Tryz.ntmps146
  go_wp2_with fail
  refine (indexStr_any l s _ w w.heap.size ⟨A, n, rfl, b1, by unfold Big; omega, b3⟩).mono ?_
  rintro e w1 ⟨rfl, rfl⟩
  go_wp2_with fail
  go_ret
  exact ⟨ret_bool HA.out, rfl⟩
/-- What set.Has tells. -/
def hasE (t : Tr) (s : ByteArray) : Bool := (elemsOf t).any fun x => decide (s = x)
theorem elemsOf_len (t : Tr) : (elemsOf t).length ≤ t.ks.length := by
  unfold elemsOf
  split
  · exact elL_len _
  · simp
theorem shasE_any (t : Tr) (s : ByteArray) (w : World) (ve vk : Value) (h : t.rd w w.heap.size ve vk) (hN : t.ks.length ≤ 900000) :
    Calls Tryz.prog 72 #[.agg #[ve, vk], .string s] w fun e w' => e = .returned (.bool (hasE t s)) ∧ Below w.heap.size w w' := by
  have HC : Hid (∀ w', Below w.heap.size w w' → t.rd w' w'.heap.size ve vk) := fun w' hb => rd_below hb hb.size _ _ _ h
  have hel := elemsOf_len t
  obtain ⟨A3, n3, A4, n4, rfl, rfl⟩ := rd_shape h
  clear h
  go_enter Tryz.func72, Tryz.ntmps72
  go_wp2_with fail
  refine (selems_any t _ _ _ (HC.out _ ((Below.refl _ w).alloc (Nat.le_refl _) _)) hN).mono ?_
  rintro e w1 ⟨v1, rfl, ho1, hb1⟩
  obtain ⟨A5, n5, rfl⟩ := ho1.shape
  have HS := hid (ho1.sl (by unfold Big; omega))
  clear ho1
  go_wp2_with fail
  refine (containsStr_any (elemsOf t) s _ w1 HS.out).mono ?_
  rintro e w2 ⟨rfl, rfl⟩
  go_wp2_with fail
  go_ret
  exact ⟨ret_bool rfl, ((Below.refl _ w).alloc (Nat.le_refl _) _).trans (hb1.mono (by simp))⟩
end Go.Proofs.YtmphgnjodangcaaGreat

namespace Go.Proofs.YtmphgnjodangcaaGreat
open Go.RowKit
set_option maxRecDepth 100000

/-- What set.check tells. -/
def sckB (t : Tr) (s : ByteArray) (d : Dt) : Bool := chkT t d && keyB s
def sckI (t : Tr) (s : ByteArray) (d : Dt) : Int := if sckB t s d then 0 else 1
set_option maxHeartbeats 2000000 in
theorem scheck_any (t : Tr) (s : ByteArray) (d : Dt) (ve vk : Value) (w : World) (h : t.rd w w.heap.size ve vk) (hs : s.size ≤ Big) (hN : t.sz ≤ 90000) :
    Calls Tryz.prog 143 #[.agg #[ve, vk], .string s, .agg #[.int .i64 d.dc, .int .i64 d.n]] w fun e w' => e = .returned (.int .i64 (sckI t s d)) ∧ Below w.heap.size w w' := by
  have HC : Hid (∀ w', Below w.heap.size w w' → t.rd w' w'.heap.size ve vk) := fun w' hb => rd_below hb hb.size _ _ _ h
  obtain ⟨A3, n3, A4, n4, rfl, rfl⟩ := rd_shape h
  have hb0 := ((Below.refl w.heap.size w).alloc (Nat.le_refl _) (.cells #[.slice A3 t.es.length n3, .slice A4 t.ks.length n4] 27)).alloc (by simp) (.cells #[.int .i64 d.dc, .int .i64 d.n] 54)
  unfold Big at hs
  clear h
  go_enter Tryz.func143, Tryz.ntmps143
  go_wp2_with fail
  refine (fcheck_any t d _ _ _ (HC.out _ hb0) (by omega)).mono ?_
  rintro e w1 ⟨rfl, hb1⟩
  have hB1 : Below w.heap.size w w1 := hb0.trans (hb1.mono (by simp; omega))
  clear hb1 hb0
  cases hc : chkT t d
  · have HI : Hid (chkI t d = 1) := by unfold Hid chkI; rw [hc]; rfl
    have HR : Hid (sckI t s d = 1) := by unfold Hid sckI sckB; rw [hc]; rfl
    rw [HI.out]
    clear hc
    go_wp2_with fail
    go_ret
    exact ⟨ret_int HR.out.symm, hB1⟩
  have HI : Hid (chkI t d = 0) := by unfold Hid chkI; rw [hc]; rfl
  rw [HI.out]
  cases hk : keyB s
  · have HR : Hid (sckI t s d = 1) := by unfold Hid sckI sckB; rw [hc, hk]; rfl
    have hkb : ¬ (1 ≤ s.size ∧ s.size ≤ 30) := by simpa [keyB] using hk
    clear hc hk
    by_cases hz : s.size < 1
    · have t1 : decide ((s.size : Int) < 1) = true := by simp; omega
      go_wp2_with fail
      go_ret
      exact ⟨ret_int HR.out.symm, hB1⟩
    · have t1 : decide ((s.size : Int) < 1) = false := by simp; omega
      have t2 : decide ((30 : Int) < s.size) = true := by simp; omega
      go_wp2_with fail
      go_ret
      exact ⟨ret_int HR.out.symm, hB1⟩
  · have HR : Hid (sckI t s d = 0) := by unfold Hid sckI sckB; rw [hc, hk]; rfl
    have hkb : 1 ≤ s.size ∧ s.size ≤ 30 := by simpa [keyB] using hk
    have t1 : decide ((s.size : Int) < 1) = false := by simp; omega
    have t2 : decide ((30 : Int) < s.size) = false := by simp; omega
    clear hc hk
    go_wp2_with fail
    go_ret
    exact ⟨ret_int HR.out.symm, hB1⟩

theorem setHasClo_any (key x : ByteArray) (A A' : Option Addr) (n c n' c' : Nat) (B : Nat) (w : World) (hc : w.cell? ⟨B, 0, none⟩ = some (.string key)) (hB : B < w.heap.size) :
    Calls Tryz.prog 202 #[.agg #[.string x, .slice A n c, .slice A' n' c'], .pointer (some ⟨B, 0, none⟩)] w fun e w' => e = .returned (.bool (decide (x = key))) ∧ Below w.heap.size w w' := by
  have hne : B ≠ w.heap.size := by omega
  have HE : Hid ((x.toList == key.toList) = decide (x = key)) := by
    unfold Hid; rw [Bool.eq_iff_iff]; simp [bytes_inj]
  go_enter Tryz.func202, Tryz.ntmps202
  go_wp2_with fail
  go_ret
  exact ⟨ret_bool HE.out, by go_grown⟩
theorem setHasTest {key : ByteArray} {B : Nat} {w : World} (hc : w.cell? ⟨B, 0, none⟩ = some (.string key)) (hB : B < w.heap.size) : TestKid 202 #[.pointer (some ⟨B, 0, none⟩)] (fun x => decide (x = key)) w :=
  ⟨enters_of Tryz.func202 (by kernel_rfl) rfl, fun x A A' n c n' c' W _ hW => setHasClo_any key x A A' n c n' c' B W ((hW.cell (p := ⟨B, 0, none⟩) hB).trans hc) (by have := hW.size; omega)⟩
/-- Is there a kid at this key? -/
def hasK (t : Tr) (s : ByteArray) : Bool := t.ks.any fun y => decide (y.1 = s)
theorem sethas_any (t : Tr) (s : ByteArray) (ve vk : Value) (w : World) (h : t.rd w w.heap.size ve vk) :
    Calls Tryz.prog 144 #[.agg #[ve, vk], .string s] w fun e w' => e = .returned (.bool (hasK t s)) ∧ Below w.heap.size w w' := by
  have HK : Hid (∀ w', Below w.heap.size w w' → SlP w' w'.heap.size 3 (KdE w' w'.heap.size) vk t.ks) := fun w' hb => kids_slp (rd_below hb hb.size _ _ _ h)
  obtain ⟨A3, n3, A4, n4, rfl, rfl⟩ := rd_shape h
  clear h
  go_enter Tryz.func144, Tryz.ntmps144
  go_wp2_with fail
  refine (conKid_any (fun y => decide (y = s)) _ _ t.ks _ _ (HK.out _ (by go_grown)) (setHasTest (key := s) (B := w.heap.size + 1) (by simp) (by simp))).mono ?_
  rintro e w1 ⟨rfl, hb1⟩
  go_wp2_with fail
  go_ret
  exact ⟨ret_bool rfl, Below.trans (by go_grown) (hb1.mono (by simp; omega))⟩

theorem kid_right5 {t : Tr} (h : t.right 5 = true) (s : ByteArray) : (kidT t s).right 5 = true := right_up _ 4 5 (kidT_right (n := 4) h (by omega) s) (by omega)
set_option maxHeartbeats 2000000 in
theorem sseen_any (t : Tr) (s : ByteArray) (d : Dt) (ve vk : Value) (w : World) (h : t.rd w w.heap.size ve vk) (hs : s.size ≤ Big) (hN : t.sz ≤ 4000) (hr : t.right 5 = true) (hd : d.right = true) (ho : d.Ok) :
    Calls Tryz.prog 145 #[.agg #[ve, vk], .string s, .agg #[.int .i64 d.dc, .int .i64 d.n]] w (RetO w 47 3 (fun _ => SpE) (seenC (kidT t s) d)) := by
  have HC : Hid (∀ w', Below w.heap.size w w' → t.rd w' w'.heap.size ve vk) := fun w' hb => rd_below hb hb.size _ _ _ h
  have hk5 := kid_right5 hr s
  have hks := kidT_sz t s
  have hG : tgetT t [s] = kidT t s := by unfold tgetT; rw [hr]; rfl
  have HSN : Hid (seenC (kidT t s) d = ctxBy (ctxOf (kidT t s).dots) (ctxOf [d]) 0) := rfl
  generalize kidT t s = u at *
  have hdl := dots_len u
  have h2 := ctxOf_len u.dots
  have h3 := ctxOf_len [d]
  simp only [List.length_singleton] at h3
  have HAA := hid (apart_ctxOf (right_dots u 5 hk5))
  have HAB := hid (apart_ctxOf (right_one hd))
  have HDR := hid (right_one hd)
  obtain ⟨A3, n3, A4, n4, rfl, rfl⟩ := rd_shape h
  have hb0 := ((Below.refl w.heap.size w).alloc (Nat.le_refl _) (.cells #[.slice A3 t.es.length n3, .slice A4 t.ks.length n4] 27)).alloc (by simp) (.cells #[.int .i64 d.dc, .int .i64 d.n] 54)
  have hb1 : Below w.heap.size w (((w.alloc (.cells #[.slice A3 t.es.length n3, .slice A4 t.ks.length n4] 27)).alloc (.cells #[.int .i64 d.dc, .int .i64 d.n] 54)).alloc (.cells #[.string s] 9)) := hb0.alloc (by simp; omega) _
  clear h hr hd
  go_enter Tryz.func145, Tryz.ntmps145
  go_wp2_with fail
  refine (tget_any t [s] _ _ _ _ (HC.out _ hb1) (SlP.oneB (E := StE) (n := w.heap.size + 1 + 1) (x := s) (cs := [.string s]) ⟨rfl, hs⟩ rfl _ (by simp) (by simp)) (by omega)).mono ?_
  rw [hG]
  rintro e w1 ⟨ve1, vk1, rfl, hrd1, hb2⟩
  obtain ⟨A5, n5, A6, n6, rfl, rfl⟩ := rda_shape hrd1
  have hs1 := hb2.size
  simp only [World.size_alloc] at hs1
  have hB1 : Below w.heap.size w w1 := hb1.trans (hb2.mono (by simp; omega))
  have c0 : w1.cell? ⟨w.heap.size + 1, 0, none⟩ = some (.int .i64 d.dc) := by
    rw [hb2.cell (p := ⟨w.heap.size + 1, 0, none⟩) (by simp), World.cell?_alloc_lt _ _ _ (by simp)]; simp
  have c1 : w1.cell? ⟨w.heap.size + 1, 1, none⟩ = some (.int .i64 d.n) := by
    rw [hb2.cell (p := ⟨w.heap.size + 1, 1, none⟩) (by simp), World.cell?_alloc_lt _ _ _ (by simp)]; simp
  have HU := hid (rda_rd hrd1 (fun b hb => hb.2) (Below.refl _ w1))
  have HK5 := hid hk5
  clear hrd1 hb2 hG hk5
  go_wp2_with fail
  refine (tdots_any u _ _ w1 HU.out (by omega)).mono ?_
  rintro e w2 ⟨v2, n2, rfl, hn2, ho2, hb2⟩
  rw [HK5.out] at ho2 hn2
  obtain rfl : n2 = 0 := hn2
  rw [if_pos rfl] at ho2
  obtain ⟨A7, n7, rfl⟩ := ho2.shape
  have hs2 := hb2.size
  have hB2 : Below w.heap.size w w2 := hB1.trans (hb2.mono (by omega))
  have d0 : w2.cell? ⟨w.heap.size + 1, 0, none⟩ = some (.int .i64 d.dc) := (hb2.cell (p := ⟨w.heap.size + 1, 0, none⟩) (by show w.heap.size + 1 < _; omega)).trans c0
  have d1 : w2.cell? ⟨w.heap.size + 1, 1, none⟩ = some (.int .i64 d.n) := (hb2.cell (p := ⟨w.heap.size + 1, 1, none⟩) (by show w.heap.size + 1 < _; omega)).trans c1
  have HO2 := hid ho2
  clear ho2 c0 c1 hb2
  go_wp2_with fail
  refine (cof_any [d] _ _ (SlP.oneB (E := DtE) (x := d) (cs := [.int .i64 d.dc, .int .i64 d.n]) ⟨rfl, ho⟩ rfl _ rfl (by simp)) HDR.out (by simp)).mono ?_
  rintro e w3 ⟨v3, rfl, ho3, hb3⟩
  obtain ⟨A8, n8, rfl⟩ := ho3.shape
  have hs3 := hb3.size
  simp only [World.size_alloc] at hs3
  have hb3' : Below w2.heap.size w2 w3 := ((Below.refl _ w2).alloc (Nat.le_refl _) _).trans (hb3.mono (by simp))
  have H1 := hid ((HO2.out.grow hb3').sl (by unfold Big; omega))
  have H2 := hid (ho3.sl (by unfold Big; omega))
  clear ho3 hb3 d0 d1
  go_wp2_with fail
  refine (cunion_any (ctxOf u.dots) (ctxOf [d]) _ _ w3 H1.out H2.out HAA.out HAB.out (by omega) (by omega)).mono ?_
  rintro e w4 ⟨v4, rfl, ho4, hb4⟩
  go_wp2_with fail
  go_ret
  exact ⟨_, rfl, by rw [HSN.out]; exact ho4.mono (by omega), (hB2.trans (hb3'.mono (by omega))).trans (hb4.mono (by omega))⟩
end Go.Proofs.YtmphgnjodangcaaGreat

namespace Go.Proofs.YtmphgnjodangcaaGreat
open Go.RowKit
set_option maxRecDepth 100000

/-- What set.Del knows. -/
def delC (t : Tr) (s : ByteArray) (d : Dt) : List Sp := if sckB t s d then seenC (kidT t s) d else []
theorem sck_chk {t : Tr} {s : ByteArray} {d : Dt} (h : sckB t s d = true) : chkT t d = true ∧ keyB s = true := by
  unfold sckB at h; simpa using h
set_option maxHeartbeats 4000000 in
theorem sdel_any (t : Tr) (s : ByteArray) (d : Dt) (ve vk : Value) (w : World) (h : t.rd w w.heap.size ve vk) (hs : s.size ≤ Big) (hN : t.sz ≤ 4000) (hd : d.Ok) :
    Calls Tryz.prog 67 #[.agg #[ve, vk], .string s, .agg #[.int .i64 d.dc, .int .i64 d.n]] w (RetCE w (.mk [] []) (delC t s d) (sckI t s d)) := by
  have HC : Hid (∀ w', Below w.heap.size w w' → t.rd w' w'.heap.size ve vk) := fun w' hb => rd_below hb hb.size _ _ _ h
  obtain ⟨A3, n3, A4, n4, rfl, rfl⟩ := rd_shape h
  have hb0 := (((Below.refl w.heap.size w).alloc (Nat.le_refl _) (.cells #[.slice A3 t.es.length n3, .slice A4 t.ks.length n4] 27)).alloc (by simp) (.cells #[.int .i64 d.dc, .int .i64 d.n] 54)).alloc (by simp; omega) (.cells #[.slice none 0 0, .slice none 0 0, .slice none 0 0] 31)
  clear h
  go_enter Tryz.func67, Tryz.ntmps67
  go_wp2_with fail
  refine (scheck_any t s d _ _ _ (HC.out _ hb0) hs (by omega)).mono ?_
  rintro e w1 ⟨rfl, hb1⟩
  have hs1 := hb1.size
  simp only [World.size_alloc] at hs1
  have hB1 : Below w.heap.size w w1 := hb0.trans (hb1.mono (by simp; omega))
  have c0 : w1.cell? ⟨w.heap.size, 0, none⟩ = some (.slice A3 t.es.length n3) := by
    rw [hb1.cell (p := ⟨w.heap.size, 0, none⟩) (by simp; omega)]
    rw [World.cell?_alloc_lt _ _ _ (by simp; omega), World.cell?_alloc_lt _ _ _ (by simp)]; simp
  have c1 : w1.cell? ⟨w.heap.size, 1, none⟩ = some (.slice A4 t.ks.length n4) := by
    rw [hb1.cell (p := ⟨w.heap.size, 1, none⟩) (by simp; omega)]
    rw [World.cell?_alloc_lt _ _ _ (by simp; omega), World.cell?_alloc_lt _ _ _ (by simp)]; simp
  have d0 : w1.cell? ⟨w.heap.size + 1, 0, none⟩ = some (.int .i64 d.dc) := by rw [hb1.cell (p := ⟨w.heap.size + 1, 0, none⟩) (by simp), World.cell?_alloc_lt _ _ _ (by simp)]; simp
  have d1 : w1.cell? ⟨w.heap.size + 1, 1, none⟩ = some (.int .i64 d.n) := by rw [hb1.cell (p := ⟨w.heap.size + 1, 1, none⟩) (by simp), World.cell?_alloc_lt _ _ _ (by simp)]; simp
  have hg : w1.heap[w.heap.size + 2]? = some (.cells #[.slice none 0 0, .slice none 0 0, .slice none 0 0] 31 (0, 0)) := (hb1.block (w.heap.size + 2) (by simp)).trans (heap_new (by simp))
  have HG := hid hg
  have k0 : w1.cell? ⟨w.heap.size + 2, 0, none⟩ = some (.slice none 0 0) := cell_cells (i := 0) hg
  have k1 : w1.cell? ⟨w.heap.size + 2, 1, none⟩ = some (.slice none 0 0) := cell_cells (i := 1) hg
  have k2 : w1.cell? ⟨w.heap.size + 2, 2, none⟩ = some (.slice none 0 0) := cell_cells (i := 2) hg
  have z0 := cells_frz (i := 0) hg
  have z1 := cells_frz (i := 1) hg
  have z2 := cells_frz (i := 2) hg
  clear hg hb1
  cases hc : sckB t s d
  · have HE : Hid (sckI t s d = 1) := by unfold Hid sckI; rw [hc]; rfl
    have HD : Hid (delC t s d = []) := by unfold Hid delC; rw [hc]; rfl
    rw [HE.out]
    clear hc
    go_wp2_with fail
    obtain ⟨r0, r1, r2, hK, hS⟩ := box3 HG.out (.slice none 0 0) (.slice none 0 0) (.slice none 0 0)
    have hBW := ((hB1.setCell (p := ⟨w.heap.size + 2, 0, none⟩) (by simp) (.slice none 0 0)).setCell (p := ⟨w.heap.size + 2, 1, none⟩) (by simp) (.slice none 0 0)).setCell (p := ⟨w.heap.size + 2, 2, none⟩) (by simp) (.slice none 0 0)
    refine bodyPost_ret (v := .tuple #[.agg #[.slice none 0 0, .slice none 0 0, .slice none 0 0], .int .i64 1]) (by simp [results, Tryz.results67, go_sem, r0, r1, r2]) rfl ⟨_, _, _, by rw [HE.out], ?_, ?_, hBW⟩
    · exact rda_nil _ _
    · rw [HD.out]; exact SlA.nil
  · have HE : Hid (sckI t s d = 0) := by unfold Hid sckI; rw [hc]; rfl
    have HD : Hid (delC t s d = seenC (kidT t s) d) := by unfold Hid delC; rw [hc]; rfl
    have HDR := hid (chkT_right (sck_chk hc).1)
    have HTR := hid (chkT_tree (sck_chk hc).1)
    rw [HE.out]
    clear hc
    go_wp2_with fail
    refine (sseen_any t s d _ _ w1 (HC.out _ hB1) hs hN HTR.out HDR.out hd).mono ?_
    rintro e w2 ⟨v2, rfl, ho2, hb2⟩
    obtain ⟨A2, c2, rfl⟩ := ho2.shape
    have hs2 := hb2.size
    have hB2 : Below w.heap.size w w2 := hB1.trans (hb2.mono (by omega))
    have HG2 := hid ((hb2.block (w.heap.size + 2) (by omega)).trans HG.out)
    clear k0 k1 k2 z0 z1 z2 c0 c1 d0 d1
    have k0 : w2.cell? ⟨w.heap.size + 2, 0, none⟩ = some (.slice none 0 0) := cell_cells (i := 0) HG2.out
    have k1 : w2.cell? ⟨w.heap.size + 2, 1, none⟩ = some (.slice none 0 0) := cell_cells (i := 1) HG2.out
    have k2 : w2.cell? ⟨w.heap.size + 2, 2, none⟩ = some (.slice none 0 0) := cell_cells (i := 2) HG2.out
    have z0 := cells_frz (i := 0) HG2.out
    have z1 := cells_frz (i := 1) HG2.out
    have z2 := cells_frz (i := 2) HG2.out
    have HO2 := hid ho2
    have hsc := seenC_len (kidT t s) d
    have hkz := kidT_sz t s
    clear ho2
    go_wp2_with fail
    obtain ⟨r0, r1, r2, hK, hS⟩ := box3 HG2.out (.slice none 0 0) (.slice none 0 0) (.slice A2 (seenC (kidT t s) d).length c2)
    have hBW := ((hB2.setCell (p := ⟨w.heap.size + 2, 0, none⟩) (by simp) (.slice none 0 0)).setCell (p := ⟨w.heap.size + 2, 1, none⟩) (by simp) (.slice none 0 0)).setCell (p := ⟨w.heap.size + 2, 2, none⟩) (by simp) (.slice A2 (seenC (kidT t s) d).length c2)
    refine bodyPost_ret (v := .tuple #[.agg #[.slice none 0 0, .slice none 0 0, .slice A2 (seenC (kidT t s) d).length c2], .int .i64 0]) (by simp [results, Tryz.results67, go_sem, r0, r1, r2]) rfl ⟨_, _, _, by rw [HE.out], rda_nil _ _, ?_, hBW⟩
    rw [HD.out]
    refine (HO2.out.sla (by unfold Big; omega)).up (fun b hb => hK b (by have := hb.1; omega)) (fun b hb => ⟨by have := hb.1; omega, by rw [hS]; exact hb.2.1⟩) (fun _ _ _ h => h)
end Go.Proofs.YtmphgnjodangcaaGreat

namespace Go.Proofs.YtmphgnjodangcaaGreat
open Go.RowKit
set_option maxRecDepth 100000

/-- What set.Add makes: the error's number, the tree, the context. -/
def addE (t : Tr) (s : ByteArray) (d : Dt) : Int := if !sckB t s d then 1 else if decide (24 ≤ t.ks.length) && !hasK t s then 4 else 0
def oneE (d : Dt) : Tr := .mk [⟨d.dc, d.n, ByteArray.empty, 0⟩] []
def addT (t : Tr) (s : ByteArray) (d : Dt) : Tr := if addE t s d = 0 then .mk [] [(s, oneE d)] else .mk [] []
def addC (t : Tr) (s : ByteArray) (d : Dt) : List Sp := if addE t s d = 0 then seenC (kidT t s) d else []
theorem addEnE {d : Dt} (hd : d.Ok) : EnE (⟨d.dc, d.n, ByteArray.empty, 0⟩ : En) [.int .i64 d.dc, .int .i64 d.n, .string ByteArray.empty, .int .i64 0] := ⟨rfl, En.Ok.mk' hd ⟨by decide, by decide⟩⟩
theorem oneE_right {d : Dt} (h : d.right = true) : (oneE d).right 5 = true := by
  unfold oneE
  rw [Tr.right, Tr.rightL]
  simp [entsB, En.right, okP, En.dot]
  exact h
theorem oneE_wrap {d : Dt} {s : ByteArray} (h : d.right = true) (hk : keyB s = true) : wrapE (oneE d) s = 0 ∧ wrapT (oneE d) s = .mk [] [(s, oneE d)] := by
  have hE : wrapE (oneE d) s = 0 := by
    unfold wrapE
    rw [oneE_right h, hk]
    rfl
  refine ⟨hE, ?_⟩
  unfold wrapT
  rw [hE, if_pos rfl]
  rfl

set_option maxHeartbeats 4000000 in
theorem sadd_any (t : Tr) (s : ByteArray) (d : Dt) (ve vk : Value) (w : World) (h : t.rd w w.heap.size ve vk) (hs : s.size ≤ Big) (hN : t.sz ≤ 4000) (hd : d.Ok) :
    Calls Tryz.prog 66 #[.agg #[ve, vk], .string s, .agg #[.int .i64 d.dc, .int .i64 d.n]] w (RetCE w (addT t s d) (addC t s d) (addE t s d)) := by
  have hsc := seenC_len (kidT t s) d
  have hkz := kidT_sz t s
  have HC : Hid (∀ w', Below w.heap.size w w' → t.rd w' w'.heap.size ve vk) := fun w' hb => rd_below hb hb.size _ _ _ h
  obtain ⟨A3, n3, A4, n4, rfl, rfl⟩ := rd_shape h
  have hb0 := (((Below.refl w.heap.size w).alloc (Nat.le_refl _) (.cells #[.slice A3 t.es.length n3, .slice A4 t.ks.length n4] 27)).alloc (by simp) (.cells #[.int .i64 d.dc, .int .i64 d.n] 54)).alloc (by simp; omega) (.cells #[.slice none 0 0, .slice none 0 0, .slice none 0 0] 31)
  clear h
  go_enter Tryz.func66, Tryz.ntmps66
  go_wp2_with fail
  refine (scheck_any t s d _ _ _ (HC.out _ hb0) hs (by omega)).mono ?_
  rintro e w1 ⟨rfl, hb1⟩
  have hs1 := hb1.size
  simp only [World.size_alloc] at hs1
  have hB1 : Below w.heap.size w w1 := hb0.trans (hb1.mono (by simp; omega))
  have c0 : w1.cell? ⟨w.heap.size, 0, none⟩ = some (.slice A3 t.es.length n3) := by
    rw [hb1.cell (p := ⟨w.heap.size, 0, none⟩) (by simp; omega)]
    rw [World.cell?_alloc_lt _ _ _ (by simp; omega), World.cell?_alloc_lt _ _ _ (by simp)]; simp
  have c1 : w1.cell? ⟨w.heap.size, 1, none⟩ = some (.slice A4 t.ks.length n4) := by
    rw [hb1.cell (p := ⟨w.heap.size, 1, none⟩) (by simp; omega)]
    rw [World.cell?_alloc_lt _ _ _ (by simp; omega), World.cell?_alloc_lt _ _ _ (by simp)]; simp
  have d0 : w1.cell? ⟨w.heap.size + 1, 0, none⟩ = some (.int .i64 d.dc) := by rw [hb1.cell (p := ⟨w.heap.size + 1, 0, none⟩) (by simp), World.cell?_alloc_lt _ _ _ (by simp)]; simp
  have d1 : w1.cell? ⟨w.heap.size + 1, 1, none⟩ = some (.int .i64 d.n) := by rw [hb1.cell (p := ⟨w.heap.size + 1, 1, none⟩) (by simp), World.cell?_alloc_lt _ _ _ (by simp)]; simp
  have hg : w1.heap[w.heap.size + 2]? = some (.cells #[.slice none 0 0, .slice none 0 0, .slice none 0 0] 31 (0, 0)) := (hb1.block (w.heap.size + 2) (by simp)).trans (heap_new (by simp))
  have HG := hid hg
  have k0 : w1.cell? ⟨w.heap.size + 2, 0, none⟩ = some (.slice none 0 0) := cell_cells (i := 0) hg
  have k1 : w1.cell? ⟨w.heap.size + 2, 1, none⟩ = some (.slice none 0 0) := cell_cells (i := 1) hg
  have k2 : w1.cell? ⟨w.heap.size + 2, 2, none⟩ = some (.slice none 0 0) := cell_cells (i := 2) hg
  have z0 := cells_frz (i := 0) hg
  have z1 := cells_frz (i := 1) hg
  have z2 := cells_frz (i := 2) hg
  clear hg hb1
  have HK1 : Hid (∀ w', Below w1.heap.size w1 w' → Below w.heap.size w w' ∧ w1.heap.size ≤ w'.heap.size ∧ w'.cell? ⟨w.heap.size, 0, none⟩ = some (.slice A3 t.es.length n3) ∧ w'.cell? ⟨w.heap.size, 1, none⟩ = some (.slice A4 t.ks.length n4) ∧ w'.cell? ⟨w.heap.size + 1, 0, none⟩ = some (.int .i64 d.dc) ∧ w'.cell? ⟨w.heap.size + 1, 1, none⟩ = some (.int .i64 d.n) ∧ w'.heap[w.heap.size + 2]? = some (.cells #[.slice none 0 0, .slice none 0 0, .slice none 0 0] 31 (0, 0))) := fun w' hb =>
    ⟨hB1.trans (hb.mono (by omega)), hb.size, (hb.cell (p := ⟨w.heap.size, 0, none⟩) (by show w.heap.size < _; omega)).trans c0, (hb.cell (p := ⟨w.heap.size, 1, none⟩) (by show w.heap.size < _; omega)).trans c1, (hb.cell (p := ⟨w.heap.size + 1, 0, none⟩) (by show w.heap.size + 1 < _; omega)).trans d0, (hb.cell (p := ⟨w.heap.size + 1, 1, none⟩) (by show w.heap.size + 1 < _; omega)).trans d1, (hb.block _ (by omega)).trans HG.out⟩
  clear c0 c1 d0 d1 k0 k1 k2 z0 z1 z2
  have hb1' := hid (Below.refl w1.heap.size w1)
  obtain ⟨hB1, hs1, c0, c1, d0, d1, g6⟩ := HK1.out _ hb1'.out
  have HG1 := hid g6
  have k0 : w1.cell? ⟨w.heap.size + 2, 0, none⟩ = some (.slice none 0 0) := cell_cells (i := 0) g6
  have k1 : w1.cell? ⟨w.heap.size + 2, 1, none⟩ = some (.slice none 0 0) := cell_cells (i := 1) g6
  have k2 : w1.cell? ⟨w.heap.size + 2, 2, none⟩ = some (.slice none 0 0) := cell_cells (i := 2) g6
  have z0 := cells_frz (i := 0) g6
  have z1 := cells_frz (i := 1) g6
  have z2 := cells_frz (i := 2) g6
  clear g6
  cases hc : sckB t s d
  · have HI : Hid (sckI t s d = 1) := by unfold Hid sckI; rw [hc]; rfl
    have HE : Hid (addE t s d = 1) := by unfold Hid addE; rw [hc]; rfl
    have HTT : Hid (addT t s d = .mk [] []) := by unfold Hid addT; rw [HE.out]; rfl
    have HCC : Hid (addC t s d = []) := by unfold Hid addC; rw [HE.out]; rfl
    rw [HI.out]
    clear hc
    go_wp2_with fail
    obtain ⟨r0, r1, r2, hK, hS⟩ := box3 HG1.out (.slice none 0 0) (.slice none 0 0) (.slice none 0 0)
    have hBW := ((hB1.setCell (p := ⟨w.heap.size + 2, 0, none⟩) (by simp) (.slice none 0 0)).setCell (p := ⟨w.heap.size + 2, 1, none⟩) (by simp) (.slice none 0 0)).setCell (p := ⟨w.heap.size + 2, 2, none⟩) (by simp) (.slice none 0 0)
    refine bodyPost_ret (v := .tuple #[.agg #[.slice none 0 0, .slice none 0 0, .slice none 0 0], .int .i64 1]) (by simp [results, Tryz.results66, go_sem, r0, r1, r2]) rfl ⟨_, _, _, by rw [HE.out], by rw [HTT.out]; exact rda_nil _ _, by rw [HCC.out]; exact SlA.nil, hBW⟩
  have HI : Hid (sckI t s d = 0) := by unfold Hid sckI; rw [hc]; rfl
  have HDR := hid (chkT_right (sck_chk hc).1)
  have HTR := hid (chkT_tree (sck_chk hc).1)
  have HWE := hid (oneE_wrap HDR.out (sck_chk hc).2).1
  have HWT := hid (oneE_wrap HDR.out (sck_chk hc).2).2
  rw [HI.out]
  have hfi : decide ((24 : Int) ≤ (t.ks.length : Int)) = decide (24 ≤ t.ks.length) := by rw [Bool.eq_iff_iff]; simp; omega
  cases fl : decide (24 ≤ t.ks.length)
  · have HE : Hid (addE t s d = 0) := by unfold Hid addE; rw [hc, fl]; rfl
    have HTT : Hid (addT t s d = .mk [] [(s, oneE d)]) := by unfold Hid addT; rw [HE.out, if_pos rfl]
    have HCC : Hid (addC t s d = seenC (kidT t s) d) := by unfold Hid addC; rw [HE.out, if_pos rfl]
    rw [fl] at hfi
    clear hc fl
    have hltn : w.heap.size + 2 < w1.heap.size := by omega
    have hen : SlP ((w1.alloc (.cells #[.int .i64 d.dc, .int .i64 d.n, .string ByteArray.empty, .int .i64 0] 142)).alloc (.cells #[.string s] 9)) ((w1.alloc (.cells #[.int .i64 d.dc, .int .i64 d.n, .string ByteArray.empty, .int .i64 0] 142)).alloc (.cells #[.string s] 9)).heap.size 4 EnE (.slice (some ⟨w1.heap.size, 0, none⟩) 1 1) [(⟨d.dc, d.n, ByteArray.empty, 0⟩ : En)] :=
      (SlP.one (x := (⟨d.dc, d.n, ByteArray.empty, 0⟩ : En)) (addEnE hd) rfl 142 rfl).imp ((Below.refl _ _).alloc (by rw [World.size_alloc]; omega) _) (by rw [World.size_alloc, World.size_alloc]; omega) fun _ _ _ h => h
    have HEN : Hid ((oneE d).rd ((w1.alloc (.cells #[.int .i64 d.dc, .int .i64 d.n, .string ByteArray.empty, .int .i64 0] 142)).alloc (.cells #[.string s] 9)) ((w1.alloc (.cells #[.int .i64 d.dc, .int .i64 d.n, .string ByteArray.empty, .int .i64 0] 142)).alloc (.cells #[.string s] 9)).heap.size (.slice (some ⟨w1.heap.size, 0, none⟩) 1 1) (.slice none 0 0)) := rd_iff.2 ⟨hen, SlP.nil⟩
    clear hen
    go_wp2_with fail
    refine (twrap_any (oneE d) s _ _ _ _ HEN.out (SlP.oneB (E := StE) (n := w1.heap.size + 1) (x := s) (cs := [.string s]) ⟨rfl, hs⟩ rfl _ (by simp) (by simp)) (by simp [oneE, Tr.sz, Tr.szL])).mono ?_
    rw [HWE.out, HWT.out]
    rintro e w5 ⟨v5, u5, rfl, hrd5, hb5⟩
    generalize (Tr.mk [] [(s, oneE d)] : Tr) = T at *
    obtain ⟨A8, n8, A9, n9, rfl, rfl⟩ := rda_shape hrd5
    have hs5 := hb5.size
    simp only [World.size_alloc] at hs5
    clear c0 c1 d0 d1 k0 k1 k2 z0 z1 z2
    have hb5' := hid (hb1'.out.trans ((((Below.refl w1.heap.size w1).alloc (Nat.le_refl _) _).alloc (by rw [World.size_alloc]; omega) _).trans (hb5.mono (show w1.heap.size ≤ _ by simp only [World.size_alloc]; omega)) |>.mono hs1))
    obtain ⟨hB5, hs5, c0, c1, d0, d1, g6⟩ := HK1.out _ hb5'.out
    have HG5 := hid g6
    have k0 : w5.cell? ⟨w.heap.size + 2, 0, none⟩ = some (.slice none 0 0) := cell_cells (i := 0) g6
    have k1 : w5.cell? ⟨w.heap.size + 2, 1, none⟩ = some (.slice none 0 0) := cell_cells (i := 1) g6
    have k2 : w5.cell? ⟨w.heap.size + 2, 2, none⟩ = some (.slice none 0 0) := cell_cells (i := 2) g6
    have z0 := cells_frz (i := 0) g6
    have z1 := cells_frz (i := 1) g6
    have z2 := cells_frz (i := 2) g6
    clear g6
    clear hb5
    have hlt2 : w.heap.size + 2 < w5.heap.size := by omega
    have hne2 : w.heap.size + 2 ≠ w5.heap.size := by omega
    have hlt1 : w.heap.size + 1 < w5.heap.size := by omega
    have hne1 : w.heap.size + 1 ≠ w5.heap.size := by omega
    have hlt0 : w.heap.size < w5.heap.size := by omega
    have hne0 : w.heap.size ≠ w5.heap.size := by omega
    have HX : Hid (∀ w', Below (w5.heap.size + 1) (w5.alloc (.cells #[.slice A8 T.es.length n8, .slice A9 T.ks.length n9] 27)) w' → Below w5.heap.size w5 w' ∧ (w'.cell? ⟨w.heap.size, 0, none⟩ = some (.slice A3 t.es.length n3) ∧ w'.cell? ⟨w.heap.size, 1, none⟩ = some (.slice A4 t.ks.length n4) ∧ w'.cell? ⟨w.heap.size + 1, 0, none⟩ = some (.int .i64 d.dc) ∧ w'.cell? ⟨w.heap.size + 1, 1, none⟩ = some (.int .i64 d.n) ∧ w'.cell? ⟨w5.heap.size, 0, none⟩ = some (.slice A8 T.es.length n8) ∧ w'.cell? ⟨w5.heap.size, 1, none⟩ = some (.slice A9 T.ks.length n9))) := fun w' hb => by
      have hB : Below w5.heap.size w5 w' := ((Below.refl _ w5).alloc (Nat.le_refl _) _).trans (hb.mono (by omega))
      refine ⟨hB, (hB.cell (p := ⟨w.heap.size, 0, none⟩) hlt0).trans c0, (hB.cell (p := ⟨w.heap.size, 1, none⟩) hlt0).trans c1, (hB.cell (p := ⟨w.heap.size + 1, 0, none⟩) hlt1).trans d0, (hB.cell (p := ⟨w.heap.size + 1, 1, none⟩) hlt1).trans d1, ?_, ?_⟩
      · rw [hb.cell (p := ⟨w5.heap.size, 0, none⟩) (by simp), World.cell?_alloc_new]; rfl
      · rw [hb.cell (p := ⟨w5.heap.size, 1, none⟩) (by simp), World.cell?_alloc_new]; rfl
    have hneA : w.heap.size + 1 + 1 ≠ w.heap.size := by omega
    have hneB : w.heap.size ≠ w.heap.size + 1 + 1 := by omega
    clear k0 k1 k2 z0 z1 z2
    go_upto_region 7 with (fail)
    go_region_held3 (fun w' => w'.cell? ⟨w.heap.size, 0, none⟩ = some (.slice A3 t.es.length n3) ∧ w'.cell? ⟨w.heap.size, 1, none⟩ = some (.slice A4 t.ks.length n4) ∧ w'.cell? ⟨w.heap.size + 1, 0, none⟩ = some (.int .i64 d.dc) ∧ w'.cell? ⟨w.heap.size + 1, 1, none⟩ = some (.int .i64 d.n) ∧ w'.cell? ⟨w5.heap.size, 0, none⟩ = some (.slice A8 T.es.length n8) ∧ w'.cell? ⟨w5.heap.size, 1, none⟩ = some (.slice A9 T.ks.length n9))
      (first | go_keep | exact (HX.out _ hbx.out).2)
      (first | (go_at_call 145; go_loud ((refine (sseen_any t s d _ _ _ (HC.out _ ((hB5.alloc (by omega) _).drew)) hs hN HTR.out HDR.out hd).mono ?_); rintro e w6 ⟨v6, rfl, ho6, hb6⟩; obtain ⟨A10, c10, hv6⟩ := ho6.shape; subst hv6; have HO6 := hid ho6; have hbx : Hid (Below (w5.heap.size + 1) (w5.alloc (.cells #[.slice A8 T.es.length n8, .slice A9 T.ks.length n9] 27)) w6) := (((Below.refl (w5.heap.size + 1) (w5.alloc (.cells #[.slice A8 T.es.length n8, .slice A9 T.ks.length n9] 27))).drew).trans (hb6.mono (by simp))); have hby := hid (HX.out _ hbx.out).1; have hs6 : w5.heap.size + 1 ≤ w6.heap.size := (by have := hbx.out.size; simpa using this); have HGx := hid ((hby.out.block (w.heap.size + 2) (by omega)).trans HG5.out); have k0 : w6.cell? ⟨w.heap.size + 2, 0, none⟩ = some (.slice none 0 0) := cell_cells (i := 0) HGx.out; have k1 : w6.cell? ⟨w.heap.size + 2, 1, none⟩ = some (.slice none 0 0) := cell_cells (i := 1) HGx.out; have k2 : w6.cell? ⟨w.heap.size + 2, 2, none⟩ = some (.slice none 0 0) := cell_cells (i := 2) HGx.out; have z0 := cells_frz (i := 0) HGx.out; have z1 := cells_frz (i := 1) HGx.out; have z2 := cells_frz (i := 2) HGx.out; have hlt6 : w.heap.size + 2 < w6.heap.size := (by omega); have hne6 : w.heap.size + 2 ≠ w6.heap.size := (by omega); clear ho6 hb6)))
    all_goals go_wp2_with fail
    obtain ⟨r0, r1, r2, hK, hS⟩ := box3 HGx.out (.slice A8 T.es.length n8) (.slice A9 T.ks.length n9) (.slice A10 (seenC (kidT t s) d).length c10)
    have hBW : Below w.heap.size w (((w6.setCell ⟨w.heap.size + 2, 0, none⟩ (.slice A8 T.es.length n8)).setCell ⟨w.heap.size + 2, 1, none⟩ (.slice A9 T.ks.length n9)).setCell ⟨w.heap.size + 2, 2, none⟩ (.slice A10 (seenC (kidT t s) d).length c10)) := (((hB5.trans (hby.out.mono (by omega))).setCell (by simp) _).setCell (by simp) _).setCell (by simp) _
    clear k0 k1 k2 z0 z1 z2
    generalize (((w6.setCell ⟨w.heap.size + 2, 0, none⟩ (.slice A8 T.es.length n8)).setCell ⟨w.heap.size + 2, 1, none⟩ (.slice A9 T.ks.length n9)).setCell ⟨w.heap.size + 2, 2, none⟩ (.slice A10 (seenC (kidT t s) d).length c10)) = W at *
    refine bodyPost_ret (v := .tuple #[.agg #[.slice A8 T.es.length n8, .slice A9 T.ks.length n9, .slice A10 (seenC (kidT t s) d).length c10], .int .i64 0]) (by simp [results, Tryz.results66, go_sem, r0, r1, r2]) rfl ⟨_, _, _, by rw [HE.out], ?_, ?_, hBW⟩
    · rw [HTT.out]
      exact rda_up (fun b hb => (hK b (by have := hb.1; simp only [World.size_alloc] at this; omega)).trans (hby.out.block b hb.2)) (fun b hb => ⟨by have := hb.1; simp only [World.size_alloc] at this; omega, by have := hb.2; omega⟩) _ _ _ hrd5
    · rw [HCC.out]
      refine (HO6.out.sla (by unfold Big; omega)).up (fun b hb => hK b (by have := hb.1; simp only [World.size_alloc, World.size_drew] at this; omega)) (fun b hb => ⟨by have := hb.1; simp only [World.size_alloc, World.size_drew] at this; omega, by have := hb.2.1; omega⟩) (fun _ _ _ h => h)
  · rw [fl] at hfi
    go_wp2_with fail
    refine (sethas_any t s _ _ w1 (HC.out _ hB1)).mono ?_
    rintro e w2 ⟨rfl, hb2⟩
    clear c0 c1 d0 d1 k0 k1 k2 z0 z1 z2
    have hb2' := hid (hb2)
    obtain ⟨hB2, hs2, c0, c1, d0, d1, g6⟩ := HK1.out _ hb2'.out
    have HG2 := hid g6
    have k0 : w2.cell? ⟨w.heap.size + 2, 0, none⟩ = some (.slice none 0 0) := cell_cells (i := 0) g6
    have k1 : w2.cell? ⟨w.heap.size + 2, 1, none⟩ = some (.slice none 0 0) := cell_cells (i := 1) g6
    have k2 : w2.cell? ⟨w.heap.size + 2, 2, none⟩ = some (.slice none 0 0) := cell_cells (i := 2) g6
    have z0 := cells_frz (i := 0) g6
    have z1 := cells_frz (i := 1) g6
    have z2 := cells_frz (i := 2) g6
    clear g6
    clear hb2
    cases an : hasK t s
    · have HE : Hid (addE t s d = 4) := by unfold Hid addE; rw [hc, fl, an]; rfl
      have HTT : Hid (addT t s d = .mk [] []) := by unfold Hid addT; rw [HE.out]; rfl
      have HCC : Hid (addC t s d = []) := by unfold Hid addC; rw [HE.out]; rfl
      clear hc fl an
      go_wp2_with fail
      obtain ⟨r0, r1, r2, hK, hS⟩ := box3 HG2.out (.slice none 0 0) (.slice none 0 0) (.slice none 0 0)
      have hBW := ((hB2.setCell (p := ⟨w.heap.size + 2, 0, none⟩) (by simp) (.slice none 0 0)).setCell (p := ⟨w.heap.size + 2, 1, none⟩) (by simp) (.slice none 0 0)).setCell (p := ⟨w.heap.size + 2, 2, none⟩) (by simp) (.slice none 0 0)
      refine bodyPost_ret (v := .tuple #[.agg #[.slice none 0 0, .slice none 0 0, .slice none 0 0], .int .i64 4]) (by simp [results, Tryz.results66, go_sem, r0, r1, r2]) rfl ⟨_, _, _, by rw [HE.out], by rw [HTT.out]; exact rda_nil _ _, by rw [HCC.out]; exact SlA.nil, hBW⟩
    · have HE : Hid (addE t s d = 0) := by unfold Hid addE; rw [hc, fl, an]; rfl
      have HTT : Hid (addT t s d = .mk [] [(s, oneE d)]) := by unfold Hid addT; rw [HE.out, if_pos rfl]
      have HCC : Hid (addC t s d = seenC (kidT t s) d) := by unfold Hid addC; rw [HE.out, if_pos rfl]
      clear hc fl an
      have hltn : w.heap.size + 2 < w2.heap.size := by omega
      have hen : SlP ((w2.alloc (.cells #[.int .i64 d.dc, .int .i64 d.n, .string ByteArray.empty, .int .i64 0] 142)).alloc (.cells #[.string s] 9)) ((w2.alloc (.cells #[.int .i64 d.dc, .int .i64 d.n, .string ByteArray.empty, .int .i64 0] 142)).alloc (.cells #[.string s] 9)).heap.size 4 EnE (.slice (some ⟨w2.heap.size, 0, none⟩) 1 1) [(⟨d.dc, d.n, ByteArray.empty, 0⟩ : En)] :=
        (SlP.one (x := (⟨d.dc, d.n, ByteArray.empty, 0⟩ : En)) (addEnE hd) rfl 142 rfl).imp ((Below.refl _ _).alloc (by rw [World.size_alloc]; omega) _) (by rw [World.size_alloc, World.size_alloc]; omega) fun _ _ _ h => h
      have HEN : Hid ((oneE d).rd ((w2.alloc (.cells #[.int .i64 d.dc, .int .i64 d.n, .string ByteArray.empty, .int .i64 0] 142)).alloc (.cells #[.string s] 9)) ((w2.alloc (.cells #[.int .i64 d.dc, .int .i64 d.n, .string ByteArray.empty, .int .i64 0] 142)).alloc (.cells #[.string s] 9)).heap.size (.slice (some ⟨w2.heap.size, 0, none⟩) 1 1) (.slice none 0 0)) := rd_iff.2 ⟨hen, SlP.nil⟩
      clear hen
      go_wp2_with fail
      refine (twrap_any (oneE d) s _ _ _ _ HEN.out (SlP.oneB (E := StE) (n := w2.heap.size + 1) (x := s) (cs := [.string s]) ⟨rfl, hs⟩ rfl _ (by simp) (by simp)) (by simp [oneE, Tr.sz, Tr.szL])).mono ?_
      rw [HWE.out, HWT.out]
      rintro e w5 ⟨v5, u5, rfl, hrd5, hb5⟩
      generalize (Tr.mk [] [(s, oneE d)] : Tr) = T at *
      obtain ⟨A8, n8, A9, n9, rfl, rfl⟩ := rda_shape hrd5
      have hs5 := hb5.size
      simp only [World.size_alloc] at hs5
      clear c0 c1 d0 d1 k0 k1 k2 z0 z1 z2
      have hb5' := hid (hb2'.out.trans ((((Below.refl w2.heap.size w2).alloc (Nat.le_refl _) _).alloc (by rw [World.size_alloc]; omega) _).trans (hb5.mono (show w2.heap.size ≤ _ by simp only [World.size_alloc]; omega)) |>.mono hs2))
      obtain ⟨hB5, hs5, c0, c1, d0, d1, g6⟩ := HK1.out _ hb5'.out
      have HG5 := hid g6
      have k0 : w5.cell? ⟨w.heap.size + 2, 0, none⟩ = some (.slice none 0 0) := cell_cells (i := 0) g6
      have k1 : w5.cell? ⟨w.heap.size + 2, 1, none⟩ = some (.slice none 0 0) := cell_cells (i := 1) g6
      have k2 : w5.cell? ⟨w.heap.size + 2, 2, none⟩ = some (.slice none 0 0) := cell_cells (i := 2) g6
      have z0 := cells_frz (i := 0) g6
      have z1 := cells_frz (i := 1) g6
      have z2 := cells_frz (i := 2) g6
      clear g6
      clear hb5
      have hlt2 : w.heap.size + 2 < w5.heap.size := by omega
      have hne2 : w.heap.size + 2 ≠ w5.heap.size := by omega
      have hlt1 : w.heap.size + 1 < w5.heap.size := by omega
      have hne1 : w.heap.size + 1 ≠ w5.heap.size := by omega
      have hlt0 : w.heap.size < w5.heap.size := by omega
      have hne0 : w.heap.size ≠ w5.heap.size := by omega
      have HX : Hid (∀ w', Below (w5.heap.size + 1) (w5.alloc (.cells #[.slice A8 T.es.length n8, .slice A9 T.ks.length n9] 27)) w' → Below w5.heap.size w5 w' ∧ (w'.cell? ⟨w.heap.size, 0, none⟩ = some (.slice A3 t.es.length n3) ∧ w'.cell? ⟨w.heap.size, 1, none⟩ = some (.slice A4 t.ks.length n4) ∧ w'.cell? ⟨w.heap.size + 1, 0, none⟩ = some (.int .i64 d.dc) ∧ w'.cell? ⟨w.heap.size + 1, 1, none⟩ = some (.int .i64 d.n) ∧ w'.cell? ⟨w5.heap.size, 0, none⟩ = some (.slice A8 T.es.length n8) ∧ w'.cell? ⟨w5.heap.size, 1, none⟩ = some (.slice A9 T.ks.length n9))) := fun w' hb => by
        have hB : Below w5.heap.size w5 w' := ((Below.refl _ w5).alloc (Nat.le_refl _) _).trans (hb.mono (by omega))
        refine ⟨hB, (hB.cell (p := ⟨w.heap.size, 0, none⟩) hlt0).trans c0, (hB.cell (p := ⟨w.heap.size, 1, none⟩) hlt0).trans c1, (hB.cell (p := ⟨w.heap.size + 1, 0, none⟩) hlt1).trans d0, (hB.cell (p := ⟨w.heap.size + 1, 1, none⟩) hlt1).trans d1, ?_, ?_⟩
        · rw [hb.cell (p := ⟨w5.heap.size, 0, none⟩) (by simp), World.cell?_alloc_new]; rfl
        · rw [hb.cell (p := ⟨w5.heap.size, 1, none⟩) (by simp), World.cell?_alloc_new]; rfl
      have hneA : w.heap.size + 1 + 1 ≠ w.heap.size := by omega
      have hneB : w.heap.size ≠ w.heap.size + 1 + 1 := by omega
      clear k0 k1 k2 z0 z1 z2
      go_upto_region 7 with (fail)
      go_region_held3 (fun w' => w'.cell? ⟨w.heap.size, 0, none⟩ = some (.slice A3 t.es.length n3) ∧ w'.cell? ⟨w.heap.size, 1, none⟩ = some (.slice A4 t.ks.length n4) ∧ w'.cell? ⟨w.heap.size + 1, 0, none⟩ = some (.int .i64 d.dc) ∧ w'.cell? ⟨w.heap.size + 1, 1, none⟩ = some (.int .i64 d.n) ∧ w'.cell? ⟨w5.heap.size, 0, none⟩ = some (.slice A8 T.es.length n8) ∧ w'.cell? ⟨w5.heap.size, 1, none⟩ = some (.slice A9 T.ks.length n9))
        (first | go_keep | exact (HX.out _ hbx.out).2)
        (first | (go_at_call 145; go_loud ((refine (sseen_any t s d _ _ _ (HC.out _ ((hB5.alloc (by omega) _).drew)) hs hN HTR.out HDR.out hd).mono ?_); rintro e w6 ⟨v6, rfl, ho6, hb6⟩; obtain ⟨A10, c10, hv6⟩ := ho6.shape; subst hv6; have HO6 := hid ho6; have hbx : Hid (Below (w5.heap.size + 1) (w5.alloc (.cells #[.slice A8 T.es.length n8, .slice A9 T.ks.length n9] 27)) w6) := (((Below.refl (w5.heap.size + 1) (w5.alloc (.cells #[.slice A8 T.es.length n8, .slice A9 T.ks.length n9] 27))).drew).trans (hb6.mono (by simp))); have hby := hid (HX.out _ hbx.out).1; have hs6 : w5.heap.size + 1 ≤ w6.heap.size := (by have := hbx.out.size; simpa using this); have HGx := hid ((hby.out.block (w.heap.size + 2) (by omega)).trans HG5.out); have k0 : w6.cell? ⟨w.heap.size + 2, 0, none⟩ = some (.slice none 0 0) := cell_cells (i := 0) HGx.out; have k1 : w6.cell? ⟨w.heap.size + 2, 1, none⟩ = some (.slice none 0 0) := cell_cells (i := 1) HGx.out; have k2 : w6.cell? ⟨w.heap.size + 2, 2, none⟩ = some (.slice none 0 0) := cell_cells (i := 2) HGx.out; have z0 := cells_frz (i := 0) HGx.out; have z1 := cells_frz (i := 1) HGx.out; have z2 := cells_frz (i := 2) HGx.out; have hlt6 : w.heap.size + 2 < w6.heap.size := (by omega); have hne6 : w.heap.size + 2 ≠ w6.heap.size := (by omega); clear ho6 hb6)))
      all_goals go_wp2_with fail
      obtain ⟨r0, r1, r2, hK, hS⟩ := box3 HGx.out (.slice A8 T.es.length n8) (.slice A9 T.ks.length n9) (.slice A10 (seenC (kidT t s) d).length c10)
      have hBW : Below w.heap.size w (((w6.setCell ⟨w.heap.size + 2, 0, none⟩ (.slice A8 T.es.length n8)).setCell ⟨w.heap.size + 2, 1, none⟩ (.slice A9 T.ks.length n9)).setCell ⟨w.heap.size + 2, 2, none⟩ (.slice A10 (seenC (kidT t s) d).length c10)) := (((hB5.trans (hby.out.mono (by omega))).setCell (by simp) _).setCell (by simp) _).setCell (by simp) _
      clear k0 k1 k2 z0 z1 z2
      generalize (((w6.setCell ⟨w.heap.size + 2, 0, none⟩ (.slice A8 T.es.length n8)).setCell ⟨w.heap.size + 2, 1, none⟩ (.slice A9 T.ks.length n9)).setCell ⟨w.heap.size + 2, 2, none⟩ (.slice A10 (seenC (kidT t s) d).length c10)) = W at *
      refine bodyPost_ret (v := .tuple #[.agg #[.slice A8 T.es.length n8, .slice A9 T.ks.length n9, .slice A10 (seenC (kidT t s) d).length c10], .int .i64 0]) (by simp [results, Tryz.results66, go_sem, r0, r1, r2]) rfl ⟨_, _, _, by rw [HE.out], ?_, ?_, hBW⟩
      · rw [HTT.out]
        exact rda_up (fun b hb => (hK b (by have := hb.1; simp only [World.size_alloc] at this; omega)).trans (hby.out.block b hb.2)) (fun b hb => ⟨by have := hb.1; simp only [World.size_alloc] at this; omega, by have := hb.2; omega⟩) _ _ _ hrd5
      · rw [HCC.out]
        refine (HO6.out.sla (by unfold Big; omega)).up (fun b hb => hK b (by have := hb.1; simp only [World.size_alloc, World.size_drew] at this; omega)) (fun b hb => ⟨by have := hb.1; simp only [World.size_alloc, World.size_drew] at this; omega, by have := hb.2.1; omega⟩) (fun _ _ _ h => h)
end Go.Proofs.YtmphgnjodangcaaGreat

namespace Go.Proofs.YtmphgnjodangcaaGreat
open Go.RowKit
set_option maxRecDepth 100000

theorem tKey_mem {s : ByteArray} {e : En} {x : Lf} : x ∈ (Tr.mk [] [(s, tOne e)]).lvs [] ↔ x = ([s], e) := by simp [Tr.lvs, Tr.lvsL]
theorem tKey_ord {s : ByteArray} {e : En} (hs : keyB s = true) : (Tr.mk [] [(s, tOne e)]).Ord := Ord.mk' .nil (List.pairwise_singleton _ _) fun k t h => by
  simp at h
  obtain ⟨rfl, rfl⟩ := h
  exact ⟨keyB_ne hs, rfl, tOne_ord e⟩
theorem tKey_ok {s : ByteArray} {e : En} {c : List Sp} (hs : keyB s = true) (he : e.right = true) (hc : apartB c = true) (hh : hasC c e.dot = true) : CaOk (.mk [] [(s, tOne e)]) c :=
  ⟨tKey_ord hs, fun x hx => by rw [tKey_mem.1 hx]; exact ⟨by simp, by simpa using hs, he⟩, hc, fun x hx => by rw [tKey_mem.1 hx]; exact hh⟩
theorem kid_dots {t : Tr} (ho : t.Ord) {s : ByteArray} {x : Dt} (h : x ∈ (kidT t s).dots) : x ∈ t.dots := by
  obtain ⟨p, e, hx, rfl⟩ := (mem_dots _ _).1 h
  exact (mem_dots t _).2 ⟨s :: p, e, (mem_kidT ho).1 hx, rfl⟩
theorem kid_rightT {t : Tr} (h : t.right 5 = true) (s : ByteArray) : (kidT t s).right 5 = true := right_up _ 4 5 (kidT_right (n := 4) h (by omega) s) (by omega)
theorem elL_mem {t : Tr} {x : ByteArray} : x ∈ elL t.ks ↔ ∃ e, (([x], e) : Lf) ∈ t.lvs [] := by
  obtain ⟨es, ks⟩ := t
  unfold elL
  constructor
  · intro h
    obtain ⟨⟨k, u⟩, hu, rfl⟩ := List.mem_map.1 h
    obtain ⟨hu1, hu2⟩ := List.mem_filter.1 hu
    obtain ⟨es', ks'⟩ := u
    have hp : 0 < es'.length := of_decide_eq_true (show decide (0 < es'.length) = true from hu2)
    obtain ⟨e, he⟩ := List.exists_mem_of_length_pos hp
    exact ⟨e, mem_cons'.2 ⟨_, hu1, mem_nil.2 he⟩⟩
  · rintro ⟨e, he⟩
    obtain ⟨u, hu, hx⟩ := mem_cons'.1 he
    have h1 := mem_es.1 hx
    have h2 := List.length_pos_of_mem h1
    exact List.mem_map.2 ⟨(x, u), List.mem_filter.2 ⟨hu, by simpa [elP] using h2⟩, rfl⟩
theorem elL_sorted {t : Tr} (ho : t.Ord) : (elL t.ks).Pairwise fun a b => ltS a b = true := by
  obtain ⟨es, ks⟩ := t
  exact List.pairwise_map.2 ((ord_iff.1 ho).2.1.filter _)
theorem elL_st {t : Tr} (ho : t.Ord) {x : ByteArray} : x ∈ elL t.ks ↔ ∃ d e, stE t [x] d = some e :=
  elL_mem.trans ⟨fun ⟨e, he⟩ => ⟨e.dot, e, (stE_some ho).2 ⟨he, rfl⟩⟩, fun ⟨_, e, h⟩ => ⟨e, ((stE_some ho).1 h).1⟩⟩
theorem elems_right {t : Tr} (h : t.right 5 = true) : elemsOf t = elL t.ks := by unfold elemsOf; rw [h]; rfl
theorem hasE_mem {t : Tr} (h : t.right 5 = true) {s : ByteArray} : hasE t s = true ↔ s ∈ elL t.ks := by
  unfold hasE
  rw [elems_right h, List.any_eq_true]
  exact ⟨fun ⟨x, hx, he⟩ => by have := of_decide_eq_true he; exact this ▸ hx, fun hx => ⟨s, hx, by simp⟩⟩
/-- Does no dot of leaves stand at two places? -/
def onceL (l : List Lf) : Bool := decide ((l.map fun x => x.2.dot).Nodup)
theorem nd_inj {α β : Type} {f : α → β} : ∀ {l : List α}, (l.map f).Nodup → ∀ x ∈ l, ∀ y ∈ l, f x = f y → x = y
  | a :: l, h, x, hx, y, hy, e => by
    rw [List.map_cons, List.nodup_cons] at h
    rcases List.mem_cons.1 hx with h1 | h1
    · rcases List.mem_cons.1 hy with h2 | h2
      · rw [h1, h2]
      · subst h1; exact absurd (List.mem_map.2 ⟨y, h2, e.symm⟩) h.1
    · rcases List.mem_cons.1 hy with h2 | h2
      · subst h2; exact absurd (List.mem_map.2 ⟨x, h1, e⟩) h.1
      · exact nd_inj h.2 x h1 y h2 e
theorem once_one {t : Tr} (h : onceL (t.lvs []) = true) {p q : List ByteArray} {e f : En} (hp : ((p, e) : Lf) ∈ t.lvs []) (hq : ((q, f) : Lf) ∈ t.lvs []) (hd : e.dot = f.dot) : p = q ∧ e = f := by
  have := nd_inj (of_decide_eq_true h) _ hp _ hq hd
  simpa using this
theorem set_keep {t : Tr} {s x : ByteArray} {d : Dt} {y : En} (ho : t.Ord) (hon : onceL (t.lvs []) = true) (hx : x ≠ s) (hs : stE t [x] d = some y) : d ∉ (kidT t s).dots := by
  intro h
  obtain ⟨p, e, he, hd⟩ := (mem_dots _ _).1 h
  have h1 := (mem_kidT ho).1 he
  obtain ⟨h2, h3⟩ := (stE_some ho).1 hs
  have h4 := (once_one hon h1 h2 (hd.trans h3.symm)).1
  simp at h4
  exact hx h4.1.symm
end Go.Proofs.YtmphgnjodangcaaGreat

namespace Go.Proofs.YtmphgnjodangcaaGreat
open Go.RowKit
set_option maxRecDepth 100000

set_option maxHeartbeats 1000000 in
theorem st_plain {t : Tr} {s : ByteArray} {d : Dt} (hm : sckB t s d = true) (hon : onceL (t.lvs []) = true) (hl : t.ks.length < 24) (hz : t.sz ≤ 60) : ∃ (X Y : Tr) (S : List Sp) (A B : Tr) (U V : List Sp) (K P Q : List ByteArray), Hid (addT t s d = X) ∧ Hid (addC t s d = S) ∧ Hid (addE t s d = 0) ∧ Hid (delC t s d = S) ∧ Hid (sckI t s d = 0) ∧ Hid (Y = .mk [] []) ∧
    Hid (jnE t X (knC t) S = 0) ∧ Hid (jnT t X (knC t) S = A) ∧ Hid (jnC t X (knC t) S = U) ∧ Hid (jnE t Y (knC t) S = 0) ∧ Hid (jnT t Y (knC t) S = B) ∧ Hid (jnC t Y (knC t) S = V) ∧
    Hid (elL t.ks = K) ∧ Hid (elemsOf A = P) ∧ Hid (sdL (K ++ [s]) = P) ∧ Hid (elemsOf B = Q) ∧ Hid (lessL K s = Q) ∧ X.sz ≤ 40 ∧ Y.sz ≤ 40 ∧ A.ks.length ≤ 200 ∧ B.ks.length ≤ 200 ∧ S.length ≤ 4000 ∧ (knC t).length ≤ 400 ∧ K.length ≤ 100 ∧ P.length ≤ 200 ∧ Q.length ≤ 200 ∧ Hid (∀ d ∈ t.dots, 0 ≤ d.n ∧ d.n ≤ 1099511627778) := by
  obtain ⟨hc, hk1⟩ := sck_chk hm
  obtain ⟨g1, g2, g3⟩ := chkT_dots hc
  have hk := known_ok g1
  have hkr := kid_rightT g1 s
  have hE : addE t s d = 0 := by unfold addE; rw [hm]; simp; omega
  have hT1 : addT t s d = .mk [] [(s, tOne ⟨d.dc, d.n, ByteArray.empty, 0⟩)] := by unfold addT; rw [if_pos hE]; rfl
  have hC1 : addC t s d = seenC (kidT t s) d := by unfold addC; rw [if_pos hE]
  have hC2 : delC t s d = seenC (kidT t s) d := by unfold delC; rw [if_pos hm]
  have hed : (⟨d.dc, d.n, ByteArray.empty, 0⟩ : En).dot = d := rfl
  have hX : CaOk (Tr.mk [] [(s, tOne ⟨d.dc, d.n, ByteArray.empty, 0⟩)]) (seenC (kidT t s) d) := tKey_ok hk1 (dot_en_right g2) (seen_apart hkr g2) (by rw [hed]; exact (seen_has hkr g2).2 (.inr rfl))
  have hY : CaOk (Tr.mk [] []) (seenC (kidT t s) d) := nil_ok (seen_apart hkr g2)
  obtain ⟨a1, a2, a3⟩ := jn_ok hk hX
  obtain ⟨b1, b2, b3⟩ := jn_ok hk hY
  have hA := jT_ok hk hX
  have hB := jT_ok hk hY
  have s3 := kn_sz (t := t) (by omega)
  have hkz := kidT_sz t s
  have s4 := seen_sz (t := kidT t s) (d := d) (by omega)
  have s5 := jT_sz hk hX
  have s6 := jT_sz hk hY
  have z1 : (Tr.mk [] [(s, tOne ⟨d.dc, d.n, ByteArray.empty, 0⟩)]).sz = 2 := by simp [Tr.sz, Tr.szL]
  have z2 : (Tr.mk [] []).sz = 0 := by simp [Tr.sz, Tr.szL]
  have hd0 : ∀ x, d ∉ (kidT t x).dots := fun x h => g3 (kid_dots hk.ord h)
  have hXs : stE (Tr.mk [] [(s, tOne ⟨d.dc, d.n, ByteArray.empty, 0⟩)]) [s] d = some ⟨d.dc, d.n, ByteArray.empty, 0⟩ := (stE_some (tKey_ord hk1)).2 ⟨tKey_mem.2 rfl, rfl⟩
  have hXn : ∀ x, x ≠ s → ∀ d', stE (Tr.mk [] [(s, tOne ⟨d.dc, d.n, ByteArray.empty, 0⟩)]) [x] d' = none := fun x hx d' => (stE_none (tKey_ord hk1)).2 fun e he => by
    have := tKey_mem.1 he
    simp at this
    exact absurd this.1 hx
  have hss : stE (jT t (Tr.mk [] [(s, tOne ⟨d.dc, d.n, ByteArray.empty, 0⟩)]) (knC t) (seenC (kidT t s) d)) [s] d = some ⟨d.dc, d.n, ByteArray.empty, 0⟩ := by
    rw [stE_join hk hX, hXs, stE_out hk.ord g3, kn_hasB g1]
    simp [jnO, g3]
  have hEA : elemsOf (jT t (Tr.mk [] [(s, tOne ⟨d.dc, d.n, ByteArray.empty, 0⟩)]) (knC t) (seenC (kidT t s) d)) = sdL (elL t.ks ++ [s]) := by
    rw [elems_right ((right_iff hA.ord).2 hA.leaf)]
    refine sorted_ext ltS_irrefl (fun _ _ _ h k => ltS_trans h k) (elL_sorted hA.ord) (sdL_spec _).1 fun x => ?_
    rw [elL_st hA.ord, (sdL_spec _).2 x, List.mem_append, List.mem_singleton, elL_st hk.ord]
    by_cases hx : x = s
    · subst hx
      exact ⟨fun _ => .inr rfl, fun _ => ⟨_, _, hss⟩⟩
    constructor
    · rintro ⟨d', e, h⟩
      rw [stE_join hk hX, hXn x hx] at h
      cases hs : stE t [x] d' with
      | none => rw [hs] at h; simp [jnO] at h
      | some y => exact .inl ⟨d', y, hs⟩
    · rintro (⟨d', y, hs⟩ | h)
      · refine ⟨d', y, ?_⟩
        have h1 := set_keep hk.ord hon hx hs
        have h2 : d' ≠ d := fun h => by rw [h, stE_out hk.ord g3] at hs; cases hs
        rw [stE_join hk hX, hXn x hx, hs, seen_hasB hkr g2]
        simp [jnO, h1, h2]
      · exact absurd h hx
  have hEB : elemsOf (jT t (.mk [] []) (knC t) (seenC (kidT t s) d)) = lessL (elL t.ks) s := by
    rw [elems_right ((right_iff hB.ord).2 hB.leaf)]
    refine sorted_ext ltS_irrefl (fun _ _ _ h k => ltS_trans h k) (elL_sorted hB.ord) ((elL_sorted hk.ord).filter _) fun x => ?_
    rw [elL_st hB.ord]
    unfold lessL
    rw [List.mem_filter, elL_st hk.ord]
    by_cases hx : x = s
    · subst hx
      constructor
      · rintro ⟨d', e, h⟩
        rw [stE_join hk hY, stE_nil] at h
        cases hs : stE t [x] d' with
        | none => rw [hs] at h; simp [jnO] at h
        | some y =>
          obtain ⟨h1, h2⟩ := (stE_some hk.ord).1 hs
          have h3 : d' ∈ (kidT t x).dots := (mem_dots _ _).2 ⟨[], y, (mem_kidT hk.ord).2 h1, h2⟩
          rw [hs, seen_hasB hkr g2] at h
          simp [jnO, h3] at h
      · rintro ⟨_, h⟩
        simp at h
    constructor
    · rintro ⟨d', e, h⟩
      rw [stE_join hk hY, stE_nil] at h
      cases hs : stE t [x] d' with
      | none => rw [hs] at h; simp [jnO] at h
      | some y => exact ⟨⟨d', y, hs⟩, by simpa using hx⟩
    · rintro ⟨⟨d', y, hs⟩, _⟩
      refine ⟨d', y, ?_⟩
      have h1 := set_keep hk.ord hon hx hs
      have h2 : d' ≠ d := fun h => by rw [h, stE_out hk.ord g3] at hs; cases hs
      rw [stE_join hk hY, stE_nil, hs, seen_hasB hkr g2]
      simp [jnO, h1, h2]
  have k1 := es_sz (jT t (Tr.mk [] [(s, tOne ⟨d.dc, d.n, ByteArray.empty, 0⟩)]) (knC t) (seenC (kidT t s) d))
  have k2 := es_sz (jT t (.mk [] []) (knC t) (seenC (kidT t s) d))
  have l1 := elL_len t.ks
  have l2 := elemsOf_len (jT t (Tr.mk [] [(s, tOne ⟨d.dc, d.n, ByteArray.empty, 0⟩)]) (knC t) (seenC (kidT t s) d))
  have l3 := elemsOf_len (jT t (.mk [] []) (knC t) (seenC (kidT t s) d))
  have k0 := es_sz t
  exact ⟨_, .mk [] [], _, _, _, _, _, _, _, _, hT1, hC1, hE, hC2, if_pos hm, rfl, a1, a2, a3, b1, b2, b3, rfl, rfl, hEA.symm, rfl, hEB.symm, by omega, by omega, by omega, by omega, s4, s3, by omega, by omega, by omega, right_nums g1⟩
end Go.Proofs.YtmphgnjodangcaaGreat

namespace Go.Proofs.YtmphgnjodangcaaGreat
open Go.RowKit
set_option maxRecDepth 100000

set_option maxHeartbeats 4000000 in
theorem r10sorted_any (l : List ByteArray) (v : Value) (w : World) (h : SlP w w.heap.size 1 StE v l) (hN : l.length ≤ 900000) :
    Calls Tryz.prog 54 #[v] w (RetO w 9 1 (fun _ => StE) (sdL l)) := by
  have HSZ : Hid (∀ x ∈ l, x.size ≤ Big) := fun x hx => by
    obtain ⟨_, _, _, _, _, h3⟩ := h
    obtain ⟨b, off, _, _, hc⟩ := h3 (by rintro rfl; cases hx)
    obtain ⟨j, hj⟩ := List.getElem?_of_mem hx
    obtain ⟨cs, ⟨_, hok⟩, _⟩ := hc j x hj
    exact hok
  obtain ⟨A, c, rfl, l1, l2, l3⟩ := h
  unfold Big at l2
  go_enter Tryz.func54, Tryz.ntmps54
  go_wp2_with fail
  go_loopg [3] (l.length + 1) (fun n vo wr => ∃ out : List ByteArray, OwnP wr w.heap.size 9 1 StE vo out ∧ Below w.heap.size w wr ∧ Hid (sdGo l n out = sdL l) ∧ Hid (ahT l out.getLast? < n) ∧ Hid (out.length + n ≤ l.length + 1))
  case atStart => exact ⟨[], OwnP.nil, Below.refl _ _, rfl, by have := ahT_le l ([] : List ByteArray).getLast?; unfold Hid; omega, by unfold Hid; simp⟩
  case round =>
    obtain ⟨out, hown, hb, hgo, hah, hle⟩ := hrel
    have hol : out.length ≤ 900000 := by have := hle.out; have := hah.out; omega
    obtain ⟨Ae, ce, rfl⟩ := hown.shape
    have HSP := hid (hown.sl (by unfold Big; omega))
    have HOW := hid hown
    clear hown
    go_wp2_with fail
    obtain ⟨wo, rfl⟩ : ∃ wo : World, wo = wr := ⟨_, rfl⟩
    go_loopw [4, 5, 9] (fun vb vs i wr => ∃ k : Nat, k ≤ l.length ∧ i = .int .i64 k ∧ vb = .string (((l.take k).foldl (pickS out.getLast?) none).getD ByteArray.empty) ∧ vs = .bool ((l.take k).foldl (pickS out.getLast?) none).isSome ∧ Below wo.heap.size wo wr) (fun _ _ i _ => l.length - (intOf i).toNat)
    case atStart => exact ⟨0, Nat.zero_le _, rfl, rfl, rfl, Below.refl _ _⟩
    case round =>
      obtain ⟨k, hk, rfl, rfl, rfl, hbr⟩ := hrel
      have hs2 := hbr.size
      have hB : Below w.heap.size w wr := hb.trans (hbr.mono hb.size)
      by_cases hlt : k < l.length
      · obtain ⟨x, hx⟩ : ∃ x, l[k]? = some x := ⟨_, List.getElem?_eq_getElem hlt⟩
        obtain ⟨b, off, rfl, hbB, hc⟩ := l3 (by rintro rfl; simp at hlt)
        obtain ⟨cs, ⟨rfl, hok⟩, _, hu⟩ := hc k _ hx
        have e0 : wr.cell? ⟨b, off + k, none⟩ = some (.string x) := (hB.cell (p := ⟨b, off + k, none⟩) hbB).trans (by simpa using hu 0 _ rfl)
        have hsz := hB.size
        have q0 := far_cell (B := wr.heap.size) e0 (by omega)
        have HE0 : Hid (∀ m', Below wr.heap.size wr m' → m'.cell? ⟨b, off + k, none⟩ = some (.string x)) := fun m' hm => (hm.cell (p := ⟨b, off + k, none⟩) (by show b < _; omega)).trans e0
        have hut := pick_take hx out.getLast? none
        clear hu hc l3 hx e0 hgo hah hle
        rcases nil_or_snoc out with rfl | ⟨out', z, rfl⟩
        · generalize hbst : (l.take k).foldl (pickS ([] : List ByteArray).getLast?) none = bst at *
          cases bst with
          | none =>
            have HX : Hid ((l.take (k + 1)).foldl (pickS ([] : List ByteArray).getLast?) none = some x) := by unfold Hid; rw [hut]; simp [pickS, pickC, okT]
            clear hut hbst
            go_upto_region 6 with (fail)
            refine wp_region_far wr.heap.size (by kernel_rfl) (by kernel_rfl) ?_
            repeat (go_big_quiet_step (fail))
            refine wpQuiet_nil ?_
            intro wq hbq
            have e0 := HE0.out wq hbq
            go_wp2_with fail
            go_roundw
            case rel => exact ⟨k + 1, by omega, by go_num, by rw [HX.out] <;> rfl, by rw [HX.out] <;> rfl, hbr.trans (hbq.mono (by omega))⟩
            case measure => simp [intOf]; omega
          | some y =>
            rcases hyx : Op.bytesLess x.toList y.toList
            · have HX : Hid ((l.take (k + 1)).foldl (pickS ([] : List ByteArray).getLast?) none = some y) := by unfold Hid; rw [hut]; simp [pickS, pickC, okT, ltS, hyx]
              clear hut hbst
              simp only [Option.getD_some, Option.isSome_some] at *
              go_upto_region 6 with (fail)
              refine wp_region_far wr.heap.size (by kernel_rfl) (by kernel_rfl) ?_
              repeat (go_big_quiet_step (fail))
              refine wpQuiet_nil ?_
              intro wq hbq
              go_wp2_with fail
              go_roundw
              case rel => exact ⟨k + 1, by omega, by go_num, by rw [HX.out] <;> rfl, by rw [HX.out] <;> rfl, hbr.trans (hbq.mono (by omega))⟩
              case measure => simp [intOf]; omega
            · have HX : Hid ((l.take (k + 1)).foldl (pickS ([] : List ByteArray).getLast?) none = some x) := by unfold Hid; rw [hut]; simp [pickS, pickC, okT, ltS, hyx]
              clear hut hbst
              simp only [Option.getD_some, Option.isSome_some] at *
              go_upto_region 6 with (fail)
              refine wp_region_far wr.heap.size (by kernel_rfl) (by kernel_rfl) ?_
              repeat (go_big_quiet_step (fail))
              refine wpQuiet_nil ?_
              intro wq hbq
              have e0 := HE0.out wq hbq
              go_wp2_with fail
              go_roundw
              case rel => exact ⟨k + 1, by omega, by go_num, by rw [HX.out] <;> rfl, by rw [HX.out] <;> rfl, hbr.trans (hbq.mono (by omega))⟩
              case measure => simp [intOf]; omega
        · have hgl : (out' ++ [z]).getLast? = some z := by simp
          rw [hgl] at hut ⊢
          obtain ⟨np, hnp, hne, hnp1⟩ : ∃ np : Nat, (out' ++ [z]).length = np + 1 ∧ (((np : Int) + 1) == 0) = false ∧ np < 900000 := ⟨out'.length, by simp, by simp; omega, by simp at hol; omega⟩
          obtain ⟨A9, c9, hv9, _, _, hcz⟩ := HSP.out
          simp only [Value.slice.injEq] at hv9
          obtain ⟨rfl, _, rfl⟩ := hv9
          obtain ⟨bz, oz, rfl, hbz, hcz⟩ := hcz (by simp)
          have hzn : (out' ++ [z])[np]? = some z := by
            have e : np = out'.length := by simpa using hnp.symm
            rw [e]; simp
          obtain ⟨cz, ⟨rfl, hokz⟩, _, huz⟩ := hcz np z hzn
          have w0 := far_cell (B := wr.heap.size) ((hbr.cell (p := ⟨bz, oz + np, none⟩) hbz).trans (by simpa using huz 0 _ rfl)) (by omega)
          have hwr : IntKind.i64.wrap (((np + 1 : Nat) : Int) - 1) = (np : Int) := by rw [show (((np + 1 : Nat) : Int)) - 1 = (np : Int) by omega]; exact IntWalk.i64_in _ (by omega)
          have hne2 : ((((np + 1 : Nat) : Int)) == 0) = false := by simp; omega
          have hgt := ltS_gt z x
          clear hcz huz hzn
          rw [hnp]
          have HNP := hid hnp
          clear hnp
          have hpk0 : ∀ b : Option ByteArray, pickC (some z) b x = (ltS z x && (match b with | none => true | some c => ltS x c)) := fun _ => rfl
          generalize hbst : (l.take k).foldl (pickS (some z)) none = bst at *
          have hpk := hpk0 bst
          clear hpk0
          rw [hgt] at hpk
          rcases g1 : Op.bytesLess x.toList z.toList
          case true =>
            have HX : Hid ((l.take (k + 1)).foldl (pickS (some z)) none = bst) := by unfold Hid; rw [hut, pickS, hpk, g1]; simp
            clear hut hpk hgt hbst
            go_upto_region 6 with (fail)
            refine wp_region_far wr.heap.size (by kernel_rfl) (by kernel_rfl) ?_
            repeat (go_big_quiet_step (fail))
            refine wpQuiet_nil ?_
            intro wq hbq
            go_wp2_with fail
            go_roundw
            case rel => exact ⟨k + 1, by omega, by go_num, by rw [HX.out] <;> rfl, by rw [HX.out] <;> rfl, hbr.trans (hbq.mono (by omega))⟩
            case measure => simp [intOf]; omega
          rcases g2 : (x.toList == z.toList)
          case true =>
            have HX : Hid ((l.take (k + 1)).foldl (pickS (some z)) none = bst) := by unfold Hid; rw [hut, pickS, hpk, g2]; simp
            have g3 : x.toList = z.toList := by simpa using g2
            clear hut hpk hgt hbst
            go_upto_region 6 with (fail)
            refine wp_region_far wr.heap.size (by kernel_rfl) (by kernel_rfl) ?_
            repeat (go_big_quiet_step (fail))
            refine wpQuiet_nil ?_
            intro wq hbq
            go_wp2_with fail
            go_roundw
            case rel => exact ⟨k + 1, by omega, by go_num, by rw [HX.out] <;> rfl, by rw [HX.out] <;> rfl, hbr.trans (hbq.mono (by omega))⟩
            case measure => simp [intOf]; omega
          have g3 : ¬ x.toList = z.toList := by simpa using g2
          cases bst with
          | none =>
            have HX : Hid ((l.take (k + 1)).foldl (pickS (some z)) none = some x) := by unfold Hid; rw [hut, pickS, hpk, g1, g2]; rfl
            clear hut hpk hgt hbst
            go_upto_region 6 with (fail)
            refine wp_region_far wr.heap.size (by kernel_rfl) (by kernel_rfl) ?_
            repeat (go_big_quiet_step (fail))
            refine wpQuiet_nil ?_
            intro wq hbq
            have e0 := HE0.out wq hbq
            go_wp2_with fail
            go_roundw
            case rel => exact ⟨k + 1, by omega, by go_num, by rw [HX.out] <;> rfl, by rw [HX.out] <;> rfl, hbr.trans (hbq.mono (by omega))⟩
            case measure => simp [intOf]; omega
          | some y =>
            rcases hyx : Op.bytesLess x.toList y.toList
            · have HX : Hid ((l.take (k + 1)).foldl (pickS (some z)) none = some y) := by unfold Hid; rw [hut, pickS, hpk, g1, g2]; simp [ltS, hyx]
              clear hut hpk hgt hbst
              simp only [Option.getD_some, Option.isSome_some] at *
              go_upto_region 6 with (fail)
              refine wp_region_far wr.heap.size (by kernel_rfl) (by kernel_rfl) ?_
              repeat (go_big_quiet_step (fail))
              refine wpQuiet_nil ?_
              intro wq hbq
              go_wp2_with fail
              go_roundw
              case rel => exact ⟨k + 1, by omega, by go_num, by rw [HX.out] <;> rfl, by rw [HX.out] <;> rfl, hbr.trans (hbq.mono (by omega))⟩
              case measure => simp [intOf]; omega
            · have HX : Hid ((l.take (k + 1)).foldl (pickS (some z)) none = some x) := by unfold Hid; rw [hut, pickS, hpk, g1, g2]; simp [ltS, hyx]
              clear hut hpk hgt hbst
              simp only [Option.getD_some, Option.isSome_some] at *
              go_upto_region 6 with (fail)
              refine wp_region_far wr.heap.size (by kernel_rfl) (by kernel_rfl) ?_
              repeat (go_big_quiet_step (fail))
              refine wpQuiet_nil ?_
              intro wq hbq
              have e0 := HE0.out wq hbq
              go_wp2_with fail
              go_roundw
              case rel => exact ⟨k + 1, by omega, by go_num, by rw [HX.out] <;> rfl, by rw [HX.out] <;> rfl, hbr.trans (hbq.mono (by omega))⟩
              case measure => simp [intOf]; omega
      · obtain rfl : k = l.length := by omega
        rw [List.take_of_length_le (Nat.le_refl _)]
        obtain ⟨n, rfl⟩ : ∃ n, gk = n + 1 := ⟨gk - 1, by have := hah.out; omega⟩
        have hgo' := hgo.out
        rw [sdGo] at hgo'
        generalize hbst : l.foldl (pickS out.getLast?) none = bst at *
        cases bst with
        | none =>
          have HF : Hid (out = sdL l) := hgo'
          clear hgo' hgo hbst l3
          go_wp2_with fail
          go_ret
          exact ⟨_, rfl, by rw [← HF.out]; exact HOW.out.grow hbr, hB⟩
        | some y =>
          have HF : Hid (sdGo l n (out ++ [y]) = sdL l) := hgo'
          have HM := hid (pick_mem l out.getLast? none (fun _ h => by cases h) y hbst)
          have HA : Hid (ahT l (out ++ [y]).getLast? < n) := by
            have h1 := ahT_lt hbst
            have h2 := hah.out
            unfold Hid; rw [List.getLast?_concat]; omega
          have HY : Hid (StE y [.string y]) := ⟨rfl, by
            rcases HM.out.1 with h | h
            · cases h
            · exact HSZ.out y h⟩
          have HL : Hid (out.length + [y].length ≤ Few) := by unfold Hid Few; simp; omega
          have hlo := hle.out
          have hown := HOW.out.grow hbr
          clear hgo' hgo hbst l3 hah
          simp only [Option.getD_some, Option.isSome_some]
          go_wp2_with (at_builtin; go_loud ((with_reducible refine wpList_few rfl (.tmp 48) (.tmp 50) _ rfl eiStr (by decide) (by decide) (fun _ _ h => StE.one h) rfl (hown.alloc _) rfl (SlP.one (x := y) HY.out rfl _ rfl) HL.out (by rw [World.size_alloc]; have := hB.size; omega) ?_); intro v1 w1 hown1 hb1 _))
          go_roundg n
          case measure => omega
          case rel => exact ⟨out ++ [y], hown1, (hB.alloc hB.size _).trans hb1, HF.out, HA.out, by unfold Hid; simp; omega⟩

set_option maxHeartbeats 4000000 in
theorem r10texts_any (t : Tr) (w : World) (ve vk : Value) (h : t.rd w w.heap.size ve vk) (hN : t.es.length ≤ 900000) :
    Calls Tryz.prog 156 #[.agg #[ve, vk]] w (RetO w 9 1 (fun _ => StE) (sdL (t.es.map (·.s)))) := by
  obtain ⟨es, ks⟩ := t
  rw [rd_iff] at h
  obtain ⟨⟨A, m, rfl, c1, c2, c3⟩, ⟨A0, n0, rfl, d1, d2, d3⟩⟩ := h
  unfold Big at c2 d2
  simp only [Tr.es] at hN ⊢
  have hb0 : Below w.heap.size w (w.alloc (.cells #[.slice A es.length m, .slice A0 ks.length n0] 27)) := (Below.refl _ w).alloc (Nat.le_refl _) _
  go_enter Tryz.func156, Tryz.ntmps156
  go_wp2_with fail
  go_loopw [3, 8] (fun v i wr => ∃ k : Nat, k ≤ es.length ∧ i = .int .i64 k ∧ OwnP wr (w.heap.size + 1) 9 1 StE v ((es.take k).map (·.s)) ∧ Below (w.heap.size + 1) (w.alloc (.cells #[.slice A es.length m, .slice A0 ks.length n0] 27)) wr) (fun _ i _ => es.length - (intOf i).toNat)
  case atStart => exact ⟨0, Nat.zero_le _, rfl, OwnP.nil, Below.refl _ _⟩
  case round =>
    obtain ⟨k, hk, rfl, hown, hb⟩ := hrel
    have hsz := hb.size
    simp only [World.size_alloc] at hsz
    have hB0 : Below w.heap.size w wr := hb0.trans (hb.mono (by omega))
    by_cases hlt : k < es.length
    · obtain ⟨x, hx⟩ : ∃ x, es[k]? = some x := ⟨_, List.getElem?_eq_getElem hlt⟩
      obtain ⟨b, off, rfl, hbB, hc⟩ := c3 (by rintro rfl; simp at hlt)
      obtain ⟨cs, ⟨rfl, hok⟩, _, hu⟩ := hc k _ hx
      have e2 : wr.cell? ⟨b, off + k * 4 + 2, none⟩ = some (.string x.s) := (hB0.cell hbB).trans (hu 2 _ rfl)
      have z0 : wr.cell? ⟨w.heap.size, 0, none⟩ = some (.slice (some ⟨b, off, none⟩) es.length m) := by rw [hb.cell (p := ⟨w.heap.size, 0, none⟩) (by simp)]; simp
      have HX : Hid ((es.take (k + 1)).map (·.s) = (es.take k).map (·.s) ++ [x.s]) := by unfold Hid; rw [List.take_add_one, hx]; simp
      have HL : Hid (((es.take k).map (·.s)).length + [x.s].length ≤ Few) := by unfold Hid Few; simp; omega
      have HKY : Hid (StE x.s [.string x.s]) := ⟨rfl, hok.s⟩
      clear hu hc c3 hx hb0 hok d3
      go_wp2_with (at_builtin; go_loud ((with_reducible refine wpList_few rfl (.tmp 11) (.tmp 18) _ rfl eiStr (by decide) (by decide) (fun _ _ h => StE.one h) rfl (hown.alloc _) rfl (SlP.one (x := x.s) HKY.out rfl _ rfl) HL.out (by rw [World.size_alloc]; omega) ?_); intro v1 w1 hown1 hb1 _; have hb2 := ((Below.refl (w.heap.size + 1) wr).alloc (by omega) _).trans hb1))
      go_roundw
      case rel => exact ⟨k + 1, by omega, by go_num, by rw [HX.out]; exact hown1, hb.trans hb2⟩
      case measure => simp [intOf]; omega
    · obtain rfl : k = es.length := by omega
      rw [List.take_of_length_le (Nat.le_refl _)] at hown
      have hLl : (es.map (·.s)).length ≤ 900000 := by simp; omega
      clear c3 d3
      obtain ⟨L, hL⟩ : ∃ L, L = es.map (·.s) := ⟨_, rfl⟩
      rw [← hL] at hown hLl
      have HLL := hid hL
      clear hL
      have HS := hid (hown.sl (by unfold Big; omega))
      go_wp2_with fail
      refine (r10sorted_any L _ wr HS.out hLl).mono ?_
      rintro e w2 ⟨v2, rfl, ho2, hb2⟩
      go_wp2_with fail
      go_ret
      exact ⟨v2, rfl, by rw [← HLL.out]; exact ho2.mono (show w.heap.size ≤ wr.heap.size by omega), hB0.trans (hb2.mono (show w.heap.size ≤ wr.heap.size by omega))⟩
end Go.Proofs.YtmphgnjodangcaaGreat

namespace Go.Proofs.YtmphgnjodangcaaGreat
open Go.RowKit
set_option maxRecDepth 100000

theorem once_no {l : List Lf} {i k : Nat} {x y : Lf} (hi : l[i]? = some x) (hk : l[k]? = some y) (hik : i < k) (hd : x.2.dot = y.2.dot) : onceL l = false := by
  unfold onceL
  refine decide_eq_false fun hn => ?_
  rw [List.Nodup, List.pairwise_iff_getElem] at hn
  obtain ⟨h1, e1⟩ := List.getElem?_eq_some_iff.1 hi
  obtain ⟨h2, e2⟩ := List.getElem?_eq_some_iff.1 hk
  have := hn i k (by simpa using h1) (by simpa using h2) hik
  simp only [List.getElem_map] at this
  rw [e1, e2] at this
  exact this hd
theorem once_yes {l : List Lf} (h : ∀ k, k < l.length → ∀ i x y, i < k → l[i]? = some x → l[k]? = some y → x.2.dot ≠ y.2.dot) : onceL l = true := by
  unfold onceL
  refine decide_eq_true ?_
  rw [List.Nodup, List.pairwise_iff_getElem]
  intro i k hi hk hik
  simp only [List.length_map] at hi hk
  simp only [List.getElem_map]
  exact h k hk i _ _ hik (List.getElem?_eq_getElem hi) (List.getElem?_eq_getElem hk)
set_option maxHeartbeats 4000000 in
theorem r08once_any (t : Tr) (w : World) (ve vk : Value) (h : t.rd w w.heap.size ve vk) (hN : t.sz ≤ 90000) :
    Calls Tryz.prog 65 #[.agg #[ve, vk]] w fun e w' => e = .returned (.bool (onceL (t.lvs []))) ∧ Below w.heap.size w w' := by
  obtain ⟨A3, n3, A4, n4, rfl, rfl⟩ := rd_shape h
  have hr := rd_below ((Below.refl _ w).alloc (Nat.le_refl _) (.cells #[.slice A3 t.es.length n3, .slice A4 t.ks.length n4] 27)) (by simp : w.heap.size ≤ (w.alloc (.cells #[.slice A3 t.es.length n3, .slice A4 t.ks.length n4] 27)).heap.size) _ _ _ h
  have HR := hid hr
  have hll := lvs_len t []
  clear hr h
  go_enter Tryz.func65, Tryz.ntmps65
  go_wp2_with fail
  refine (r08leaves_any t _ _ _ HR.out (by omega)).mono ?_
  rintro e w1 ⟨v, rfl, hv, hb1⟩
  have hs1 := hb1.size
  simp only [World.size_alloc] at hs1 hb1
  have hB1 : Below w.heap.size w w1 := ((Below.refl _ w).alloc (Nat.le_refl _) _).trans (hb1.mono (by omega))
  have hvv := hv.sl LfA.mon (by unfold Big; omega)
  obtain ⟨L, HL⟩ : ∃ L : List Lf, Hid (t.lvs [] = L) := ⟨_, rfl⟩
  rw [HL.out] at hvv hll
  obtain ⟨A, c, rfl, l1, l2, l3⟩ := hvv
  unfold Big at l2
  clear hv hb1
  have HL3 := hid l3
  clear l3
  have HB1 := hid hB1
  clear hB1
  have gg := guardDot
  go_wp2_with fail
  go_loopw [10] (fun i wr => ∃ k : Nat, k ≤ L.length ∧ i = .int .i64 k ∧ Hid (∀ k', k' < k → ∀ i x y, i < k' → L[i]? = some x → L[k']? = some y → x.2.dot ≠ y.2.dot) ∧ Below w1.heap.size w1 wr) (fun i _ => L.length - (intOf i).toNat)
  case atStart => exact ⟨0, Nat.zero_le _, rfl, fun k' hk' => by omega, Below.refl _ _⟩
  case round =>
    obtain ⟨k, hk, rfl, hno, hb⟩ := hrel
    have hsz := hb.size
    by_cases hlt : k < L.length
    · obtain ⟨y, hy⟩ : ∃ y, L[k]? = some y := ⟨_, List.getElem?_eq_getElem hlt⟩
      obtain ⟨b, off, rfl, hbB, hc⟩ := HL3.out (by intro e; rw [e] at hlt; simp at hlt)
      obtain ⟨cs, ⟨A7, c7, rfl, _, hok⟩, _, hu⟩ := hc k _ hy
      have HY := hid hy
      have HK0 : Hid (∀ W, Below w1.heap.size w1 W → W.cell? ⟨b, off + k * 5 + 1, none⟩ = some (.int .i64 y.2.dc) ∧ W.cell? ⟨b, off + k * 5 + 2, none⟩ = some (.int .i64 y.2.n)) := fun W hW => ⟨(hW.cell hbB).trans (hu 1 _ rfl), (hW.cell hbB).trans (hu 2 _ rfl)⟩
      have HC := hid hc
      clear hu hc hy hok
      have HB := hid hb
      clear hb
      have hlk : ((k : Int)) < (L.length : Int) := by omega
      go_wp2_with fail
      obtain ⟨wo, hwo⟩ : ∃ wo : World, wo = wr := ⟨_, rfl⟩
      go_loopw [14] (fun j wr => ∃ i : Nat, i ≤ k ∧ j = .int .i64 i ∧ Hid (∀ i' x, i' < i → L[i']? = some x → x.2.dot ≠ y.2.dot) ∧ Below w1.heap.size w1 wr) (fun j _ => k - (intOf j).toNat)
      case atStart => exact ⟨0, Nat.zero_le _, rfl, fun i' x h => by omega, HB.out⟩
      case round =>
        obtain ⟨i, hi, rfl, hni, hbi⟩ := hrel
        by_cases hli : i < k
        · obtain ⟨x, hx⟩ : ∃ x, L[i]? = some x := ⟨_, List.getElem?_eq_getElem (by omega)⟩
          obtain ⟨cs, ⟨A8, c8, rfl, _, hok⟩, _, hu⟩ := HC.out i _ hx
          have d0 : wr.cell? ⟨b, off + i * 5 + 1, none⟩ = some (.int .i64 x.2.dc) := (hbi.cell hbB).trans (hu 1 _ rfl)
          have d1 : wr.cell? ⟨b, off + i * 5 + 2, none⟩ = some (.int .i64 x.2.n) := (hbi.cell hbB).trans (hu 2 _ rfl)
          obtain ⟨e0, e1⟩ := HK0.out wr hbi
          have nn := eqlDot x.2.dot y.2.dot
          have HX := hid hx
          have hli2 : ((i : Int)) < (k : Int) := by omega
          have hli3 : ((i : Int)) < (L.length : Int) := by omega
          have hbL : i < L.length := by omega
          have HBI := hid hbi
          clear hu hx hok hbi
          cases hd : decide (x.2.dot = y.2.dot)
          · have HN := hid (of_decide_eq_false hd)
            rw [hd] at nn
            simp only [En.dot] at nn
            clear hd
            go_wp2_with fail
            go_quiet (fail)
            go_wp2_with fail
            go_roundw
            case rel =>
              refine ⟨i + 1, by omega, by go_num, fun i' x' hi' hx' => ?_, below_drewN HBI.out nq⟩
              rcases Nat.lt_or_ge i' i with h1 | h1
              · exact hni.out i' x' h1 hx'
              · obtain rfl : i' = i := by omega
                have := HX.out
                rw [hx'] at this; cases this
                exact HN.out
            case measure => simp [intOf]; omega
          · have HN := hid (of_decide_eq_true hd)
            rw [hd] at nn
            simp only [En.dot] at nn
            clear hd
            go_wp2_with fail
            go_quiet (fail)
            go_wp2_with fail
            go_ret
            exact ⟨ret_bool (by rw [HL.out]; exact (once_no HX.out HY.out hli HN.out).symm), HB1.out.trans ((below_drewN HBI.out nq).mono (by omega))⟩
        · obtain rfl : i = k := by omega
          have HBI := hid hbi
          clear hbi
          go_wp2_with fail
          go_roundw
          case rel =>
            refine ⟨i + 1, by omega, by go_num, fun k' hk' i' x' y' hi' hx' hy' => ?_, HBI.out⟩
            rcases Nat.lt_or_ge k' i with h1 | h1
            · exact hno.out k' h1 i' x' y' hi' hx' hy'
            · obtain rfl : k' = i := by omega
              have := HY.out
              rw [hy'] at this; cases this
              exact hni.out i' x' hi' hx'
          case measure => simp [intOf]; omega
    · obtain rfl : k = L.length := by omega
      go_wp2_with fail
      go_ret
      exact ⟨ret_bool (by rw [HL.out]; exact (once_yes hno.out).symm), HB1.out.trans (hb.mono (by omega))⟩
set_option maxHeartbeats 2000000 in
theorem r10with_any (l : List ByteArray) (s : ByteArray) (v : Value) (w : World) (h : SlP w w.heap.size 1 StE v l) (hs : s.size ≤ Big) (hN : l.length ≤ 90000) :
    Calls Tryz.prog 70 #[v, .string s] w (RetO w 9 1 (fun _ => StE) (sdL (l ++ [s]))) := by
  have HH := hid h
  obtain ⟨A, c, rfl, _⟩ := h
  have HL : Hid (([] : List ByteArray).length + l.length ≤ Few) := by unfold Hid Few; simp; omega
  have HL2 : Hid (([] ++ l : List ByteArray).length + [s].length ≤ Few) := by unfold Hid Few; simp; omega
  have HS : Hid (StE s [.string s]) := ⟨rfl, hs⟩
  go_enter Tryz.func70, Tryz.ntmps70
  go_wp2_with (at_builtin; first
    | (refine wpList_few (v := .slice (some ⟨_, 0, none⟩) 0 0) rfl (.tmp 5) (.tmp 6) _ rfl eiStr (by decide) (by decide) (fun _ _ h => StE.one h) rfl (OwnP.empty (base := w.heap.size) (heap_new rfl) (Nat.le_refl _)) rfl (HH.out.imp ((Below.refl _ w).alloc (Nat.le_refl _) _) (Nat.le_refl _) fun _ _ _ h => h) HL.out (by simp) ?_; intro v1 w1 hown1 hb1 _; have hs1 := hb1.size; simp only [World.size_alloc] at hs1; have hB1 : Below w.heap.size w w1 := Below.trans ((Below.refl _ w).alloc (Nat.le_refl _) _) hb1)
    | (refine wpList_few rfl (.tmp 7) (.tmp 9) _ rfl eiStr (by decide) (by decide) (fun _ _ h => StE.one h) rfl (hown1.alloc _) rfl (SlP.one (x := s) HS.out rfl _ rfl) HL2.out (by rw [World.size_alloc]; omega) ?_; intro v2 w2 hown2 hb2 _))
  have hB2 : Below w.heap.size w w2 := (hB1.alloc (by omega) _).trans hb2
  have hs2 := hb2.size
  simp only [World.size_alloc] at hs2
  have hsl := hown2.sl (by unfold Big; simp; omega)
  simp only [List.nil_append] at hsl
  refine (r10sorted_any (l ++ [s]) _ _ hsl (by simp; omega)).mono ?_
  rintro e w3 ⟨v3, rfl, ho3, hb3⟩
  go_wp2_with fail
  go_ret
  exact ⟨v3, rfl, ho3.mono (by omega), hB2.trans (hb3.mono (by omega))⟩
end Go.Proofs.YtmphgnjodangcaaGreat

namespace Go.Proofs.YtmphgnjodangcaaGreat
open Go.RowKit
set_option maxRecDepth 100000

/-- What the reference builds of one entry below one key. -/
theorem put_tree {s : ByteArray} (d : Dt) (hk : keyB s = true) : buildL [([s], ⟨d.dc, d.n, ByteArray.empty, 0⟩)] = .mk [] [(s, oneE d)] := by
  have ho : Tr.Ord (oneE d) := Ord.mk' (List.pairwise_singleton _ _) .nil fun _ _ h => by cases h
  have hO : Tr.Ord (.mk [] [(s, oneE d)]) := Ord.mk' .nil (List.pairwise_singleton _ _) fun k u hm => by
    rw [List.mem_singleton] at hm; cases hm; exact ⟨keyB_ne hk, rfl, ho⟩
  have := build_lvs hO
  simpa [Tr.lvs, Tr.lvsL, oneE] using this
def aB : ByteArray := ⟨#[97]⟩
theorem awk11_E : addE (.mk [] []) aB ⟨1, 1⟩ = 0 := by kernel_rfl
theorem awk11_T : addT (.mk [] []) aB ⟨1, 1⟩ = .mk [] [(aB, oneE ⟨1, 1⟩)] := by
  unfold addT; rw [awk11_E, if_pos rfl]
theorem awk11_C : addC (.mk [] []) aB ⟨1, 1⟩ = ctxBy [] [⟨1, 1, 1⟩] 0 := by kernel_rfl
theorem awk11_H : hasE (.mk [] [(aB, oneE ⟨1, 1⟩)]) aB = true := by kernel_rfl
set_option maxHeartbeats 4000000 in
theorem awake11_any (w : World) : Calls Tryz.prog 62 #[] w fun e w' => e = .returned (.bool true) ∧ Below w.heap.size w w' := by
  have hb0 := (Below.refl w.heap.size w).alloc (Nat.le_refl _) (.cells #[.int .i64 1, .int .i64 1] 54)
  go_enter Tryz.func62, Tryz.ntmps62
  go_wp2_with fail
  refine (sadd_any (.mk [] []) aB ⟨1, 1⟩ _ _ _ rd_empty (by decide) (by simp [Tr.sz, Tr.szL]) ⟨⟨by decide, by decide⟩, ⟨by decide, by decide⟩⟩).mono ?_
  rintro e w1 ⟨ve, vk, vc, rfl, hrd, hsc, hb1⟩
  rw [awk11_E]
  rw [awk11_T] at hrd
  rw [awk11_C] at hsc
  have hH := awk11_H
  have hP : buildL [([aB], ⟨1, 1, ByteArray.empty, 0⟩)] = .mk [] [(aB, oneE ⟨1, 1⟩)] := put_tree ⟨1, 1⟩ (by decide)
  have hkn : (Tr.mk [] [(aB, oneE ⟨1, 1⟩)]).ks.length ≤ 900000 := by decide
  generalize (Tr.mk [] [(aB, oneE ⟨1, 1⟩)] : Tr) = T at *
  generalize hC : ctxBy [] [(⟨1, 1, 1⟩ : Sp)] 0 = C at hsc
  obtain ⟨C', hC'⟩ : ∃ C', C' = C := ⟨_, rfl⟩
  have HSM : Hid ((trEq T (buildL [([aB], ⟨1, 1, ByteArray.empty, 0⟩)]) && decide (C = C')) = true) := by
    unfold Hid; rw [hP, hC']; simp [trEq]
  have HPC : Hid (ctxBy [] [(⟨1, 1, 1⟩ : Sp)] 0 = C') := hC.trans hC'.symm
  clear hC'
  have HV := hid hH
  have HAZ : Hid (aB.size ≤ Big) := by unfold Hid; decide
  clear hH hP hC
  obtain ⟨Ae, ne, Ak, nk, rfl, rfl⟩ := rda_shape hrd
  obtain ⟨Ac, nc, rfl⟩ := hsc.shape
  have hs1 := hb1.size
  simp only [World.size_alloc] at hs1
  have hB1 : Below w.heap.size w w1 := hb0.trans (hb1.mono (by simp))
  have d0 : w1.cell? ⟨w.heap.size, 0, none⟩ = some (.int .i64 1) := by rw [hb1.cell (p := ⟨w.heap.size, 0, none⟩) (by simp)]; simp
  have d1 : w1.cell? ⟨w.heap.size, 1, none⟩ = some (.int .i64 1) := by rw [hb1.cell (p := ⟨w.heap.size, 1, none⟩) (by simp)]; simp
  have HT : Hid (∀ w', Below w1.heap.size w1 w' → T.rd w' w'.heap.size (.slice Ae T.es.length ne) (.slice Ak T.ks.length nk)) := fun w' hb => rda_rd hrd (fun b hb => hb.2) hb
  have HCt : Hid (∀ w', Below w1.heap.size w1 w' → SlP w' w'.heap.size 3 SpE (.slice Ac C.length nc) C) := fun w' hb => hsc.slp (fun b hb => hb.2) hb
  have HB : Hid (∀ w', Below (w1.heap.size + 1) (w1.alloc (.cells #[.slice Ae T.es.length ne, .slice Ak T.ks.length nk, .slice Ac C.length nc] 31)) w' → Below w.heap.size w w' ∧ Below w1.heap.size w1 w' ∧ (w'.cell? ⟨w.heap.size, 0, none⟩ = some (.int .i64 1) ∧ w'.cell? ⟨w.heap.size, 1, none⟩ = some (.int .i64 1) ∧ w'.cell? ⟨w1.heap.size, 0, none⟩ = some (.slice Ae T.es.length ne) ∧ w'.cell? ⟨w1.heap.size, 1, none⟩ = some (.slice Ak T.ks.length nk) ∧ w'.cell? ⟨w1.heap.size, 2, none⟩ = some (.slice Ac C.length nc))) := fun w' hb => by
    have hB : Below w1.heap.size w1 w' := ((Below.refl _ w1).alloc (Nat.le_refl _) _).trans (hb.mono (by omega))
    refine ⟨hB1.trans (hB.mono (by omega)), hB, ?_, ?_, ?_, ?_, ?_⟩
    · rw [hB.cell (p := ⟨w.heap.size, 0, none⟩) (by show w.heap.size < _; omega)]; exact d0
    · rw [hB.cell (p := ⟨w.heap.size, 1, none⟩) (by show w.heap.size < _; omega)]; exact d1
    · rw [hb.cell (p := ⟨w1.heap.size, 0, none⟩) (by simp), World.cell?_alloc_new]; rfl
    · rw [hb.cell (p := ⟨w1.heap.size, 1, none⟩) (by simp), World.cell?_alloc_new]; rfl
    · rw [hb.cell (p := ⟨w1.heap.size, 2, none⟩) (by simp), World.cell?_alloc_new]; rfl
  have hne1 : w.heap.size < w1.heap.size := by omega
  clear hrd hsc
  go_upto_region 3 with (fail)
  go_region_held3 (fun w' => w'.cell? ⟨w.heap.size, 0, none⟩ = some (.int .i64 1) ∧ w'.cell? ⟨w.heap.size, 1, none⟩ = some (.int .i64 1) ∧ w'.cell? ⟨w1.heap.size, 0, none⟩ = some (.slice Ae T.es.length ne) ∧ w'.cell? ⟨w1.heap.size, 1, none⟩ = some (.slice Ak T.ks.length nk) ∧ w'.cell? ⟨w1.heap.size, 2, none⟩ = some (.slice Ac C.length nc))
    (first | go_keep | exact (HB.out _ hb4.out).2.2 | exact (HB.out _ hb3.out).2.2 | exact (HB.out _ hb2.out).2.2)
    (first | (go_at_call 72; go_loud ((refine (shasE_any T aB _ _ _ (HT.out _ (((Below.refl _ w1).alloc (Nat.le_refl _) _).drew)) hkn).mono ?_); rw [HV.out]; rintro e w2 ⟨rfl, hb⟩; have hb2 := hid (((Below.refl (w1.heap.size + 1) (w1.alloc (.cells #[.slice Ae T.es.length ne, .slice Ak T.ks.length nk, .slice Ac C.length nc] 31))).drew).trans (hb.mono (by simp))); have hs2 := hb2.out.size; simp only [World.size_alloc] at hs2))
           | (go_at_call 120; go_loud ((refine (r10put_any [aB] ⟨1, 1, ByteArray.empty, 0⟩ [] _ _ _ ⟨⟨by decide, by decide⟩, ⟨by decide, by decide⟩, ⟨by decide, by decide⟩, by simp [Big]⟩ (SlP.oneB (E := StE) (x := aB) (cs := [.string aB]) ⟨rfl, HAZ.out⟩ rfl _ rfl (by simp)) SlP.nil (by simp) (fun _ h => by cases h) (fun s hs => by simp at hs; subst hs; decide)).mono ?_); rw [HPC.out]; rintro e w3 ⟨ve3, vk3, vc3, rfl, hrd3, hsc3, hb⟩; obtain ⟨A5, n5, A6, n6, hv5, hv6⟩ := rda_shape hrd3; subst hv5; subst hv6; obtain ⟨A7, n7, hv7⟩ := hsc3.shape; subst hv7; have hrd4 := hid (rda_rd hrd3 (fun b hb => hb.2) (Below.refl _ _)); have hsc4 := hid (hsc3.slp (fun b hb => hb.2) (Below.refl _ _)); clear hrd3 hsc3; have hb3 := hid ((hb2.out.alloc hs2 _).trans (hb.mono (by rw [World.size_alloc]; omega)))))
           | (go_at_call 31; go_loud ((refine (r09same_any T _ C C' _ _ _ _ _ _ w3 (HT.out _ (HB.out _ hb3.out).2.1) hrd4.out (HCt.out _ (HB.out _ hb3.out).2.1) hsc4.out).mono ?_); rw [HSM.out]; rintro e w4 ⟨rfl, hb⟩; have hb4 := hid (hb3.out.trans (hb.mono (by have := hb3.out.size; simpa using this))))))
  go_wp2_with fail
  go_ret
  exact ⟨rfl, (HB.out _ hb4.out).1⟩
end Go.Proofs.YtmphgnjodangcaaGreat

namespace Go.Proofs.YtmphgnjodangcaaGreat
open Go.RowKit
set_option maxRecDepth 100000

theorem small11_any (t : Tr) (w : World) (ve vk : Value) (h : t.rd w w.heap.size ve vk) :
    Calls Tryz.prog 63 #[.agg #[ve, vk]] w fun e w' => e = .returned (.bool (smlB t 60)) ∧ Below w.heap.size w w' := by
  have HC : Hid (∀ w', Below w.heap.size w w' → t.rd w' w'.heap.size ve vk) := fun w' hb => rd_below hb hb.size _ _ _ h
  obtain ⟨A3, n3, A4, n4, rfl, rfl⟩ := rd_shape h
  have hb0 := (Below.refl w.heap.size w).alloc (Nat.le_refl _) (.cells #[.slice A3 t.es.length n3, .slice A4 t.ks.length n4] 27)
  clear h
  go_enter Tryz.func63, Tryz.ntmps63
  go_wp2_with fail
  refine (r08small_any t _ _ _ 60 (HC.out _ hb0) (by omega) (by omega)).mono ?_
  rintro e w1 ⟨rfl, hb1⟩
  rw [show decide (0 ≤ t.room 60 8) = smlB t 60 from rfl]
  go_wp2_with fail
  go_ret
  exact ⟨rfl, hb0.trans (hb1.mono (by simp))⟩

theorem may_any (t : Tr) (s : ByteArray) (d : Dt) (ve vk : Value) (w : World) (h : t.rd w w.heap.size ve vk) (hN : t.sz ≤ 90000) :
    Calls Tryz.prog 64 #[.agg #[ve, vk], .string s, .agg #[.int .i64 d.dc, .int .i64 d.n]] w fun e w' => e = .returned (.bool (sckB t s d)) ∧ Below w.heap.size w w' := by
  have HC : Hid (∀ w', Below w.heap.size w w' → t.rd w' w'.heap.size ve vk) := fun w' hb => rd_below hb hb.size _ _ _ h
  obtain ⟨A3, n3, A4, n4, rfl, rfl⟩ := rd_shape h
  have hb0 := ((Below.refl w.heap.size w).alloc (Nat.le_refl _) (.cells #[.slice A3 t.es.length n3, .slice A4 t.ks.length n4] 27)).alloc (by simp) (.cells #[.int .i64 d.dc, .int .i64 d.n] 54)
  clear h
  go_enter Tryz.func64, Tryz.ntmps64
  go_wp2_with fail
  refine (r10check_any t d _ _ _ (HC.out _ hb0) hN).mono ?_
  rintro e w1 ⟨rfl, hb1⟩
  have hB1 : Below w.heap.size w w1 := hb0.trans (hb1.mono (by simp; omega))
  have hs1 := hB1.size
  cases hc : chkT t d
  · have HR : Hid (sckB t s d = false) := by unfold Hid sckB; rw [hc]; rfl
    clear hc
    go_wp2_with fail
    go_ret
    exact ⟨ret_bool HR.out.symm, hB1⟩
  · have HR : Hid (sckB t s d = keyB s) := by unfold Hid sckB; rw [hc]; rfl
    clear hc
    go_wp2_with fail
    refine (r08key_any s w1).mono ?_
    rintro e w2 ⟨rfl, hb2⟩
    go_wp2_with fail
    go_ret
    exact ⟨ret_bool HR.out.symm, hB1.trans (hb2.mono hs1)⟩

end Go.Proofs.YtmphgnjodangcaaGreat
