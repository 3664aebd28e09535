/- What the laws need, part 5: span.Minus at two sets. No condition but that there are not too many. flag.seen, flag.Disable, flag.On. No condition but that there are not too many entries. context.Minus, context.Right, context.Leq. No condition but that there are not too many. causal.Right. No condition but that there is not too much. Small facts on contexts of dots. No condition. tributaryref06.Right, tributaryref07.Right, Leq, tributaryref09.Right, Small. No condition but that there is not too much. causal.join. Condition: both right (trees in order, contexts apart), and not too big. causal.Join. Condition: not too big. Plain law: trees and contexts joined, by leaves and dots. No condition. Plain law: joining is idempotent, commutative and associative, and has a least one. No condition. Plain law: what is known of a tree, joined to a change of it. No condition. A box that holds what is known: what a walk leaves behind a call whose result is laid into a box. No condition. flag.Enable. No condition but that there are not too many entries. tributarylaw10.awake answers true. No condition. tributarylaw10.small. No condition. The law FlagTurns answers true. No condition. The data that a law is given, read as the plain types: dots, entries, trees. No condition. The frame of a law: its answer is true, and its arguments read as before. No condition. -/
import Derived.Deep.Slices
import Derived.ProofKit
import Derived.SizedLaws
import Derived.Test.YtkjijbogbelilaaGreatProg
import Derived.Test.YtkjijbogbelilaaGreatRows
import Derived.Test.YtkjijbogbelilaaGreatTa4
namespace Go.Proofs.YtkjijbogbelilaaGreat
open Go.RowKit
set_option maxRecDepth 100000

theorem minusL_le (a b : List (Int × Int)) (k : Nat) : (minusL (a.take k) b).length ≤ (minusL a b).length := by
  have h : minusL a b = minusL (a.take k) b ++ minusL (a.drop k) b := by unfold minusL; rw [← List.flatMap_append, List.take_append_drop]
  rw [h]; simp

set_option maxHeartbeats 4000000 in
theorem sminus_any (a b : List (Int × Int)) (va vb : Value) (w : World) (ha : SlP w w.heap.size 2 RuE va a) (hb : SlP w w.heap.size 2 RuE vb b) (hra : runsR none a = true) (hrb : runsR none b = true) (hN : (minusL a b).length ≤ 900000) :
    Calls Tryz.prog 169 #[va, vb] w (RetO w 170 2 (fun _ => RuE) (minusL a b)) := by
  have HA := hid ha
  have HB := hid hb
  have HRA := hid hra
  have HRB := hid hrb
  obtain ⟨A1, c1, rfl, a1, a2, a3⟩ := ha
  obtain ⟨A2, c2, rfl, b1, b2, b3⟩ := hb
  unfold Big at a2 b2
  clear hra hrb
  go_enter Tryz.func169, Tryz.ntmps169
  go_wp2_with fail
  refine (sboth_any a b _ _ w HA.out HB.out).mono ?_
  rw [HRA.out, HRB.out]
  rintro e w1 ⟨rfl, hb1⟩
  have hs1 := hb1.size
  go_wp2_with fail
  go_loopw [5, 16] (fun v i wr => ∃ k : Nat, k ≤ a.length ∧ i = .int .i64 k ∧ OwnP wr w1.heap.size 170 2 RuE v (minusL (a.take k) b) ∧ Below w1.heap.size w1 wr) (fun _ i _ => a.length - (intOf i).toNat)
  case atStart => exact ⟨0, Nat.zero_le _, rfl, OwnP.nil, Below.refl _ _⟩
  case round =>
    obtain ⟨k, hk, rfl, hown, hbr⟩ := hrel
    have hsz := hbr.size
    have hB0 : Below w.heap.size w wr := hb1.trans (hbr.mono hs1)
    by_cases hlt : k < a.length
    · obtain ⟨r, hr⟩ : ∃ x, a[k]? = some x := ⟨_, List.getElem?_eq_getElem hlt⟩
      obtain ⟨bb, off, rfl, hbB, hc⟩ := a3 (by rintro rfl; simp at hlt)
      obtain ⟨cs, ⟨rfl, hok⟩, _, hu⟩ := hc k _ hr
      have e0 : wr.cell? ⟨bb, off + k * 2, none⟩ = some (.int .i64 r.1) := (hB0.cell hbB).trans (hu 0 _ rfl)
      have e1 : wr.cell? ⟨bb, off + k * 2 + 1, none⟩ = some (.int .i64 r.2) := (hB0.cell hbB).trans (hu 1 _ rfl)
      have hrok := runs_ok' a none HRA.out r (List.mem_of_getElem? hr)
      unfold runOk at hrok
      have HX := hid (minusL_take (b := b) hr)
      have HLE : Hid ((minusL (a.take (k + 1)) b).length ≤ 900000) := Nat.le_trans (minusL_le a b _) hN
      clear hu hc a3 hr
      go_wp2_with fail
      obtain ⟨wo, rfl⟩ : ∃ wo : World, wo = wr := ⟨_, rfl⟩
      go_loopw [5, 22] (fun v i wq => ∃ (j : Nat) (os : List (Int × Int)) (lo : Int), j ≤ b.length ∧ i = .int .i64 j ∧ OwnP wq w1.heap.size 170 2 RuE v os ∧ Hid (os ++ cutL (b.drop j) lo r.2 = minusL (a.take (k + 1)) b) ∧ (∀ g, v.ownBlock = some g → g ≠ wo.heap.size) ∧
          wq.heap[wo.heap.size]? = some (.cells #[.int .i64 lo, .int .i64 r.2] 170 (0, 0)) ∧ 1 ≤ lo ∧ lo ≤ 1099511627777 ∧ wo.heap.size < wq.heap.size ∧ Below w1.heap.size w1 wq) (fun _ i _ => b.length - (intOf i).toNat)
      case atStart => exact ⟨0, _, r.1, Nat.zero_le _, rfl, hown.alloc _, by unfold Hid; rw [HX.out]; simp, fun g hg => Nat.ne_of_lt (hown.lt g hg).2, heap_new rfl, by omega, by omega, by simp, hbr.alloc (by omega) _⟩
      case round =>
        obtain ⟨j, os, lo, hj, rfl, hown, HOS, hne, hg7, hl1, hl2, hsq, hbq⟩ := hrel
        have hBq : Below w.heap.size w wr := hb1.trans (hbq.mono hs1)
        have d0 : wr.cell? ⟨wo.heap.size, 0, none⟩ = some (.int .i64 lo) := cell_cells (i := 0) hg7
        have d1 : wr.cell? ⟨wo.heap.size, 1, none⟩ = some (.int .i64 r.2) := cell_cells (i := 1) hg7
        have hf := cells_frz (i := 0) hg7
        have hnq : wo.heap.size ≠ wr.heap.size := by omega
        by_cases hlj : j < b.length
        · obtain ⟨x, hx⟩ : ∃ x, b[j]? = some x := ⟨_, List.getElem?_eq_getElem hlj⟩
          obtain ⟨bb', off', rfl, hbB', hc⟩ := b3 (by rintro rfl; simp at hlj)
          obtain ⟨cs, ⟨rfl, hok'⟩, _, hu⟩ := hc j _ hx
          have f0 : wr.cell? ⟨bb', off' + j * 2, none⟩ = some (.int .i64 x.1) := (hBq.cell hbB').trans (hu 0 _ rfl)
          have f1 : wr.cell? ⟨bb', off' + j * 2 + 1, none⟩ = some (.int .i64 x.2) := (hBq.cell hbB').trans (hu 1 _ rfl)
          have hxok := runs_ok' b none HRB.out x (List.mem_of_getElem? hx)
          unfold runOk at hxok
          have hcut := cutL_drop hx lo r.2
          clear hu hc b3 hx
          rcases t1 : decide (x.2 < lo)
          · rcases t2 : decide (r.2 < x.1)
            · have hno : ¬ (x.2 < lo ∨ r.2 < x.1) := by simp at t1 t2; omega
              rw [if_neg hno] at hcut
              rcases t3 : decide (lo < x.1)
              · have HO2 : Hid (os ++ cutL (b.drop (j + 1)) (x.2 + 1) r.2 = minusL (a.take (k + 1)) b) := by
                  have h := HOS.out
                  rw [hcut, if_neg (by simpa using t3)] at h; exact h
                clear hcut
                go_wp2_with fail
                have hW := cells_set (i := 0) hg7 (.int .i64 (x.2 + 1))
                have hZ : (wr.setCell ⟨wo.heap.size, 0, none⟩ (.int .i64 (x.2 + 1))).heap.size = wr.heap.size := by simp [World.setCell]
                go_roundw
                case rel => exact ⟨j + 1, os, x.2 + 1, by omega, by go_num, (hown.keep fun g hg => Below.heap_setCell _ _ _ _ (hne g hg)).alloc _, HO2, hne, (heap_old (by omega)).trans (by simpa using hW), by omega, by omega, by rw [World.size_alloc]; omega, (hbq.setCell (p := ⟨wo.heap.size, 0, none⟩) (by show w1.heap.size ≤ wo.heap.size; omega) _).alloc (by omega) _⟩
                case measure => simp [intOf]; omega
              · have HO2 : Hid ((os ++ [(lo, x.1 - 1)]) ++ cutL (b.drop (j + 1)) (x.2 + 1) r.2 = minusL (a.take (k + 1)) b) := by
                  have h := HOS.out
                  rw [hcut, if_pos (by simpa using t3)] at h; unfold Hid; rw [← h]; simp
                have hll : os.length + 1 ≤ 900000 := by have h := congrArg List.length HO2.out; have := HLE.out; simp at h; omega
                have HRE : Hid (RuE (lo, x.1 - 1) [.int .i64 lo, .int .i64 (x.1 - 1)]) := ⟨rfl, ⟨by show _ ≤ lo; omega, by show lo ≤ _; omega⟩, ⟨by show _ ≤ x.1 - 1; omega, by show x.1 - 1 ≤ _; omega⟩⟩
                clear hcut
                go_wp2_with (at_builtin; go_loud (refine wpList_app rfl (.tmp 43) (.tmp 50) _ rfl eiRun (by decide) (fun _ _ h => h.one) rfl ((hown.alloc _).alloc _) rfl (SlP.one (x := (lo, x.1 - 1)) HRE.out rfl _ (by rw [World.size_alloc])) (by simp; omega) (by simp [Big]; omega) (by rw [World.size_alloc, World.size_alloc]; omega) ?_); intro v1 w4 hown4 hgr hob; go_loud (have hb4 : Hid (Below w1.heap.size ((wr.alloc (.cells #[.int .i64 x.1, .int .i64 x.2] 170)).alloc (.cells #[.int .i64 lo, .int .i64 (x.1 - 1)] 170)) w4) := ((Below.refl w1.heap.size _).grown hgr (by rw [World.size_alloc, World.size_alloc]; omega) fun g hg => (hown.lt g hg).1); have hg4 : w4.heap[wo.heap.size]? = some (.cells #[.int .i64 lo, .int .i64 r.2] 170 (0, 0)) := (hgr.block _ (by rw [World.size_alloc, World.size_alloc]; omega) (fun e => hne _ e.symm rfl)).trans ((heap_old (by rw [World.size_alloc]; omega)).trans ((heap_old hsq).trans hg7)); have g0 : w4.cell? ⟨wo.heap.size, 0, none⟩ = some (.int .i64 lo) := cell_cells (i := 0) hg4; have gf := cells_frz (i := 0) hg4; have hg5 : w4.heap[wr.heap.size]? = some (.cells #[.int .i64 x.1, .int .i64 x.2] 170 (0, 0)) := (hgr.block _ (by rw [World.size_alloc, World.size_alloc]; omega) (fun e => by have := (hown.lt _ e.symm).2; omega)).trans ((heap_old (by rw [World.size_alloc]; omega)).trans (heap_new rfl)); have g1 : w4.cell? ⟨wr.heap.size, 1, none⟩ = some (.int .i64 x.2) := cell_cells (i := 1) hg5))
                have hs4 := hb4.out.size
                have hz4 := hgr.size
                rw [World.size_alloc, World.size_alloc] at hz4
                have hne4 : ∀ g, v1.ownBlock = some g → g ≠ wo.heap.size := fun g hg => by
                  rcases hob with h | h
                  · exact hne g (h ▸ hg)
                  · rw [h, World.size_alloc, World.size_alloc] at hg; cases hg; omega
                have hW := cells_set (i := 0) hg4 (.int .i64 (x.2 + 1))
                go_roundw
                case rel => exact ⟨j + 1, _, x.2 + 1, by omega, by go_num, hown4.keep fun g hg => Below.heap_setCell _ _ _ _ (hne4 g hg), HO2, hne4, by simpa using hW, by omega, by omega, by simp [World.setCell]; omega, (((hbq.alloc (by omega) _).alloc (by rw [World.size_alloc]; omega) _).trans hb4.out).setCell (p := ⟨wo.heap.size, 0, none⟩) (by show w1.heap.size ≤ wo.heap.size; omega) _⟩
                case measure => simp [intOf]; omega
            · have HO2 : Hid (os ++ cutL (b.drop (j + 1)) lo r.2 = minusL (a.take (k + 1)) b) := by
                have h := HOS.out
                rw [hcut, if_pos (.inr (by simpa using t2))] at h; exact h
              clear hcut
              go_wp2_with fail
              go_roundw
              case rel => exact ⟨j + 1, os, lo, by omega, by go_num, hown.alloc _, HO2, hne, (heap_old hsq).trans hg7, hl1, hl2, by simp; omega, hbq.alloc (by omega) _⟩
              case measure => simp [intOf]; omega
          · have HO2 : Hid (os ++ cutL (b.drop (j + 1)) lo r.2 = minusL (a.take (k + 1)) b) := by
              have h := HOS.out
              rw [hcut, if_pos (.inl (by simpa using t1))] at h; exact h
            clear hcut
            go_wp2_with fail
            go_roundw
            case rel => exact ⟨j + 1, os, lo, by omega, by go_num, hown.alloc _, HO2, hne, (heap_old hsq).trans hg7, hl1, hl2, by simp; omega, hbq.alloc (by omega) _⟩
            case measure => simp [intOf]; omega
        · obtain rfl : j = b.length := by omega
          have hend := HOS.out
          rw [List.drop_length, cutL] at hend
          rcases t4 : decide (lo ≤ r.2)
          · rw [if_neg (by simpa using t4), List.append_nil] at hend
            have HEN := hid hend
            clear hend
            go_wp2_with fail
            go_roundw
            case rel => exact ⟨k + 1, by omega, by go_num, by rw [← HEN.out]; exact hown, hbq⟩
            case measure => simp [intOf]; omega
          · rw [if_pos (by simpa using t4)] at hend
            have HEN := hid hend
            have hll : os.length + 1 ≤ 900000 := by have h := congrArg List.length hend; have := HLE.out; simp at h; omega
            have HL : Hid (os.length + [(lo, r.2)].length ≤ Few) := by unfold Hid Few; simp; omega
            have HRE : Hid (RuE (lo, r.2) [.int .i64 lo, .int .i64 r.2]) := ⟨rfl, ⟨by show _ ≤ lo; omega, by show lo ≤ _; omega⟩, ⟨by show _ ≤ r.2; omega, by show r.2 ≤ _; omega⟩⟩
            clear hend
            go_wp2_with (at_builtin; go_loud (refine wpList_few rfl (.tmp 62) (.tmp 64) _ rfl eiRun (by decide) (by decide) (fun _ _ h => h.one) rfl (hown.alloc _) rfl (SlP.one (x := (lo, r.2)) HRE.out rfl _ rfl) HL.out (by rw [World.size_alloc]; omega) ?_); intro v1 w4 hown4 hb4 _)
            go_roundw
            case rel => exact ⟨k + 1, by omega, by go_num, by rw [← HEN.out]; exact hown4, (hbq.alloc (by omega) _).trans hb4⟩
            case measure => simp [intOf]; omega
    · obtain rfl : k = a.length := by omega
      rw [List.take_of_length_le (Nat.le_refl _)] at hown
      go_wp2_with fail
      go_ret
      exact ⟨_, rfl, hown.mono hs1, hB0⟩
end Go.Proofs.YtkjijbogbelilaaGreat

namespace Go.Proofs.YtkjijbogbelilaaGreat
open Go.RowKit
set_option maxRecDepth 100000

theorem ctxOf_len (l : List Dt) : (ctxOf l).length ≤ 4 * (l.length + 1) := ctxOfK_len l 4
theorem ctxBy_len (a b : List Sp) (how : Int) : (ctxBy a b how).length ≤ 4 * (2 * a.length + 2 * b.length + 1) := ctxByK_len a b how 4
theorem right_one {d : Dt} (h : d.right = true) : ∀ x ∈ [d], x.right = true := fun x hx => by simp at hx; subst hx; exact h
/-- What a change of a flag has seen. -/
def seenC (t : Tr) (d : Dt) : List Sp := ctxBy (ctxOf t.dots) (ctxOf [d]) 0
theorem seenC_len (t : Tr) (d : Dt) : (seenC t d).length ≤ 4 * (8 * t.sz + 30) := by
  have h1 := ctxBy_len (ctxOf t.dots) (ctxOf [d]) 0
  have h2 := ctxOf_len t.dots
  have h3 := ctxOf_len [d]
  have h4 := dots_len t
  unfold seenC
  simp at h3
  omega

set_option maxHeartbeats 2000000 in
theorem seen_any (t : Tr) (d : Dt) (ve vk : Value) (w : World) (h : t.rd w w.heap.size ve vk) (hN : t.sz ≤ 4000) (hr : t.right 5 = true) (hd : d.right = true) (ho : d.Ok) :
    Calls Tryz.prog 105 #[.agg #[ve, vk], .agg #[.int .i64 d.dc, .int .i64 d.n]] w (RetO w 55 3 (fun _ => SpE) (seenC t d)) := by
  have HC : Hid (∀ w', Below w.heap.size w w' → t.rd w' w'.heap.size ve vk) := fun w' hb => rd_below hb hb.size _ _ _ h
  have hdl := dots_len t
  have h2 := ctxOf_len t.dots
  have h3 := ctxOf_len [d]
  simp only [List.length_singleton] at h3
  have HAA := hid (apart_ctxOf (right_dots t 5 hr))
  have HAB := hid (apart_ctxOf (right_one hd))
  have HDR := hid (right_one hd)
  obtain ⟨A3, n3, A4, n4, rfl, rfl⟩ := rd_shape h
  have hb0 := ((Below.refl w.heap.size w).alloc (Nat.le_refl _) (.cells #[.slice A3 t.es.length n3, .slice A4 t.ks.length n4] 25)).alloc (by simp) (.cells #[.int .i64 d.dc, .int .i64 d.n] 42)
  clear h
  go_enter Tryz.func105, Tryz.ntmps105
  go_wp2_with fail
  refine (tdots_any t _ _ _ (HC.out _ hb0) (by omega)).mono ?_
  rintro e w1 ⟨v1, n1, rfl, hn1, ho1, hb1⟩
  rw [hr] at ho1 hn1
  obtain rfl : n1 = 0 := hn1
  rw [if_pos rfl] at ho1
  have hs1 := hb1.size
  simp only [World.size_alloc] at hs1
  have hB1 : Below w.heap.size w w1 := hb0.trans (hb1.mono (by simp; omega))
  have c0 : w1.cell? ⟨w.heap.size + 1, 0, none⟩ = some (.int .i64 d.dc) := by rw [hb1.cell (p := ⟨w.heap.size + 1, 0, none⟩) (by simp)]; simp
  have c1 : w1.cell? ⟨w.heap.size + 1, 1, none⟩ = some (.int .i64 d.n) := by rw [hb1.cell (p := ⟨w.heap.size + 1, 1, none⟩) (by simp)]; simp
  have HO1 := hid ho1
  clear hr hd ho1
  go_wp2_with fail
  refine (cof_any [d] _ _ (SlP.oneB (E := DtE) (x := d) (cs := [.int .i64 d.dc, .int .i64 d.n]) ⟨rfl, ho⟩ rfl _ rfl (by simp)) HDR.out (by simp)).mono ?_
  rintro e w2 ⟨v2, rfl, ho2, hb2⟩
  have hs2 := hb2.size
  simp only [World.size_alloc] at hs2
  have hb2' : Below w1.heap.size w1 w2 := ((Below.refl _ w1).alloc (Nat.le_refl _) _).trans (hb2.mono (by simp))
  have hsl1 := (HO1.out.grow hb2').sl (by unfold Big; omega)
  have hsl2 := ho2.sl (by unfold Big; omega)
  have H1 := hid hsl1
  have H2 := hid hsl2
  clear hsl1 hsl2 ho2
  go_wp2_with fail
  refine (cunion_any (ctxOf t.dots) (ctxOf [d]) v1 v2 w2 H1.out H2.out HAA.out HAB.out (by omega) (by omega)).mono ?_
  rintro e w3 ⟨v3, rfl, ho3, hb3⟩
  go_wp2_with fail
  go_ret
  exact ⟨_, rfl, ho3.mono (by omega), (hB1.trans (hb2'.mono (by omega))).trans (hb3.mono (by omega))⟩

/-- flag.On's answer. -/
def onB (t : Tr) : Bool := t.right 5 && decide (0 < t.es.length)
theorem fon_any (t : Tr) (w : World) (ve vk : Value) (h : t.rd w w.heap.size ve vk) :
    Calls Tryz.prog 48 #[.agg #[ve, vk]] w fun e w' => e = .returned (.bool (onB t)) ∧ Below w.heap.size w w' := by
  have HC : Hid (∀ w', Below w.heap.size w w' → t.rd w' w'.heap.size ve vk) := fun w' hb => rd_below hb hb.size _ _ _ h
  have hfit := fit_rd _ _ _ h
  have hel : t.es.length ≤ 140737488355328 := by obtain ⟨es, ks⟩ := t; exact hfit.1
  obtain ⟨A3, n3, A4, n4, rfl, rfl⟩ := rd_shape h
  have hb0 := (Below.refl w.heap.size w).alloc (Nat.le_refl _) (.cells #[.slice A3 t.es.length n3, .slice A4 t.ks.length n4] 25)
  clear h hfit
  go_enter Tryz.func48, Tryz.ntmps48
  go_wp2_with fail
  refine (tRight_any t _ _ _ (HC.out _ hb0)).mono ?_
  rintro e w1 ⟨rfl, hb1⟩
  have hs1 := hb1.size
  simp only [World.size_alloc] at hs1
  have hB1 : Below w.heap.size w w1 := hb0.trans (hb1.mono (by simp))
  have c0 : w1.cell? ⟨w.heap.size, 0, none⟩ = some (.slice A3 t.es.length n3) := by rw [hb1.cell (p := ⟨w.heap.size, 0, none⟩) (by simp)]; simp
  cases hr : t.right 5
  · have HR : Hid (onB t = false) := by unfold Hid onB; rw [hr]; rfl
    clear hr
    go_wp2_with fail
    go_ret
    exact ⟨ret_bool HR.out.symm, hB1⟩
  · have HR : Hid (onB t = decide (0 < t.es.length)) := by unfold Hid onB; rw [hr]; rfl
    clear hr
    go_wp2_with fail
    go_ret
    exact ⟨ret_bool HR.out.symm, hB1⟩

/-- What flag.Disable knows. -/
def disC (t : Tr) (d : Dt) : List Sp := if chkT t d then seenC t d else []
set_option maxHeartbeats 4000000 in
theorem fdisable_any (t : Tr) (d : Dt) (ve vk : Value) (w : World) (h : t.rd w w.heap.size ve vk) (hN : t.sz ≤ 4000) (hd : d.Ok) :
    Calls Tryz.prog 46 #[.agg #[ve, vk], .agg #[.int .i64 d.dc, .int .i64 d.n]] w (RetCE w (.mk [] []) (disC t d) (chkI t d)) := by
  have HC : Hid (∀ w', Below w.heap.size w w' → t.rd w' w'.heap.size ve vk) := fun w' hb => rd_below hb hb.size _ _ _ h
  obtain ⟨A3, n3, A4, n4, rfl, rfl⟩ := rd_shape h
  have hb0 := (((Below.refl w.heap.size w).alloc (Nat.le_refl _) (.cells #[.slice A3 t.es.length n3, .slice A4 t.ks.length n4] 25)).alloc (by simp) (.cells #[.int .i64 d.dc, .int .i64 d.n] 42)).alloc (by simp; omega) (.cells #[.slice none 0 0, .slice none 0 0, .slice none 0 0] 29)
  clear h
  go_enter Tryz.func46, Tryz.ntmps46
  go_wp2_with fail
  refine (fcheck_any t d _ _ _ (HC.out _ hb0) (by omega)).mono ?_
  rintro e w1 ⟨rfl, hb1⟩
  have hs1 := hb1.size
  simp only [World.size_alloc] at hs1
  have hB1 : Below w.heap.size w w1 := hb0.trans (hb1.mono (by simp; omega))
  have c0 : w1.cell? ⟨w.heap.size, 0, none⟩ = some (.slice A3 t.es.length n3) := by
    rw [hb1.cell (p := ⟨w.heap.size, 0, none⟩) (by simp; omega)]
    rw [World.cell?_alloc_lt _ _ _ (by simp; omega), World.cell?_alloc_lt _ _ _ (by simp)]; simp
  have c1 : w1.cell? ⟨w.heap.size, 1, none⟩ = some (.slice A4 t.ks.length n4) := by
    rw [hb1.cell (p := ⟨w.heap.size, 1, none⟩) (by simp; omega)]
    rw [World.cell?_alloc_lt _ _ _ (by simp; omega), World.cell?_alloc_lt _ _ _ (by simp)]; simp
  have d0 : w1.cell? ⟨w.heap.size + 1, 0, none⟩ = some (.int .i64 d.dc) := by rw [hb1.cell (p := ⟨w.heap.size + 1, 0, none⟩) (by simp), World.cell?_alloc_lt _ _ _ (by simp)]; simp
  have d1 : w1.cell? ⟨w.heap.size + 1, 1, none⟩ = some (.int .i64 d.n) := by rw [hb1.cell (p := ⟨w.heap.size + 1, 1, none⟩) (by simp), World.cell?_alloc_lt _ _ _ (by simp)]; simp
  have hg : w1.heap[w.heap.size + 2]? = some (.cells #[.slice none 0 0, .slice none 0 0, .slice none 0 0] 29 (0, 0)) := (hb1.block (w.heap.size + 2) (by simp)).trans (heap_new (by simp))
  have HG := hid hg
  have k0 : w1.cell? ⟨w.heap.size + 2, 0, none⟩ = some (.slice none 0 0) := cell_cells (i := 0) hg
  have k1 : w1.cell? ⟨w.heap.size + 2, 1, none⟩ = some (.slice none 0 0) := cell_cells (i := 1) hg
  have k2 : w1.cell? ⟨w.heap.size + 2, 2, none⟩ = some (.slice none 0 0) := cell_cells (i := 2) hg
  have z0 := cells_frz (i := 0) hg
  have z1 := cells_frz (i := 1) hg
  have z2 := cells_frz (i := 2) hg
  clear hg hb1
  cases hc : chkT t d
  · have HE : Hid (chkI t d = 1) := by unfold Hid chkI; rw [hc]; rfl
    have HD : Hid (disC t d = []) := by unfold Hid disC; rw [hc]; rfl
    rw [HE.out]
    clear hc
    go_wp2_with fail
    obtain ⟨r0, r1, r2, hK, hS⟩ := box3 HG.out (.slice none 0 0) (.slice none 0 0) (.slice none 0 0)
    have hBW := ((hB1.setCell (p := ⟨w.heap.size + 2, 0, none⟩) (by simp) (.slice none 0 0)).setCell (p := ⟨w.heap.size + 2, 1, none⟩) (by simp) (.slice none 0 0)).setCell (p := ⟨w.heap.size + 2, 2, none⟩) (by simp) (.slice none 0 0)
    refine bodyPost_ret (v := .tuple #[.agg #[.slice none 0 0, .slice none 0 0, .slice none 0 0], .int .i64 1]) (by simp [results, Tryz.results46, go_sem, r0, r1, r2]) rfl ⟨_, _, _, by rw [HE.out], ?_, ?_, hBW⟩
    · exact rda_nil _ _
    · rw [HD.out]; exact SlA.nil
  · have HE : Hid (chkI t d = 0) := by unfold Hid chkI; rw [hc]; rfl
    have HD : Hid (disC t d = seenC t d) := by unfold Hid disC; rw [hc]; rfl
    have HDR := hid (chkT_right hc)
    have HTR := hid (chkT_tree hc)
    rw [HE.out]
    clear hc
    go_wp2_with fail
    refine (seen_any t d _ _ w1 (HC.out _ hB1) hN HTR.out HDR.out hd).mono ?_
    rintro e w2 ⟨v2, rfl, ho2, hb2⟩
    obtain ⟨A2, c2, rfl⟩ := ho2.shape
    have hs2 := hb2.size
    have hB2 : Below w.heap.size w w2 := hB1.trans (hb2.mono (by omega))
    have HG2 := hid ((hb2.block (w.heap.size + 2) (by omega)).trans HG.out)
    clear k0 k1 k2 z0 z1 z2 c0 c1 d0 d1
    have k0 : w2.cell? ⟨w.heap.size + 2, 0, none⟩ = some (.slice none 0 0) := cell_cells (i := 0) HG2.out
    have k1 : w2.cell? ⟨w.heap.size + 2, 1, none⟩ = some (.slice none 0 0) := cell_cells (i := 1) HG2.out
    have k2 : w2.cell? ⟨w.heap.size + 2, 2, none⟩ = some (.slice none 0 0) := cell_cells (i := 2) HG2.out
    have z0 := cells_frz (i := 0) HG2.out
    have z1 := cells_frz (i := 1) HG2.out
    have z2 := cells_frz (i := 2) HG2.out
    have HO2 := hid ho2
    have hsc := seenC_len t d
    clear ho2
    go_wp2_with fail
    obtain ⟨r0, r1, r2, hK, hS⟩ := box3 HG2.out (.slice none 0 0) (.slice none 0 0) (.slice A2 (seenC t d).length c2)
    have hBW := ((hB2.setCell (p := ⟨w.heap.size + 2, 0, none⟩) (by simp) (.slice none 0 0)).setCell (p := ⟨w.heap.size + 2, 1, none⟩) (by simp) (.slice none 0 0)).setCell (p := ⟨w.heap.size + 2, 2, none⟩) (by simp) (.slice A2 (seenC t d).length c2)
    refine bodyPost_ret (v := .tuple #[.agg #[.slice none 0 0, .slice none 0 0, .slice A2 (seenC t d).length c2], .int .i64 0]) (by simp [results, Tryz.results46, go_sem, r0, r1, r2]) rfl ⟨_, _, _, by rw [HE.out], rda_nil _ _, ?_, hBW⟩
    rw [HD.out]
    refine (HO2.out.sla (by unfold Big; omega)).up (fun b hb => hK b (by have := hb.1; omega)) (fun b hb => ⟨by have := hb.1; omega, by rw [hS]; exact hb.2.1⟩) (fun _ _ _ h => h)
end Go.Proofs.YtkjijbogbelilaaGreat

namespace Go.Proofs.YtkjijbogbelilaaGreat
open Go.RowKit
set_option maxRecDepth 100000

theorem minus_rule : RuleRun 169 2 :=
  ⟨enters_of Tryz.func169 (by kernel_rfl) rfl, fun a b va vb W ha hb hra hrb hN hN' => minus_by hra hrb ▸ sminus_any a b va vb W ha hb hra hrb (by rw [minus_by hra hrb]; have := byL_len a b 2; omega)⟩
theorem cminus_any (a b : List Sp) (va vb : Value) (w : World) (ha : SlP w w.heap.size 3 SpE va a) (hb : SlP w w.heap.size 3 SpE vb b) (hra : apartB a = true) (hrb : apartB b = true) (hN : a.length ≤ 20000) (hN' : b.length ≤ 20000) :
    Calls Tryz.prog 137 #[va, vb] w (RetO w 55 3 (fun _ => SpE) (ctxBy a b 2)) := by
  go_enter Tryz.func137, Tryz.ntmps137
  go_wp2_with fail
  refine (cby_any a b 2 _ minus_rule va vb w ha hb hra hrb hN hN').mono ?_
  rintro e w1 ⟨v, rfl, h⟩
  go_wp2_with fail
  go_ret
  exact ⟨v, rfl, h⟩

theorem cright_any (c : List Sp) (vc : Value) (w : World) (h : SlP w w.heap.size 3 SpE vc c) (hN : c.length ≤ 900000) :
    Calls Tryz.prog 134 #[vc] w fun e w' => e = .returned (.bool (apartB c)) ∧ Below w.heap.size w w' := by
  have HC := hid h
  obtain ⟨A, n, rfl, _⟩ := h
  go_enter Tryz.func134, Tryz.ntmps134
  go_wp2_with fail
  refine (apart_any c _ _ HC.out hN).mono ?_
  rintro e w1 ⟨vs, rfl, hsl, hb1⟩
  have hs1 := hb1.size
  obtain ⟨A0, m0, g0, _⟩ := hsl 0 (by omega)
  obtain ⟨A1, m1, g1, _⟩ := hsl 1 (by omega)
  obtain ⟨A2, m2, g2, _⟩ := hsl 2 (by omega)
  obtain ⟨A3, m3, g3, _⟩ := hsl 3 (by omega)
  simp only [g0, g1, g2, g3]
  clear hsl g0 g1 g2 g3
  go_wp2_with fail
  all_goals (go_ret; exact ⟨rfl, hb1.alloc hs1 _⟩)

/-- What context.Leq tells. -/
def cLeq (a b : List Sp) : Bool := apartB a && (apartB b && decide ((ctxBy a b 2).length = 0))
set_option maxHeartbeats 2000000 in
theorem cleq_any (a b : List Sp) (va vb : Value) (w : World) (ha : SlP w w.heap.size 3 SpE va a) (hb : SlP w w.heap.size 3 SpE vb b) (hN : a.length ≤ 20000) (hN' : b.length ≤ 20000) :
    Calls Tryz.prog 96 #[va, vb] w fun e w' => e = .returned (.bool (cLeq a b)) ∧ Below w.heap.size w w' := by
  have HA := hid ha
  have HB := hid hb
  obtain ⟨A1, c1, rfl, _⟩ := ha
  obtain ⟨A2, c2, rfl, _⟩ := hb
  go_enter Tryz.func96, Tryz.ntmps96
  go_wp2_with fail
  refine (cright_any a _ w HA.out (by omega)).mono ?_
  rintro e w1 ⟨rfl, hb1⟩
  have hs1 := hb1.size
  cases ra : apartB a
  · have HR : Hid (cLeq a b = false) := by unfold Hid cLeq; rw [ra]; rfl
    clear ra
    go_wp2_with fail
    go_ret
    exact ⟨ret_bool HR.out.symm, hb1⟩
  have RA := hid ra
  go_wp2_with fail
  refine (cright_any b _ w1 (HB.out.imp hb1 hs1 fun _ _ _ h => h) (by omega)).mono ?_
  rintro e w2 ⟨rfl, hb2⟩
  have hs2 := hb2.size
  have hB2 : Below w.heap.size w w2 := hb1.trans (hb2.mono hs1)
  cases rb : apartB b
  · have HR : Hid (cLeq a b = false) := by unfold Hid cLeq; rw [ra, rb]; rfl
    clear ra rb
    go_wp2_with fail
    go_ret
    exact ⟨ret_bool HR.out.symm, hB2⟩
  have RB := hid rb
  have HR : Hid (cLeq a b = decide ((ctxBy a b 2).length = 0)) := by unfold Hid cLeq; rw [ra, rb]; rfl
  clear ra rb
  go_wp2_with fail
  refine (cminus_any a b _ _ w2 (HA.out.imp hB2 (by omega) fun _ _ _ h => h) (HB.out.imp hB2 (by omega) fun _ _ _ h => h) RA.out RB.out hN hN').mono ?_
  rintro e w3 ⟨v3, rfl, ho3, hb3⟩
  obtain ⟨A5, c5, rfl⟩ := ho3.shape
  have hl := ctxBy_len a b 2
  clear ho3
  generalize ctxBy a b 2 = C at *
  rcases hz : decide (C.length = 0)
  · have hz2 : C.length ≠ 0 := by simpa using hz
    have HZ := hid hz
    clear hz
    go_wp2_with fail
    go_ret
    exact ⟨ret_bool (by rw [HR.out, HZ.out]; simpa using hz2), hB2.trans (hb3.mono (by omega))⟩
  · have hz2 : C.length = 0 := by simpa using hz
    have HZ := hid hz
    clear hz
    go_wp2_with fail
    go_ret
    exact ⟨ret_bool (by rw [HR.out, HZ.out]), hB2.trans (hb3.mono (by omega))⟩
end Go.Proofs.YtkjijbogbelilaaGreat

namespace Go.Proofs.YtkjijbogbelilaaGreat
open Go.RowKit
set_option maxRecDepth 100000

/-- What causal.Right tells. -/
def caR (t : Tr) (c : List Sp) : Bool := t.right 5 && cLeq (ctxOf t.dots) c
set_option maxHeartbeats 2000000 in
theorem caright_any (t : Tr) (c : List Sp) (ve vk vc : Value) (w : World) (h : t.rd w w.heap.size ve vk) (hc : SlP w w.heap.size 3 SpE vc c) (hN : t.sz ≤ 4000) (hN' : c.length ≤ 20000) :
    Calls Tryz.prog 36 #[.agg #[ve, vk, vc]] w fun e w' => e = .returned (.bool (caR t c)) ∧ Below w.heap.size w w' := by
  have HC : Hid (∀ w', Below w.heap.size w w' → t.rd w' w'.heap.size ve vk) := fun w' hb => rd_below hb hb.size _ _ _ h
  have HS : Hid (∀ w', Below w.heap.size w w' → SlP w' w'.heap.size 3 SpE vc c) := fun w' hb => hc.imp hb hb.size fun _ _ _ h => h
  have hd1 := ctxOf_len t.dots
  have hd2 := dots_len t
  obtain ⟨A3, n3, A4, n4, rfl, rfl⟩ := rd_shape h
  obtain ⟨A5, n5, rfl, _⟩ := hc
  clear h
  have hb0 : Below w.heap.size w (w.alloc (.cells #[.slice A3 t.es.length n3, .slice A4 t.ks.length n4, .slice A5 c.length n5] 29)) := (Below.refl _ w).alloc (Nat.le_refl _) _
  go_enter Tryz.func36, Tryz.ntmps36
  go_wp2_with fail
  refine (tdots_any t _ _ _ (HC.out _ hb0) (by omega)).mono ?_
  rintro e w1 ⟨v1, n1, rfl, hn1, ho1, hb1⟩
  have hs1 := hb1.size
  simp only [World.size_alloc] at hs1
  have hB1 : Below w.heap.size w w1 := hb0.trans (hb1.mono (by simp))
  have b2 : w1.cell? ⟨w.heap.size, 2, none⟩ = some (.slice A5 c.length n5) := by rw [hb1.cell (p := ⟨w.heap.size, 2, none⟩) (by simp)]; simp
  cases hr : t.right 5
  · rw [hr] at hn1 ho1
    simp only [Bool.false_eq_true, if_false] at hn1 ho1
    subst hn1
    have HR : Hid (caR t c = false) := by unfold Hid caR; rw [hr]; rfl
    obtain ⟨A6, n6, rfl⟩ := ho1.shape
    clear hr ho1
    go_wp2_with fail
    go_ret
    exact ⟨ret_bool HR.out.symm, hB1⟩
  · rw [hr] at hn1 ho1
    simp only [if_true] at hn1 ho1
    subst hn1
    have HR : Hid (caR t c = cLeq (ctxOf t.dots) c) := by unfold Hid caR; rw [hr]; rfl
    have HSL := hid (ho1.sl (by unfold Big; omega))
    obtain ⟨A6, n6, rfl⟩ := ho1.shape
    clear hr ho1
    go_wp2_with fail
    refine (cleq_any (ctxOf t.dots) c _ _ w1 HSL.out (HS.out _ hB1) (by omega) hN').mono ?_
    rintro e w2 ⟨rfl, hb2⟩
    go_wp2_with fail
    go_ret
    exact ⟨ret_bool HR.out.symm, hB1.trans (hb2.mono (by omega))⟩
end Go.Proofs.YtkjijbogbelilaaGreat

namespace Go.Proofs.YtkjijbogbelilaaGreat
open Go.RowKit
set_option maxRecDepth 100000

theorem spsOk_ctxOf {l : List Dt} (h : ∀ d ∈ l, d.right = true) : SpsOk (ctxOf l) := fun s hs => by
  have ha := apart_ctxOf h
  have hd := wholeK_dc (fun i => ofL (numsL l i)) 4 s hs
  unfold ctxOf ctxOfK at hs
  obtain ⟨i, _, hs⟩ := List.mem_flatMap.1 hs
  obtain ⟨r, hr, rfl⟩ := List.mem_map.1 hs
  have := runs_ok _ none (ofL_right (nums_ok h i)).1 r hr
  unfold runOk at this
  exact ⟨by show 0 ≤ r.1; omega, by show r.1 ≤ _; omega, by show 0 ≤ r.2; omega, by show r.2 ≤ _; omega⟩
theorem seen_eq {t : Tr} {d : Dt} (h : d.right = true) : seenC t d = ctxBy (ctxOf t.dots) [⟨d.dc, d.n, d.n⟩] 0 := by
  unfold seenC; rw [ctxOf_one h]
end Go.Proofs.YtkjijbogbelilaaGreat

namespace Go.Proofs.YtkjijbogbelilaaGreat
open Go.RowKit
set_option maxRecDepth 100000

set_option maxHeartbeats 4000000 in
theorem r06right_any (l : List (Int × Int)) (v : Value) (w : World) (h : SlP w w.heap.size 2 RuE v l) :
    Calls Tryz.prog 165 #[v] w fun e w' => e = .returned (.bool (runsR none l)) ∧ Below w.heap.size w w' := by
  obtain ⟨A, n, rfl, b1, b2, b3⟩ := h
  unfold Big at b2
  go_enter Tryz.func165, Tryz.ntmps165
  go_wp2_with fail
  go_loopw [6] (fun i wr => ∃ k : Nat, k ≤ l.length ∧ i = .int .i64 k ∧ Hid (runsR (prevR l k) (l.drop k) = runsR none l) ∧ Hid (∀ h, prevR l k = some h → 1 ≤ h ∧ h ≤ 1099511627776) ∧ Below w.heap.size w wr) (fun i _ => l.length - (intOf i).toNat)
  case atStart => exact ⟨0, Nat.zero_le _, rfl, rfl, fun _ h => by simp [prevR] at h, Below.refl _ _⟩
  case round =>
    obtain ⟨k, hk, rfl, hrel, hpr, hb⟩ := hrel
    have hsz := hb.size
    by_cases hlt : k < l.length
    · obtain ⟨r, hx⟩ : ∃ x, l[k]? = some x := ⟨_, List.getElem?_eq_getElem hlt⟩
      obtain ⟨b, off, rfl, hbB, hc⟩ := b3 (by rintro rfl; simp at hlt)
      obtain ⟨cs, ⟨rfl, hok⟩, _, hu⟩ := hc k _ hx
      have hi1 := hok.1
      unfold I64 at hi1
      have e0 : wr.cell? ⟨b, off + k * 2, none⟩ = some (.int .i64 r.1) := (hb.cell hbB).trans (hu 0 _ rfl)
      have e1 : wr.cell? ⟨b, off + k * 2 + 1, none⟩ = some (.int .i64 r.2) := (hb.cell hbB).trans (hu 1 _ rfl)
      have HR : Hid (runsR none l = (numB r.1 && numB r.2 && decide (r.1 ≤ r.2) && okR (prevR l k) r.1 && runsR (prevR l (k + 1)) (l.drop (k + 1)))) := by
        have := hrel.out
        rw [drop_cons hx, runsR_cons] at this
        rw [prevR_succ hx]; exact this.symm
      have HPS := hid (prevR_succ hx)
      have f0 := far_cell (B := wr.heap.size) (w := wr) (b := b) (o := off + k * 2) (v := .int .i64 r.1) e0 (by omega)
      have f1 := far_cell (B := wr.heap.size) (w := wr) (b := b) (o := off + k * 2 + 1) (v := .int .i64 r.2) e1 (by omega)
      have hprev : ∃ q : Int, (0 < k → prevR l k = some q ∧ (∀ p : Far wr.heap.size wr, p.w'.cell? ⟨b, off + (k - 1) * 2 + 1, none⟩ = some (.int .i64 q))) := by
        by_cases h0 : 0 < k
        · obtain ⟨y, hy⟩ : ∃ y, l[k - 1]? = some y := ⟨_, List.getElem?_eq_getElem (by omega)⟩
          obtain ⟨cs, ⟨rfl, _⟩, _, hu⟩ := hc (k - 1) _ hy
          refine ⟨y.2, fun _ => ⟨by rw [prevR, if_neg (by omega), hy]; rfl, fun p => far_cell ?_ (by omega) p⟩⟩
          exact (hb.cell hbB).trans (hu 1 _ rfl)
        · exact ⟨0, fun h => absurd h h0⟩
      obtain ⟨q, hprev⟩ := hprev
      go_upto_region 4 with (fail)
      clear hrel hu hc b3 hx e0 e1 hok
      rcases t1 : decide (r.1 < 1)
      case true =>
        have h1 : Hid (numB r.1 = false) := by have := of_decide_eq_true t1; unfold Hid; simp [numB]; omega
        refine wp_region_far wr.heap.size (by kernel_rfl) (by kernel_rfl) ?_
        repeat (go_big_quiet_step (fail))
        refine wpQuiet_nil ?_
        intro wq hbq
        have hbw : Below w.heap.size w wq := hb.trans (hbq.mono (by omega))
        go_wp2_with fail
        go_ret
        refine ⟨ret_bool ?_, hbw⟩
        rw [HR.out]
        rw [h1.out]; simp
      rcases t2 : decide (1099511627776 < r.2)
      case true =>
        have h2 : Hid (numB r.2 = false) := by have := of_decide_eq_true t2; unfold Hid; simp [numB]; omega
        refine wp_region_far wr.heap.size (by kernel_rfl) (by kernel_rfl) ?_
        repeat (go_big_quiet_step (fail))
        refine wpQuiet_nil ?_
        intro wq hbq
        have hbw : Below w.heap.size w wq := hb.trans (hbq.mono (by omega))
        go_wp2_with fail
        go_ret
        refine ⟨ret_bool ?_, hbw⟩
        rw [HR.out]
        rw [h2.out]; simp
      rcases t3 : decide (r.2 < r.1)
      case true =>
        have h3 : Hid (decide (r.1 ≤ r.2) = false) := by have := of_decide_eq_true t3; unfold Hid; simp; omega
        refine wp_region_far wr.heap.size (by kernel_rfl) (by kernel_rfl) ?_
        repeat (go_big_quiet_step (fail))
        refine wpQuiet_nil ?_
        intro wq hbq
        have hbw : Below w.heap.size w wq := hb.trans (hbq.mono (by omega))
        go_wp2_with fail
        go_ret
        refine ⟨ret_bool ?_, hbw⟩
        rw [HR.out]
        rw [h3.out]; simp
      have g1 := of_decide_eq_false t1
      have g2 := of_decide_eq_false t2
      have g3 := of_decide_eq_false t3
      have h3 : Hid (decide (r.1 ≤ r.2) = true) := by unfold Hid; simp; omega
      have h1 : numB r.1 = true := by simp [numB]; omega
      have h2 : numB r.2 = true := by simp [numB]; omega
      have HN : Hid (∀ h, prevR l (k + 1) = some h → 1 ≤ h ∧ h ≤ 1099511627776) := fun h hh => by rw [HPS.out] at hh; cases hh; omega
      rcases Nat.eq_zero_or_pos k with h0 | h0
      · have t0 : decide ((0 : Int) < (k : Int)) = false := by simp; omega
        have t0' : decide (0 < k) = false := by simp; omega
        have hpk : Hid (okR (prevR l k) r.1 = true) := by rw [show prevR l k = none by (rw [h0]; rfl)]; rfl
        clear h0 hprev
        refine wp_region_far wr.heap.size (by kernel_rfl) (by kernel_rfl) ?_
        repeat (go_big_quiet_step (fail))
        refine wpQuiet_nil ?_
        intro wq hbq
        have hbw : Below w.heap.size w wq := hb.trans (hbq.mono (by omega))
        go_wp2_with fail
        go_roundw
        case rel =>
          refine ⟨k + 1, by omega, by go_num, ?_, HN.out, hbw⟩
          show _ = _
          rw [HR.out, h1, h2]
          rw [h3.out, hpk.out]; simp
        case measure => simp [intOf]; omega
      · obtain ⟨hq, q0⟩ := hprev h0
        have hqb := hpr.out q hq
        have hwq : IntKind.i64.wrap (r.1 - q) = r.1 - q := IntWalk.i64_in _ (by omega)
        have hwk : IntKind.i64.wrap ((k : Int) - 1) = (k : Int) - 1 := IntWalk.i64_in _ (by omega)
        rcases t5 : decide (r.1 - q < 2)
        · have hpk : Hid (okR (prevR l k) r.1 = true) := by rw [hq]; have := of_decide_eq_false t5; unfold Hid; simp [okR]; omega
          clear hprev hq hqb
          refine wp_region_far wr.heap.size (by kernel_rfl) (by kernel_rfl) ?_
          repeat (go_big_quiet_step (fail))
          refine wpQuiet_nil ?_
          intro wq hbq
          have hbw : Below w.heap.size w wq := hb.trans (hbq.mono (by omega))
          go_wp2_with fail
          go_roundw
          case rel =>
            refine ⟨k + 1, by omega, by go_num, ?_, HN.out, hbw⟩
            show _ = _
            rw [HR.out, h1, h2]
            rw [h3.out, hpk.out]; simp
          case measure => simp [intOf]; omega
        · have hpk : Hid (okR (prevR l k) r.1 = false) := by rw [hq]; have := of_decide_eq_true t5; unfold Hid; simp [okR]; omega
          clear hprev hq hqb
          refine wp_region_far wr.heap.size (by kernel_rfl) (by kernel_rfl) ?_
          repeat (go_big_quiet_step (fail))
          refine wpQuiet_nil ?_
          intro wq hbq
          have hbw : Below w.heap.size w wq := hb.trans (hbq.mono (by omega))
          go_wp2_with fail
          go_ret
          refine ⟨ret_bool ?_, hbw⟩
          rw [HR.out]
          rw [h1, h2, h3.out, hpk.out]; simp
    · obtain rfl : k = l.length := by omega
      have hr := hrel.out
      go_wp2_with fail
      go_ret
      exact ⟨ret_bool (by rw [← hr]; simp [runsR]), hb⟩

set_option maxHeartbeats 4000000 in
theorem r07right_any (c : List Sp) (vc : Value) (w : World) (h : SlP w w.heap.size 3 SpE vc c) (hN : c.length ≤ 900000) :
    Calls Tryz.prog 128 #[vc] w fun e w' => e = .returned (.bool (apartB c)) ∧ Below w.heap.size w w' := by
  have HS := hid h
  obtain ⟨A, n, rfl, b1, b2, b3⟩ := h
  unfold Big at b2
  go_enter Tryz.func128, Tryz.ntmps128
  go_wp2_with fail
  go_loopw [7] (fun i wr => ∃ (k : Nat) (L : Int), k ≤ c.length ∧ i = .int .i64 k ∧ Hid (dcsOk L (c.drop k) = dcsOk 0 c) ∧ Hid (∀ y, 0 < k → c[k - 1]? = some y → y.dc = L) ∧ Hid (k = 0 → L = 0) ∧ 0 ≤ L ∧ Below w.heap.size w wr) (fun i _ => c.length - (intOf i).toNat)
  case atStart => exact ⟨0, 0, Nat.zero_le _, rfl, rfl, fun _ h => absurd h (Nat.not_lt_zero _), fun _ => rfl, Int.le_refl _, Below.refl _ _⟩
  case round =>
    obtain ⟨k, L, hk, rfl, hrel, hpr, hz0, hL, hb⟩ := hrel
    have hsz := hb.size
    by_cases hlt : k < c.length
    · obtain ⟨x, hx⟩ : ∃ x, c[k]? = some x := ⟨_, List.getElem?_eq_getElem hlt⟩
      obtain ⟨b, off, rfl, hbB, hc⟩ := b3 (by rintro rfl; simp at hlt)
      obtain ⟨cs, ⟨rfl, hok⟩, _, hu⟩ := hc k _ hx
      have e0 : wr.cell? ⟨b, off + k * 3, none⟩ = some (.int .i64 x.dc) := (hb.cell hbB).trans (hu 0 _ rfl)
      have HR : Hid (dcsOk 0 c = (decide (L ≤ x.dc) && decide (x.dc < 4) && dcsOk x.dc (c.drop (k + 1)))) := by
        have := hrel.out
        rw [drop_cons hx, dcsOk] at this
        exact this.symm
      have HQ : Hid (∀ y, 0 < k + 1 → c[k + 1 - 1]? = some y → y.dc = x.dc) := fun y _ hy => by
        rw [Nat.add_sub_cancel, hx] at hy; cases hy; rfl
      have f0 := far_cell (B := wr.heap.size) (w := wr) (b := b) (o := off + k * 3) (v := .int .i64 x.dc) e0 (by omega)
      have hprev : 0 < k → (∀ p : Far wr.heap.size wr, p.w'.cell? ⟨b, off + (k - 1) * 3, none⟩ = some (.int .i64 L)) := fun h0 => by
        obtain ⟨y, hy⟩ : ∃ y, c[k - 1]? = some y := ⟨_, List.getElem?_eq_getElem (by omega)⟩
        obtain ⟨cs, ⟨rfl, _⟩, _, hu⟩ := hc (k - 1) _ hy
        intro p
        refine far_cell ?_ (by omega) p
        rw [← hpr.out y h0 hy]
        exact (hb.cell hbB).trans (hu 0 _ rfl)
      go_upto_region 4 with (fail)
      clear hrel hu hc b3 hx e0 hok hpr
      rcases t1 : decide (x.dc < 0)
      case true =>
        have HF : Hid (apartB c = false) := by
          have := of_decide_eq_true t1
          unfold Hid apartB; rw [HR.out, decide_eq_false (show ¬ L ≤ x.dc by omega)]; rfl
        refine wp_region_far wr.heap.size (by kernel_rfl) (by kernel_rfl) ?_
        repeat (go_big_quiet_step (fail))
        refine wpQuiet_nil ?_
        intro wq hbq
        have hbw : Below w.heap.size w wq := hb.trans (hbq.mono (by omega))
        go_wp2_with fail
        go_ret
        exact ⟨ret_bool HF.out.symm, hbw⟩
      rcases t2 : decide (4 ≤ x.dc)
      case true =>
        have HF : Hid (apartB c = false) := by
          have := of_decide_eq_true t2
          unfold Hid apartB; rw [HR.out, decide_eq_false (show ¬ x.dc < 4 by omega)]; simp
        refine wp_region_far wr.heap.size (by kernel_rfl) (by kernel_rfl) ?_
        repeat (go_big_quiet_step (fail))
        refine wpQuiet_nil ?_
        intro wq hbq
        have hbw : Below w.heap.size w wq := hb.trans (hbq.mono (by omega))
        go_wp2_with fail
        go_ret
        exact ⟨ret_bool HF.out.symm, hbw⟩
      have g1 : 0 ≤ x.dc := by have := of_decide_eq_false t1; omega
      have g2 := of_decide_eq_false t2
      rcases Nat.eq_zero_or_pos k with h0 | h0
      · have t0 : decide ((0 : Int) < (k : Int)) = false := by simp; omega
        have t0' : decide (0 < k) = false := by simp; omega
        have HG : Hid (dcsOk x.dc (c.drop (k + 1)) = dcsOk 0 c) := by
          unfold Hid; rw [HR.out, decide_eq_true (show L ≤ x.dc by have := hz0.out h0; omega), decide_eq_true (show x.dc < 4 by omega)]; rfl
        clear h0 hprev
        refine wp_region_far wr.heap.size (by kernel_rfl) (by kernel_rfl) ?_
        repeat (go_big_quiet_step (fail))
        refine wpQuiet_nil ?_
        intro wq hbq
        have hbw : Below w.heap.size w wq := hb.trans (hbq.mono (by omega))
        go_wp2_with fail
        go_roundw
        case rel => exact ⟨k + 1, x.dc, by omega, by go_num, HG.out, HQ.out, fun h => absurd h (Nat.succ_ne_zero k), g1, hbw⟩
        case measure => simp [intOf]; omega
      · have q0 := hprev h0
        have hwk : IntKind.i64.wrap ((k : Int) - 1) = (k : Int) - 1 := IntWalk.i64_in _ (by omega)
        clear hprev
        rcases t5 : decide (x.dc < L)
        · have HG : Hid (dcsOk x.dc (c.drop (k + 1)) = dcsOk 0 c) := by
            have := of_decide_eq_false t5
            unfold Hid; rw [HR.out, decide_eq_true (show L ≤ x.dc by omega), decide_eq_true (show x.dc < 4 by omega)]; rfl
          refine wp_region_far wr.heap.size (by kernel_rfl) (by kernel_rfl) ?_
          repeat (go_big_quiet_step (fail))
          refine wpQuiet_nil ?_
          intro wq hbq
          have hbw : Below w.heap.size w wq := hb.trans (hbq.mono (by omega))
          go_wp2_with fail
          go_roundw
          case rel => exact ⟨k + 1, x.dc, by omega, by go_num, HG.out, HQ.out, fun h => absurd h (Nat.succ_ne_zero k), g1, hbw⟩
          case measure => simp [intOf]; omega
        · have HF : Hid (apartB c = false) := by
            have := of_decide_eq_true t5
            unfold Hid apartB; rw [HR.out, decide_eq_false (show ¬ L ≤ x.dc by omega)]; rfl
          refine wp_region_far wr.heap.size (by kernel_rfl) (by kernel_rfl) ?_
          repeat (go_big_quiet_step (fail))
          refine wpQuiet_nil ?_
          intro wq hbq
          have hbw : Below w.heap.size w wq := hb.trans (hbq.mono (by omega))
          go_wp2_with fail
          go_ret
          exact ⟨ret_bool HF.out.symm, hbw⟩
    · obtain rfl : k = c.length := by omega
      have HD : Hid (dcsOk 0 c = true) := by
        have := hrel.out
        rw [List.drop_of_length_le (Nat.le_refl _), dcsOk] at this
        exact this.symm
      clear hrel hpr hz0 b3
      go_wp2_with fail
      obtain ⟨wo, rfl⟩ : ∃ wo : World, wo = wr := ⟨_, rfl⟩
      go_loopw [43] (fun i wr => ∃ k : Nat, k ≤ 4 ∧ i = .int .i64 k ∧ Hid (((List.range k).all fun (dc : Nat) => runsR none (partL c dc)) = true) ∧ Below w.heap.size w wr) (fun i _ => 4 - (intOf i).toNat)
      case atStart => exact ⟨0, Nat.zero_le _, rfl, rfl, hb⟩
      case round =>
        clear hb hsz
        obtain ⟨k, hk, rfl, hrel, hb⟩ := hrel
        have hsz := hb.size
        by_cases hlt : k < 4
        · have HA : Hid (((List.range (k + 1)).all fun (dc : Nat) => runsR none (partL c dc)) = runsR none (partL c k)) := by
            unfold Hid; rw [List.range_succ, List.all_append, hrel.out]; simp
          have hpl := partL_len c k
          go_wp2_with fail
          refine (r07part_any c k _ wr (HS.out.imp hb hsz fun _ _ _ h => h) (by omega)).mono ?_
          rintro e w1 ⟨v1, rfl, ho1, hb1⟩
          have hs1 := hb1.size
          have HO1 := hid (ho1.sl (by unfold Big; omega))
          clear ho1
          go_wp2_with fail
          refine (r06right_any (partL c k) _ w1 HO1.out).mono ?_
          rintro e w2 ⟨rfl, hb2⟩
          have hB2 : Below w.heap.size w w2 := (hb.trans (hb1.mono hsz)).trans (hb2.mono (by omega))
          clear hb1 hb2
          rcases hq : runsR none (partL c k)
          · have HF : Hid (apartB c = false) := by
              unfold Hid apartB
              rw [HD.out, Bool.true_and]
              refine List.all_eq_false.2 ⟨k, List.mem_range.2 hlt, ?_⟩
              rw [hq]; simp
            go_wp2_with fail
            go_ret
            exact ⟨ret_bool HF.out.symm, hB2⟩
          · have HA2 : Hid (((List.range (k + 1)).all fun (dc : Nat) => runsR none (partL c dc)) = true) := by unfold Hid; rw [HA.out, hq]
            go_wp2_with fail
            go_roundw
            case rel => exact ⟨k + 1, by omega, by go_num, HA2.out, hB2⟩
            case measure => simp [intOf]; omega
        · obtain rfl : k = 4 := by omega
          have HT : Hid (apartB c = true) := by unfold Hid apartB; rw [HD.out, hrel.out]; rfl
          go_wp2_with fail
          go_ret
          exact ⟨ret_bool HT.out.symm, hb⟩

/-- What tributaryref07.Leq tells. -/
def rLeq (a b : List Sp) : Bool := decide ((ctxBy a b 2).length = 0)
theorem r07leq_any (a b : List Sp) (va vb : Value) (w : World) (ha : SlP w w.heap.size 3 SpE va a) (hb : SlP w w.heap.size 3 SpE vb b) (hN : a.length ≤ 50000) (hN' : b.length ≤ 50000) (hR : SpsOk a) (hR' : SpsOk b) :
    Calls Tryz.prog 129 #[va, vb] w fun e w' => e = .returned (.bool (rLeq a b)) ∧ Below w.heap.size w w' := by
  go_enter Tryz.func129, Tryz.ntmps129
  go_wp2_with fail
  refine (r07by_any a b 2 _ _ w ha hb hN hN' hR hR' (by simp)).mono ?_
  rintro e w3 ⟨v3, rfl, ho3, hb3⟩
  obtain ⟨A5, c5, rfl⟩ := ho3.shape
  have HR0 : Hid (rLeq a b = decide ((ctxBy a b 2).length = 0)) := rfl
  have hl := ctxBy_len a b 2
  clear ho3
  generalize ctxBy a b 2 = C at *
  rcases hz : decide (C.length = 0)
  · have hz2 : C.length ≠ 0 := by simpa using hz
    have HZ := hid hz
    clear hz
    go_wp2_with fail
    go_ret
    exact ⟨ret_bool (by rw [HR0.out, HZ.out]; simpa using hz2), hb3⟩
  · have hz2 : C.length = 0 := by simpa using hz
    have HZ := hid hz
    clear hz
    go_wp2_with fail
    go_ret
    exact ⟨ret_bool (by rw [HR0.out, HZ.out]), hb3⟩
theorem spsOk_apart {c : List Sp} (h : apartB c = true) : SpsOk c := fun s hs => by
  have hd := apart_dcs c 0 (by unfold apartB at h; simp at h; exact h.1) s hs
  obtain ⟨i, hi⟩ : ∃ i : Nat, (i : Int) = s.dc := ⟨s.dc.toNat, by omega⟩
  have hr := apart_part h (i := i) (by omega)
  have hm : (s.fr, s.hi) ∈ partL c (i : Int) := by
    unfold partL
    exact List.mem_map.2 ⟨s, List.mem_filter.2 ⟨hs, by simp [hi]⟩, rfl⟩
  have := runs_ok _ none hr _ hm
  unfold runOk at this
  exact ⟨by show 0 ≤ s.fr; simp at this; omega, by show s.fr ≤ _; simp at this; omega, by show 0 ≤ s.hi; simp at this; omega, by show s.hi ≤ _; simp at this; omega⟩
/-- What tributaryref09.Right tells. -/
def r9R (t : Tr) (c : List Sp) : Bool := t.right 5 && (apartB c && rLeq (ctxOf t.dots) c)
theorem caR_r9 (t : Tr) (c : List Sp) : caR t c = r9R t c := by
  unfold caR r9R cLeq rLeq
  cases h : t.right 5
  · rfl
  · rw [apart_ctxOf (right_dots t 5 h)]; rfl
set_option maxHeartbeats 4000000 in
theorem r09right_any (t : Tr) (c : List Sp) (ve vk vc : Value) (w : World) (h : t.rd w w.heap.size ve vk) (hc : SlP w w.heap.size 3 SpE vc c) (hN : t.sz ≤ 4000) (hN' : c.length ≤ 20000) :
    Calls Tryz.prog 85 #[.agg #[ve, vk, vc]] w fun e w' => e = .returned (.bool (r9R t c)) ∧ Below w.heap.size w w' := by
  have HC : Hid (∀ w', Below w.heap.size w w' → t.rd w' w'.heap.size ve vk) := fun w' hb => rd_below hb hb.size _ _ _ h
  have HS : Hid (∀ w', Below w.heap.size w w' → SlP w' w'.heap.size 3 SpE vc c) := fun w' hb => hc.imp hb hb.size fun _ _ _ h => h
  have hd1 := ctxOf_len t.dots
  have hd2 := dots_len t
  have hcl : (ctxOf t.dots).length ≤ 50000 := by omega
  have HBL : Hid ((ctxOf t.dots).length ≤ Big) := by unfold Hid Big; omega
  obtain ⟨A3, n3, A4, n4, rfl, rfl⟩ := rd_shape h
  obtain ⟨A5, n5, rfl, _⟩ := hc
  clear h
  have hb0 : Below w.heap.size w (w.alloc (.cells #[.slice A3 t.es.length n3, .slice A4 t.ks.length n4, .slice A5 c.length n5] 29)) := (Below.refl _ w).alloc (Nat.le_refl _) _
  have HB : Hid (∀ w', Below (w.heap.size + 1) (w.alloc (.cells #[.slice A3 t.es.length n3, .slice A4 t.ks.length n4, .slice A5 c.length n5] 29)) w' → Below w.heap.size w w' ∧ t.rd w' w'.heap.size (.slice A3 t.es.length n3) (.slice A4 t.ks.length n4) ∧ SlP w' w'.heap.size 3 SpE (.slice A5 c.length n5) c ∧ (w'.cell? ⟨w.heap.size, 0, none⟩ = some (.slice A3 t.es.length n3) ∧ w'.cell? ⟨w.heap.size, 1, none⟩ = some (.slice A4 t.ks.length n4) ∧ w'.cell? ⟨w.heap.size, 2, none⟩ = some (.slice A5 c.length n5))) := fun w' hb => by
    have hB := hb0.trans (hb.mono (by omega))
    refine ⟨hB, HC.out _ hB, HS.out _ hB, ?_, ?_, ?_⟩
    · rw [hb.cell (p := ⟨w.heap.size, 0, none⟩) (by simp), World.cell?_alloc_new]; rfl
    · rw [hb.cell (p := ⟨w.heap.size, 1, none⟩) (by simp), World.cell?_alloc_new]; rfl
    · rw [hb.cell (p := ⟨w.heap.size, 2, none⟩) (by simp), World.cell?_alloc_new]; rfl
  go_enter Tryz.func85, Tryz.ntmps85
  cases r1 : t.right 5
  · have HR1 := hid r1
    have HF : Hid (r9R t c = false) := by unfold Hid r9R; rw [r1]; rfl
    clear r1
    have f0 := far_cell (B := w.heap.size + 1) (w := w.alloc (.cells #[.slice A3 t.es.length n3, .slice A4 t.ks.length n4, .slice A5 c.length n5] 29)) (b := w.heap.size) (o := 0) (v := .slice A3 t.es.length n3) (by simp) (by omega)
    have f1 := far_cell (B := w.heap.size + 1) (w := w.alloc (.cells #[.slice A3 t.es.length n3, .slice A4 t.ks.length n4, .slice A5 c.length n5] 29)) (b := w.heap.size) (o := 1) (v := .slice A4 t.ks.length n4) (by simp) (by omega)
    have f2 := far_cell (B := w.heap.size + 1) (w := w.alloc (.cells #[.slice A3 t.es.length n3, .slice A4 t.ks.length n4, .slice A5 c.length n5] 29)) (b := w.heap.size) (o := 2) (v := .slice A5 c.length n5) (by simp) (by omega)
    go_upto_region 1 with (fail)
    refine wp_region_far (w.heap.size + 1) (by kernel_rfl) (by kernel_rfl) ?_
    repeat (go_big_quiet_step (first | (go_at_call 55; exact Calls.far_all (by simp) (fun w' hb' => HR1.out ▸ r08Right_any t w' _ _ (HB.out w' hb').2.1)) | (go_at_call 128; exact Calls.far_all (by simp) (fun w' hb' => HR2.out ▸ r07right_any c _ w' (HB.out w' hb').2.2.1 (by omega)))))
    refine wpQuiet_nil ?_
    intro wq hbq
    go_wp2_with fail
    go_ret
    exact ⟨ret_bool HF.out.symm, (HB.out _ hbq).1⟩
  have HR1 := hid r1
  cases r2 : apartB c
  · have HR2 := hid r2
    have HF : Hid (r9R t c = false) := by unfold Hid r9R; rw [r1, r2]; rfl
    clear r1 r2
    have f0 := far_cell (B := w.heap.size + 1) (w := w.alloc (.cells #[.slice A3 t.es.length n3, .slice A4 t.ks.length n4, .slice A5 c.length n5] 29)) (b := w.heap.size) (o := 0) (v := .slice A3 t.es.length n3) (by simp) (by omega)
    have f1 := far_cell (B := w.heap.size + 1) (w := w.alloc (.cells #[.slice A3 t.es.length n3, .slice A4 t.ks.length n4, .slice A5 c.length n5] 29)) (b := w.heap.size) (o := 1) (v := .slice A4 t.ks.length n4) (by simp) (by omega)
    have f2 := far_cell (B := w.heap.size + 1) (w := w.alloc (.cells #[.slice A3 t.es.length n3, .slice A4 t.ks.length n4, .slice A5 c.length n5] 29)) (b := w.heap.size) (o := 2) (v := .slice A5 c.length n5) (by simp) (by omega)
    go_upto_region 1 with (fail)
    refine wp_region_far (w.heap.size + 1) (by kernel_rfl) (by kernel_rfl) ?_
    repeat (go_big_quiet_step (first | (go_at_call 55; exact Calls.far_all (by simp) (fun w' hb' => HR1.out ▸ r08Right_any t w' _ _ (HB.out w' hb').2.1)) | (go_at_call 128; exact Calls.far_all (by simp) (fun w' hb' => HR2.out ▸ r07right_any c _ w' (HB.out w' hb').2.2.1 (by omega)))))
    refine wpQuiet_nil ?_
    intro wq hbq
    go_wp2_with fail
    go_ret
    exact ⟨ret_bool HF.out.symm, (HB.out _ hbq).1⟩
  have HR2 := hid r2
  have HF : Hid (r9R t c = rLeq (ctxOf t.dots) c) := by unfold Hid r9R; rw [r1, r2]; rfl
  have HRN : Hid (∀ d ∈ t.dots, 0 ≤ d.n ∧ d.n ≤ 1099511627778) := right_nums r1
  have HS1 := hid (spsOk_ctxOf (right_dots t 5 r1))
  have HS2 := hid (spsOk_apart r2)
  clear r1 r2 hd1 hd2
  have hr3 : rLeq (ctxOf t.dots) c = rLeq (ctxOf t.dots) c := rfl
  cases r3 : rLeq (ctxOf t.dots) c
  · have HR3 := hid r3
    clear r3
    go_upto_region 1 with (fail)
    go_region_held3 (fun w' => w'.cell? ⟨w.heap.size, 0, none⟩ = some (.slice A3 t.es.length n3) ∧ w'.cell? ⟨w.heap.size, 1, none⟩ = some (.slice A4 t.ks.length n4) ∧ w'.cell? ⟨w.heap.size, 2, none⟩ = some (.slice A5 c.length n5))
      (first | go_keep | exact (HB.out _ hb4.out).2.2.2 | exact (HB.out _ hb3.out).2.2.2 | exact (HB.out _ hb2.out).2.2.2 | exact (HB.out _ hb1.out).2.2.2)
      (first | (go_at_call 55; go_loud ((refine (r08Right_any t _ _ _ (HB.out _ (by go_grown)).2.1).mono ?_); rw [HR1.out]; rintro e w1 ⟨rfl, hb⟩; have hb1 : Hid (Below (w.heap.size + 1) (w.alloc (.cells #[.slice A3 t.es.length n3, .slice A4 t.ks.length n4, .slice A5 c.length n5] 29)) w1) := (Below.trans (by go_grown) (hb.mono (by simp)))))
             | (go_at_call 128; go_loud ((refine (r07right_any c _ w1 (HB.out _ hb1.out).2.2.1 (by omega)).mono ?_); rw [HR2.out]; rintro e w2 ⟨rfl, hb⟩; have hb2 := hid (hb1.out.trans (hb.mono (by have := hb1.out.size; simpa using this)))))
             | (go_at_call 103; go_loud ((refine (r08dots_any t w2 _ _ (HB.out _ hb2.out).2.1 (by omega) HRN.out).mono ?_); rintro e w3 ⟨v3, rfl, ho3, hb⟩; have hb3 := hid (hb2.out.trans (hb.mono (by have := hb2.out.size; simpa using this))); have hsl3 := hid (ho3.sl HBL.out); obtain ⟨A9, c9, hv9⟩ := ho3.shape; subst hv9; clear ho3))
             | (go_at_call 129; go_loud ((refine (r07leq_any (ctxOf t.dots) c _ _ w3 hsl3.out (HB.out _ hb3.out).2.2.1 hcl (by omega) HS1.out HS2.out).mono ?_); rw [HR3.out]; rintro e w4 ⟨rfl, hb⟩; have hb4 := hid (hb3.out.trans (hb.mono (by have := hb3.out.size; simpa using this))))))
    go_wp2_with fail
    go_ret
    exact ⟨ret_bool (by rw [HF.out, HR3.out]), (HB.out _ hb4.out).1⟩
  · have HR3 := hid r3
    clear r3
    go_upto_region 1 with (fail)
    go_region_held3 (fun w' => w'.cell? ⟨w.heap.size, 0, none⟩ = some (.slice A3 t.es.length n3) ∧ w'.cell? ⟨w.heap.size, 1, none⟩ = some (.slice A4 t.ks.length n4) ∧ w'.cell? ⟨w.heap.size, 2, none⟩ = some (.slice A5 c.length n5))
      (first | go_keep | exact (HB.out _ hb4.out).2.2.2 | exact (HB.out _ hb3.out).2.2.2 | exact (HB.out _ hb2.out).2.2.2 | exact (HB.out _ hb1.out).2.2.2)
      (first | (go_at_call 55; go_loud ((refine (r08Right_any t _ _ _ (HB.out _ (by go_grown)).2.1).mono ?_); rw [HR1.out]; rintro e w1 ⟨rfl, hb⟩; have hb1 : Hid (Below (w.heap.size + 1) (w.alloc (.cells #[.slice A3 t.es.length n3, .slice A4 t.ks.length n4, .slice A5 c.length n5] 29)) w1) := (Below.trans (by go_grown) (hb.mono (by simp)))))
             | (go_at_call 128; go_loud ((refine (r07right_any c _ w1 (HB.out _ hb1.out).2.2.1 (by omega)).mono ?_); rw [HR2.out]; rintro e w2 ⟨rfl, hb⟩; have hb2 := hid (hb1.out.trans (hb.mono (by have := hb1.out.size; simpa using this)))))
             | (go_at_call 103; go_loud ((refine (r08dots_any t w2 _ _ (HB.out _ hb2.out).2.1 (by omega) HRN.out).mono ?_); rintro e w3 ⟨v3, rfl, ho3, hb⟩; have hb3 := hid (hb2.out.trans (hb.mono (by have := hb2.out.size; simpa using this))); have hsl3 := hid (ho3.sl HBL.out); obtain ⟨A9, c9, hv9⟩ := ho3.shape; subst hv9; clear ho3))
             | (go_at_call 129; go_loud ((refine (r07leq_any (ctxOf t.dots) c _ _ w3 hsl3.out (HB.out _ hb3.out).2.2.1 hcl (by omega) HS1.out HS2.out).mono ?_); rw [HR3.out]; rintro e w4 ⟨rfl, hb⟩; have hb4 := hid (hb3.out.trans (hb.mono (by have := hb3.out.size; simpa using this))))))
    go_wp2_with fail
    go_ret
    exact ⟨ret_bool (by rw [HF.out, HR3.out]), (HB.out _ hb4.out).1⟩

/-- What tributaryref09.Small tells. -/
def sml9 (t : Tr) (c : List Sp) (n : Int) : Bool := smlB t n && decide ((c.length : Int) ≤ n)
theorem r09small_any (t : Tr) (c : List Sp) (n : Int) (ve vk vc : Value) (w : World) (h : t.rd w w.heap.size ve vk) (hc : SlP w w.heap.size 3 SpE vc c) (hn : 0 ≤ n) (hn' : n ≤ 1000) :
    Calls Tryz.prog 76 #[.agg #[ve, vk, vc], .int .i64 n] w fun e w' => e = .returned (.bool (sml9 t c n)) ∧ Below w.heap.size w w' := by
  have HC : Hid (∀ w', Below w.heap.size w w' → t.rd w' w'.heap.size ve vk) := fun w' hb => rd_below hb hb.size _ _ _ h
  obtain ⟨A3, n3, A4, n4, rfl, rfl⟩ := rd_shape h
  obtain ⟨A5, n5, rfl, _, hcl, _⟩ := hc
  unfold Big at hcl
  clear h
  have hb0 : Below w.heap.size w (w.alloc (.cells #[.slice A3 t.es.length n3, .slice A4 t.ks.length n4, .slice A5 c.length n5] 29)) := (Below.refl _ w).alloc (Nat.le_refl _) _
  go_enter Tryz.func76, Tryz.ntmps76
  go_wp2_with fail
  refine (r08small_any t _ _ _ n (HC.out _ hb0) hn hn').mono ?_
  rintro e w1 ⟨rfl, hb1⟩
  rw [show decide (0 ≤ t.room n 8) = smlB t n from rfl]
  have hB1 : Below w.heap.size w w1 := hb0.trans (hb1.mono (by simp))
  have c2 : w1.cell? ⟨w.heap.size, 2, none⟩ = some (.slice A5 c.length n5) := by rw [hb1.cell (p := ⟨w.heap.size, 2, none⟩) (by simp), World.cell?_alloc_new]; rfl
  cases hs : smlB t n
  · have HF : Hid (sml9 t c n = false) := by unfold Hid sml9; rw [hs]; rfl
    clear hs
    go_wp2_with fail
    go_ret
    exact ⟨ret_bool HF.out.symm, hB1⟩
  · have HF : Hid (sml9 t c n = decide ((c.length : Int) ≤ n)) := by unfold Hid sml9; rw [hs]; rfl
    clear hs
    go_wp2_with fail
    go_ret
    exact ⟨ret_bool HF.out.symm, hB1⟩
end Go.Proofs.YtkjijbogbelilaaGreat

namespace Go.Proofs.YtkjijbogbelilaaGreat
open Go.RowKit
set_option maxRecDepth 100000

set_option maxHeartbeats 4000000 in
theorem cjoin_any (ca cb : List Sp) (n : Nat) (a b : Tr) (va ka vb kb vca vcb : Value) (w : World) (ha : a.rd w w.heap.size va ka) (hb : b.rd w w.heap.size vb kb) (hca : SlP w w.heap.size 3 SpE vca ca) (hcb : SlP w w.heap.size 3 SpE vcb cb) (hoa : a.Ord) (hob : b.Ord) (hda : a.dep ≤ n) (hdb : b.dep ≤ n) (hza : a.sz ≤ 100000) (hzb : b.sz ≤ 100000) (hra : apartB ca = true) (hrb : apartB cb = true) (hN1 : ca.length ≤ 20000) (hN2 : cb.length ≤ 20000) :
    Calls Tryz.prog 84 #[.agg #[va, ka, vca], .agg #[vb, kb, vcb]] w (RetC w (joinT n ca cb a b) (ctxBy ca cb 0)) := by
  have HA := hid ha
  have HB := hid hb
  have HCA : Hid (∀ w', Below w.heap.size w w' → SlP w' w'.heap.size 3 SpE vca ca) := fun w' hb => hca.imp hb hb.size fun _ _ _ h => h
  have HCB : Hid (∀ w', Below w.heap.size w w' → SlP w' w'.heap.size 3 SpE vcb cb) := fun w' hb => hcb.imp hb hb.size fun _ _ _ h => h
  have HR1 := hid hra
  have HR2 := hid hrb
  have hul := ctxByK_len ca cb 0 4
  have HUL : Hid ((ctxBy ca cb 0).length ≤ Big) := by unfold Hid ctxBy Big; omega
  obtain ⟨A1, n1, A2, n2, rfl, rfl⟩ := rd_shape ha
  obtain ⟨A3, n3, A4, n4, rfl, rfl⟩ := rd_shape hb
  obtain ⟨A5, n5, rfl, _⟩ := hca
  obtain ⟨A6, n6, rfl, _⟩ := hcb
  have HX : Hid (∀ W, Below (w.heap.size + 3) (((w.alloc (.cells #[.slice A1 a.es.length n1, .slice A2 a.ks.length n2, .slice A5 ca.length n5] 29)).alloc (.cells #[.slice A3 b.es.length n3, .slice A4 b.ks.length n4, .slice A6 cb.length n6] 29)).alloc (.cells #[.slice none 0 0, .slice none 0 0, .slice none 0 0] 29)) W → Below w.heap.size w W ∧ W.heap[w.heap.size + 2]? = some (.cells #[.slice none 0 0, .slice none 0 0, .slice none 0 0] 29 (0, 0)) ∧ w.heap.size + 3 ≤ W.heap.size ∧ (W.cell? ⟨w.heap.size, 0, none⟩ = some (.slice A1 a.es.length n1) ∧ W.cell? ⟨w.heap.size, 1, none⟩ = some (.slice A2 a.ks.length n2) ∧ W.cell? ⟨w.heap.size, 2, none⟩ = some (.slice A5 ca.length n5) ∧ W.cell? ⟨w.heap.size + 1, 0, none⟩ = some (.slice A3 b.es.length n3) ∧ W.cell? ⟨w.heap.size + 1, 1, none⟩ = some (.slice A4 b.ks.length n4) ∧ W.cell? ⟨w.heap.size + 1, 2, none⟩ = some (.slice A6 cb.length n6))) := fun W hW => by
    have g0 : W.heap[w.heap.size]? = some (.cells #[.slice A1 a.es.length n1, .slice A2 a.ks.length n2, .slice A5 ca.length n5] 29 (0, 0)) := (hW.block _ (by omega)).trans ((heap_old (by simp <;> omega)).trans ((heap_old (by simp)).trans (heap_new rfl)))
    have g1 : W.heap[w.heap.size + 1]? = some (.cells #[.slice A3 b.es.length n3, .slice A4 b.ks.length n4, .slice A6 cb.length n6] 29 (0, 0)) := (hW.block _ (by omega)).trans ((heap_old (by simp)).trans (heap_new (by simp)))
    have g2 : W.heap[w.heap.size + 2]? = some (.cells #[.slice none 0 0, .slice none 0 0, .slice none 0 0] 29 (0, 0)) := (hW.block _ (by omega)).trans (heap_new (by simp))
    exact ⟨((((Below.refl _ w).alloc (Nat.le_refl _) _).alloc (by simp) _).alloc (by simp; omega) _).trans (hW.mono (by omega)), g2, by have := hW.size; simpa using this, cell_cells (i := 0) g0, cell_cells (i := 1) g0, cell_cells (i := 2) g0, cell_cells (i := 0) g1, cell_cells (i := 1) g1, cell_cells (i := 2) g1⟩
  have hneA : w.heap.size + 1 + 1 ≠ w.heap.size := by omega
  have hneB : w.heap.size ≠ w.heap.size + 1 + 1 := by omega
  clear ha hb
  go_enter Tryz.func84, Tryz.ntmps84
  go_upto_region 1 with (fail)
  go_region_held3 (fun w' => w'.cell? ⟨w.heap.size, 0, none⟩ = some (.slice A1 a.es.length n1) ∧ w'.cell? ⟨w.heap.size, 1, none⟩ = some (.slice A2 a.ks.length n2) ∧ w'.cell? ⟨w.heap.size, 2, none⟩ = some (.slice A5 ca.length n5) ∧ w'.cell? ⟨w.heap.size + 1, 0, none⟩ = some (.slice A3 b.es.length n3) ∧ w'.cell? ⟨w.heap.size + 1, 1, none⟩ = some (.slice A4 b.ks.length n4) ∧ w'.cell? ⟨w.heap.size + 1, 2, none⟩ = some (.slice A6 cb.length n6))
    (first | go_keep | exact (HX.out _ hbk2.out).2.2.2 | exact (HX.out _ hbk1.out).2.2.2)
    (first | (go_at_call 127; go_loud ((refine (ctrees_any ca cb (by omega) (by omega) n a b _ _ _ _ _ _ _ (rd_below (HX.out _ (by go_grown)).1 (HX.out _ (by go_grown)).1.size _ _ _ HA.out) (rd_below (HX.out _ (by go_grown)).1 (HX.out _ (by go_grown)).1.size _ _ _ HB.out) (HCA.out _ (HX.out _ (by go_grown)).1) (HCB.out _ (HX.out _ (by go_grown)).1) hoa hob hda hdb hza hzb).mono ?_); rintro e w1 ⟨ve1, vk1, rfl, hrd1, hb⟩; obtain ⟨Av, nv, Aw, nw, rfl, rfl⟩ := rda_shape hrd1; have HR := hid hrd1; have hbk1 : Hid (Below (w.heap.size + 3) (((w.alloc (.cells #[.slice A1 a.es.length n1, .slice A2 a.ks.length n2, .slice A5 ca.length n5] 29)).alloc (.cells #[.slice A3 b.es.length n3, .slice A4 b.ks.length n4, .slice A6 cb.length n6] 29)).alloc (.cells #[.slice none 0 0, .slice none 0 0, .slice none 0 0] 29)) w1) := (Below.trans (by go_grown) (hb.mono (by simp))); clear hrd1 hb))
           | (go_at_call 125; go_loud ((refine (cunion_any ca cb _ _ w1 (HCA.out _ (HX.out _ hbk1.out).1) (HCB.out _ (HX.out _ hbk1.out).1) HR1.out HR2.out hN1 hN2).mono ?_); rintro e w2 ⟨v2, rfl, ho2, hb2⟩; obtain ⟨A7, c7, hv7⟩ := ho2.shape; subst hv7; have HO2 := hid ho2; have hbk2 := hid (hbk1.out.trans (hb2.mono (HX.out _ hbk1.out).2.2.1)); have HG2 := hid (HX.out _ hbk2.out).2.1; have k0 : w2.cell? ⟨w.heap.size + 2, 0, none⟩ = some (.slice none 0 0) := cell_cells (i := 0) HG2.out; have k1 : w2.cell? ⟨w.heap.size + 2, 1, none⟩ = some (.slice none 0 0) := cell_cells (i := 1) HG2.out; have k2 : w2.cell? ⟨w.heap.size + 2, 2, none⟩ = some (.slice none 0 0) := cell_cells (i := 2) HG2.out; have z0 := cells_frz (i := 0) HG2.out; have z1 := cells_frz (i := 1) HG2.out; have z2 := cells_frz (i := 2) HG2.out; have HB2 := hid hb2; clear ho2 hb2)))
  all_goals (
    go_wp2_with fail
    have hs2 : w.heap.size + 3 ≤ w2.heap.size := (HX.out _ hbk2.out).2.2.1
    have hs1 : w.heap.size + 3 ≤ w1.heap.size := (HX.out _ hbk1.out).2.2.1
    have hs12 := HB2.out.size
    obtain ⟨r0, r1, r2, hK, hS⟩ := box3 HG2.out (.slice Av (joinT n ca cb a b).es.length nv) (.slice Aw (joinT n ca cb a b).ks.length nw) (.slice A7 (ctxBy ca cb 0).length c7)
    have hBW : Below w.heap.size w (((w2.setCell ⟨w.heap.size + 2, 0, none⟩ (.slice Av (joinT n ca cb a b).es.length nv)).setCell ⟨w.heap.size + 2, 1, none⟩ (.slice Aw (joinT n ca cb a b).ks.length nw)).setCell ⟨w.heap.size + 2, 2, none⟩ (.slice A7 (ctxBy ca cb 0).length c7)) := (((HX.out _ hbk2.out).1.setCell (by simp) _).setCell (by simp) _).setCell (by simp) _
    clear k0 k1 k2 z0 z1 z2
    generalize (((w2.setCell ⟨w.heap.size + 2, 0, none⟩ (.slice Av (joinT n ca cb a b).es.length nv)).setCell ⟨w.heap.size + 2, 1, none⟩ (.slice Aw (joinT n ca cb a b).ks.length nw)).setCell ⟨w.heap.size + 2, 2, none⟩ (.slice A7 (ctxBy ca cb 0).length c7)) = W at *
    refine bodyPost_ret (v := .agg #[.slice Av (joinT n ca cb a b).es.length nv, .slice Aw (joinT n ca cb a b).ks.length nw, .slice A7 (ctxBy ca cb 0).length c7]) (by simp [results, Tryz.results84, go_sem, r0, r1, r2]) rfl ⟨_, _, _, rfl, ?_, ?_, hBW⟩
    · exact rda_up (fun b hb => (hK b (by have := hb.1; simp only [World.size_alloc, World.size_drew] at this; omega)).trans (HB2.out.block b hb.2)) (fun b hb => ⟨by have := hb.1; simp only [World.size_alloc, World.size_drew] at this; omega, by have := hb.2; omega⟩) _ _ _ HR.out
    · exact (HO2.out.sla HUL.out).up (fun b hb => hK b (by have := hb.1; omega)) (fun b hb => ⟨by have := hb.1; omega, by have := hb.2.1; omega⟩) (fun _ _ _ h => h))
end Go.Proofs.YtkjijbogbelilaaGreat

namespace Go.Proofs.YtkjijbogbelilaaGreat
open Go.RowKit
set_option maxRecDepth 100000

theorem caR_right {t : Tr} {c : List Sp} (h : caR t c = true) : t.right 5 = true := by unfold caR at h; simp at h; exact h.1
theorem caR_apart {t : Tr} {c : List Sp} (h : caR t c = true) : apartB c = true := by rw [caR_r9] at h; unfold r9R at h; simp at h; exact h.2.1
theorem caR_ord {t : Tr} {c : List Sp} (h : caR t c = true) : t.Ord := right_ord t 5 (caR_right h)
theorem caR_dep {t : Tr} {c : List Sp} (h : caR t c = true) : t.dep ≤ 6 := by have := right_dep t 5 (caR_right h); omega
/-- The error's number, the tree and the context of two joined. -/
def jnE (a b : Tr) (ca cb : List Sp) : Int := if caR a ca && caR b cb then 0 else 1
def jnT (a b : Tr) (ca cb : List Sp) : Tr := if caR a ca && caR b cb then joinT 6 ca cb a b else .mk [] []
def jnC (a b : Tr) (ca cb : List Sp) : List Sp := if caR a ca && caR b cb then ctxBy ca cb 0 else []
set_option maxHeartbeats 4000000 in
theorem cJoin_any (ca cb : List Sp) (a b : Tr) (va ka vb kb vca vcb : Value) (w : World) (ha : a.rd w w.heap.size va ka) (hb : b.rd w w.heap.size vb kb) (hca : SlP w w.heap.size 3 SpE vca ca) (hcb : SlP w w.heap.size 3 SpE vcb cb) (hza : a.sz ≤ 4000) (hzb : b.sz ≤ 4000) (hN1 : ca.length ≤ 20000) (hN2 : cb.length ≤ 20000) :
    Calls Tryz.prog 25 #[.agg #[va, ka, vca], .agg #[vb, kb, vcb]] w (RetCE w (jnT a b ca cb) (jnC a b ca cb) (jnE a b ca cb)) := by
  have HA := hid ha
  have HB := hid hb
  have HCA : Hid (∀ w', Below w.heap.size w w' → SlP w' w'.heap.size 3 SpE vca ca) := fun w' hb => hca.imp hb hb.size fun _ _ _ h => h
  have HCB : Hid (∀ w', Below w.heap.size w w' → SlP w' w'.heap.size 3 SpE vcb cb) := fun w' hb => hcb.imp hb hb.size fun _ _ _ h => h
  obtain ⟨A1, n1, A2, n2, rfl, rfl⟩ := rd_shape ha
  obtain ⟨A3, n3, A4, n4, rfl, rfl⟩ := rd_shape hb
  obtain ⟨A5, n5, rfl, _⟩ := hca
  obtain ⟨A6, n6, rfl, _⟩ := hcb
  have HX : Hid (∀ W, Below (w.heap.size + 3) (((w.alloc (.cells #[.slice A1 a.es.length n1, .slice A2 a.ks.length n2, .slice A5 ca.length n5] 29)).alloc (.cells #[.slice A3 b.es.length n3, .slice A4 b.ks.length n4, .slice A6 cb.length n6] 29)).alloc (.cells #[.slice none 0 0, .slice none 0 0, .slice none 0 0] 29)) W → Below w.heap.size w W ∧ W.heap[w.heap.size + 2]? = some (.cells #[.slice none 0 0, .slice none 0 0, .slice none 0 0] 29 (0, 0)) ∧ w.heap.size + 3 ≤ W.heap.size ∧ (W.cell? ⟨w.heap.size, 0, none⟩ = some (.slice A1 a.es.length n1) ∧ W.cell? ⟨w.heap.size, 1, none⟩ = some (.slice A2 a.ks.length n2) ∧ W.cell? ⟨w.heap.size, 2, none⟩ = some (.slice A5 ca.length n5) ∧ W.cell? ⟨w.heap.size + 1, 0, none⟩ = some (.slice A3 b.es.length n3) ∧ W.cell? ⟨w.heap.size + 1, 1, none⟩ = some (.slice A4 b.ks.length n4) ∧ W.cell? ⟨w.heap.size + 1, 2, none⟩ = some (.slice A6 cb.length n6))) := fun W hW => by
    have g0 : W.heap[w.heap.size]? = some (.cells #[.slice A1 a.es.length n1, .slice A2 a.ks.length n2, .slice A5 ca.length n5] 29 (0, 0)) := (hW.block _ (by omega)).trans ((heap_old (by simp <;> omega)).trans ((heap_old (by simp)).trans (heap_new rfl)))
    have g1 : W.heap[w.heap.size + 1]? = some (.cells #[.slice A3 b.es.length n3, .slice A4 b.ks.length n4, .slice A6 cb.length n6] 29 (0, 0)) := (hW.block _ (by omega)).trans ((heap_old (by simp)).trans (heap_new (by simp)))
    have g2 : W.heap[w.heap.size + 2]? = some (.cells #[.slice none 0 0, .slice none 0 0, .slice none 0 0] 29 (0, 0)) := (hW.block _ (by omega)).trans (heap_new (by simp))
    exact ⟨((((Below.refl _ w).alloc (Nat.le_refl _) _).alloc (by simp) _).alloc (by simp; omega) _).trans (hW.mono (by omega)), g2, by have := hW.size; simpa using this, cell_cells (i := 0) g0, cell_cells (i := 1) g0, cell_cells (i := 2) g0, cell_cells (i := 0) g1, cell_cells (i := 1) g1, cell_cells (i := 2) g1⟩
  clear ha hb
  go_enter Tryz.func25, Tryz.ntmps25
  cases hc1 : caR a ca
  · have HR1 := hid hc1
    have HR2 : Hid (caR b cb = caR b cb) := rfl
    have HE : Hid (jnE a b ca cb = 1) := by unfold Hid jnE; rw [hc1]; rfl
    have HTT : Hid (jnT a b ca cb = .mk [] []) := by unfold Hid jnT; rw [hc1]; rfl
    have HCC : Hid (jnC a b ca cb = []) := by unfold Hid jnC; rw [hc1]; rfl
    clear hc1
    have hB0 := (HX.out _ (Below.refl _ _)).1
    go_wp2_with fail
    refine (caright_any a ca _ _ _ _ (rd_below hB0 hB0.size _ _ _ HA.out) (HCA.out _ hB0) hza hN1).mono ?_
    rw [HR1.out]
    rintro e w1 ⟨rfl, hb1⟩
    have hbq1 := hid (hb1.mono (show w.heap.size + 3 ≤ _ by simp))
    clear hb1 hB0
    obtain ⟨hB1, hG, hsq, q0, q1, q2, q3, q4, q5⟩ := HX.out w1 hbq1.out
    have HG := hid hG
    have k0 : (w1).cell? ⟨w.heap.size + 2, 0, none⟩ = some (.slice none 0 0) := cell_cells (i := 0) HG.out
    have k1 : (w1).cell? ⟨w.heap.size + 2, 1, none⟩ = some (.slice none 0 0) := cell_cells (i := 1) HG.out
    have k2 : (w1).cell? ⟨w.heap.size + 2, 2, none⟩ = some (.slice none 0 0) := cell_cells (i := 2) HG.out
    have z0 := cells_frz (i := 0) HG.out
    have z1 := cells_frz (i := 1) HG.out
    have z2 := cells_frz (i := 2) HG.out
    clear hG
    go_wp2_with fail
    obtain ⟨r0, r1, r2, hK, hS⟩ := box3 HG.out (.slice none 0 0) (.slice none 0 0) (.slice none 0 0)
    have hBW := ((hB1.setCell (p := ⟨w.heap.size + 2, 0, none⟩) (by simp) (.slice none 0 0)).setCell (p := ⟨w.heap.size + 2, 1, none⟩) (by simp) (.slice none 0 0)).setCell (p := ⟨w.heap.size + 2, 2, none⟩) (by simp) (.slice none 0 0)
    refine bodyPost_ret (v := .tuple #[.agg #[.slice none 0 0, .slice none 0 0, .slice none 0 0], .int .i64 1]) (by simp [results, Tryz.results25, go_sem, r0, r1, r2]) rfl ⟨_, _, _, by rw [HE.out], ?_, ?_, hBW⟩
    · rw [HTT.out]; exact rda_nil _ _
    · rw [HCC.out]; exact SlA.nil
  cases hc2 : caR b cb
  · have HR1 := hid hc1
    have HR2 := hid hc2
    have HE : Hid (jnE a b ca cb = 1) := by unfold Hid jnE; rw [hc1, hc2]; rfl
    have HTT : Hid (jnT a b ca cb = .mk [] []) := by unfold Hid jnT; rw [hc1, hc2]; rfl
    have HCC : Hid (jnC a b ca cb = []) := by unfold Hid jnC; rw [hc1, hc2]; rfl
    clear hc1 hc2
    have hB0 := (HX.out _ (Below.refl _ _)).1
    go_wp2_with fail
    refine (caright_any a ca _ _ _ _ (rd_below hB0 hB0.size _ _ _ HA.out) (HCA.out _ hB0) hza hN1).mono ?_
    rw [HR1.out]
    rintro e w1 ⟨rfl, hb1⟩
    have hbq1 := hid (hb1.mono (show w.heap.size + 3 ≤ _ by simp))
    clear hb1 hB0
    obtain ⟨hB1, hG, hsq, q0, q1, q2, q3, q4, q5⟩ := HX.out w1 hbq1.out
    have HG := hid hG
    have k0 : (w1).cell? ⟨w.heap.size + 2, 0, none⟩ = some (.slice none 0 0) := cell_cells (i := 0) HG.out
    have k1 : (w1).cell? ⟨w.heap.size + 2, 1, none⟩ = some (.slice none 0 0) := cell_cells (i := 1) HG.out
    have k2 : (w1).cell? ⟨w.heap.size + 2, 2, none⟩ = some (.slice none 0 0) := cell_cells (i := 2) HG.out
    have z0 := cells_frz (i := 0) HG.out
    have z1 := cells_frz (i := 1) HG.out
    have z2 := cells_frz (i := 2) HG.out
    clear hG
    go_wp2_with fail
    refine (caright_any b cb _ _ _ w1 (rd_below hB1 hB1.size _ _ _ HB.out) (HCB.out _ hB1) hzb hN2).mono ?_
    rw [HR2.out]
    rintro e w2 ⟨rfl, hb2⟩
    have hbq2 := hid (hbq1.out.trans (hb2.mono hsq))
    clear hb2 hB1 k0 k1 k2 z0 z1 z2 q0 q1 q2 q3 q4 q5 hsq HG
    obtain ⟨hB1, hG, hsq, q0, q1, q2, q3, q4, q5⟩ := HX.out w2 hbq2.out
    have HG := hid hG
    have k0 : (w2).cell? ⟨w.heap.size + 2, 0, none⟩ = some (.slice none 0 0) := cell_cells (i := 0) HG.out
    have k1 : (w2).cell? ⟨w.heap.size + 2, 1, none⟩ = some (.slice none 0 0) := cell_cells (i := 1) HG.out
    have k2 : (w2).cell? ⟨w.heap.size + 2, 2, none⟩ = some (.slice none 0 0) := cell_cells (i := 2) HG.out
    have z0 := cells_frz (i := 0) HG.out
    have z1 := cells_frz (i := 1) HG.out
    have z2 := cells_frz (i := 2) HG.out
    clear hG
    go_wp2_with fail
    obtain ⟨r0, r1, r2, hK, hS⟩ := box3 HG.out (.slice none 0 0) (.slice none 0 0) (.slice none 0 0)
    have hBW := ((hB1.setCell (p := ⟨w.heap.size + 2, 0, none⟩) (by simp) (.slice none 0 0)).setCell (p := ⟨w.heap.size + 2, 1, none⟩) (by simp) (.slice none 0 0)).setCell (p := ⟨w.heap.size + 2, 2, none⟩) (by simp) (.slice none 0 0)
    refine bodyPost_ret (v := .tuple #[.agg #[.slice none 0 0, .slice none 0 0, .slice none 0 0], .int .i64 1]) (by simp [results, Tryz.results25, go_sem, r0, r1, r2]) rfl ⟨_, _, _, by rw [HE.out], ?_, ?_, hBW⟩
    · rw [HTT.out]; exact rda_nil _ _
    · rw [HCC.out]; exact SlA.nil
  · have HR1 := hid hc1
    have HR2 := hid hc2
    have HE : Hid (jnE a b ca cb = 0) := by unfold Hid jnE; rw [hc1, hc2]; rfl
    have HTT : Hid (jnT a b ca cb = joinT 6 ca cb a b) := by unfold Hid jnT; rw [hc1, hc2]; rfl
    have HCC : Hid (jnC a b ca cb = ctxBy ca cb 0) := by unfold Hid jnC; rw [hc1, hc2]; rfl
    have HOA := hid (caR_ord hc1)
    have HOB := hid (caR_ord hc2)
    have HDA := hid (caR_dep hc1)
    have HDB := hid (caR_dep hc2)
    have HPA := hid (caR_apart hc1)
    have HPB := hid (caR_apart hc2)
    clear hc1 hc2
    have hB0 := (HX.out _ (Below.refl _ _)).1
    go_wp2_with fail
    refine (caright_any a ca _ _ _ _ (rd_below hB0 hB0.size _ _ _ HA.out) (HCA.out _ hB0) hza hN1).mono ?_
    rw [HR1.out]
    rintro e w1 ⟨rfl, hb1⟩
    have hbq1 := hid (hb1.mono (show w.heap.size + 3 ≤ _ by simp))
    clear hb1 hB0
    obtain ⟨hB1, hG, hsq, q0, q1, q2, q3, q4, q5⟩ := HX.out w1 hbq1.out
    have HG := hid hG
    have k0 : (w1).cell? ⟨w.heap.size + 2, 0, none⟩ = some (.slice none 0 0) := cell_cells (i := 0) HG.out
    have k1 : (w1).cell? ⟨w.heap.size + 2, 1, none⟩ = some (.slice none 0 0) := cell_cells (i := 1) HG.out
    have k2 : (w1).cell? ⟨w.heap.size + 2, 2, none⟩ = some (.slice none 0 0) := cell_cells (i := 2) HG.out
    have z0 := cells_frz (i := 0) HG.out
    have z1 := cells_frz (i := 1) HG.out
    have z2 := cells_frz (i := 2) HG.out
    clear hG
    go_wp2_with fail
    refine (caright_any b cb _ _ _ w1 (rd_below hB1 hB1.size _ _ _ HB.out) (HCB.out _ hB1) hzb hN2).mono ?_
    rw [HR2.out]
    rintro e w2 ⟨rfl, hb2⟩
    have hbq2 := hid (hbq1.out.trans (hb2.mono hsq))
    clear hb2 hB1 k0 k1 k2 z0 z1 z2 q0 q1 q2 q3 q4 q5 hsq HG
    obtain ⟨hB1, hG, hsq, q0, q1, q2, q3, q4, q5⟩ := HX.out w2 hbq2.out
    have HG := hid hG
    have k0 : (w2).cell? ⟨w.heap.size + 2, 0, none⟩ = some (.slice none 0 0) := cell_cells (i := 0) HG.out
    have k1 : (w2).cell? ⟨w.heap.size + 2, 1, none⟩ = some (.slice none 0 0) := cell_cells (i := 1) HG.out
    have k2 : (w2).cell? ⟨w.heap.size + 2, 2, none⟩ = some (.slice none 0 0) := cell_cells (i := 2) HG.out
    have z0 := cells_frz (i := 0) HG.out
    have z1 := cells_frz (i := 1) HG.out
    have z2 := cells_frz (i := 2) HG.out
    clear hG
    go_wp2_with fail
    refine (cjoin_any ca cb 6 a b _ _ _ _ _ _ w2 (rd_below hB1 hB1.size _ _ _ HA.out) (rd_below hB1 hB1.size _ _ _ HB.out) (HCA.out _ hB1) (HCB.out _ hB1) HOA.out HOB.out HDA.out HDB.out (by omega) (by omega) HPA.out HPB.out hN1 hN2).mono ?_
    rintro e w5 ⟨ve, vk, vc, rfl, hrd5, hsl5, hb5⟩
    obtain ⟨A7, n7, A8, n8, rfl, rfl⟩ := rda_shape hrd5
    have HS5 := hid hsl5
    obtain ⟨A9, n9, hv9, _⟩ := hsl5
    subst hv9
    have HR5 := hid hrd5
    have hs25 := hb5.size
    have hs2 := hsq
    have hbq5 := hid (hbq2.out.trans (hb5.mono hsq))
    clear hrd5 hb5 hB1 k0 k1 k2 z0 z1 z2 q0 q1 q2 q3 q4 q5 hsq HG
    obtain ⟨hB1, hG, hsq, q0, q1, q2, q3, q4, q5⟩ := HX.out w5 hbq5.out
    have HG := hid hG
    have k0 : (w5).cell? ⟨w.heap.size + 2, 0, none⟩ = some (.slice none 0 0) := cell_cells (i := 0) HG.out
    have k1 : (w5).cell? ⟨w.heap.size + 2, 1, none⟩ = some (.slice none 0 0) := cell_cells (i := 1) HG.out
    have k2 : (w5).cell? ⟨w.heap.size + 2, 2, none⟩ = some (.slice none 0 0) := cell_cells (i := 2) HG.out
    have z0 := cells_frz (i := 0) HG.out
    have z1 := cells_frz (i := 1) HG.out
    have z2 := cells_frz (i := 2) HG.out
    clear hG
    go_wp2_with fail
    obtain ⟨r0, r1, r2, hK, hS⟩ := box3 HG.out (.slice A7 (joinT 6 ca cb a b).es.length n7) (.slice A8 (joinT 6 ca cb a b).ks.length n8) (.slice A9 (ctxBy ca cb 0).length n9)
    have hBW : Below w.heap.size w (((w5.setCell ⟨w.heap.size + 2, 0, none⟩ (.slice A7 (joinT 6 ca cb a b).es.length n7)).setCell ⟨w.heap.size + 2, 1, none⟩ (.slice A8 (joinT 6 ca cb a b).ks.length n8)).setCell ⟨w.heap.size + 2, 2, none⟩ (.slice A9 (ctxBy ca cb 0).length n9)) := ((hB1.setCell (by simp) _).setCell (by simp) _).setCell (by simp) _
    clear k0 k1 k2 z0 z1 z2
    generalize (((w5.setCell ⟨w.heap.size + 2, 0, none⟩ (.slice A7 (joinT 6 ca cb a b).es.length n7)).setCell ⟨w.heap.size + 2, 1, none⟩ (.slice A8 (joinT 6 ca cb a b).ks.length n8)).setCell ⟨w.heap.size + 2, 2, none⟩ (.slice A9 (ctxBy ca cb 0).length n9)) = W at *
    refine bodyPost_ret (v := .tuple #[.agg #[.slice A7 (joinT 6 ca cb a b).es.length n7, .slice A8 (joinT 6 ca cb a b).ks.length n8, .slice A9 (ctxBy ca cb 0).length n9], .int .i64 0]) (by simp [results, Tryz.results25, go_sem, r0, r1, r2]) rfl ⟨_, _, _, by rw [HE.out], ?_, ?_, hBW⟩
    · rw [HTT.out]
      exact rda_up (fun b hb => hK b (by have := hb.1; omega)) (fun b hb => ⟨by have := hb.1; omega, by have := hb.2; omega⟩) _ _ _ HR5.out
    · rw [HCC.out]
      exact HS5.out.up (fun b hb => hK b (by have := hb.1; omega)) (fun b hb => ⟨by have := hb.1; omega, by have := hb.2; omega⟩) (fun _ _ _ h => h)
end Go.Proofs.YtkjijbogbelilaaGreat

namespace Go.Proofs.YtkjijbogbelilaaGreat
open Go.RowKit
set_option maxRecDepth 100000

/-! contexts by their dots -/
theorem part_ctxBy (a b : List Sp) (how : Int) {i : Nat} (hi : i < 4) : partL (ctxBy a b how) i = byL (partL a i) (partL b i) how := by
  rw [ctxBy_whole, partL_whole, if_pos hi]
theorem apart_ok {c : List Sp} (h : apartB c = true) {i : Nat} (hi : i < 4) : ∀ r ∈ partL c i, runOk r := runs_ok _ none (apart_part h hi)
theorem apart_by {a b : List Sp} (ha : apartB a = true) (hb : apartB b = true) (how : Int) : apartB (ctxBy a b how) = true := by
  rw [ctxBy_whole]
  exact apart_whole fun i hi => (byL_right how (apart_ok ha hi) (apart_ok hb hi)).1
theorem hasC_by {a b : List Sp} (ha : apartB a = true) (hb : apartB b = true) (how : Int) {d : Dt} (hd : d.right = true) : hasC (ctxBy a b how) d = inn how (hasC a d) (hasC b d) := by
  have h1 := (right_bd hd).1
  obtain ⟨i, hi⟩ : ∃ i : Nat, (i : Int) = d.dc := ⟨d.dc.toNat, by omega⟩
  have h4 : i < 4 := by omega
  unfold hasC
  rw [hd, ← hi, part_ctxBy a b how h4, (byL_right how (apart_ok ha h4) (apart_ok hb h4)).2]
  simp
theorem hasC_right {c : List Sp} {d : Dt} (h : hasC c d = true) : d.right = true := by unfold hasC at h; rw [Bool.and_eq_true] at h; exact h.1
theorem hasC_union {a b : List Sp} (ha : apartB a = true) (hb : apartB b = true) (d : Dt) : hasC (ctxBy a b 0) d = (hasC a d || hasC b d) := by
  cases hd : d.right
  · unfold hasC; simp [hd]
  · rw [hasC_by ha hb 0 hd]; rfl
theorem hasC_minus {a b : List Sp} (ha : apartB a = true) (hb : apartB b = true) (d : Dt) : hasC (ctxBy a b 2) d = (hasC a d && !hasC b d) := by
  cases hd : d.right
  · unfold hasC; simp [hd]
  · rw [hasC_by ha hb 2 hd]; rfl
theorem hasL_bd {l : List (Int × Int)} (h : ∀ r ∈ l, runOk r) {n : Int} (hn : hasL l n = true) : 1 ≤ n ∧ n ≤ 1099511627776 := by
  unfold hasL at hn
  obtain ⟨r, hr, h1⟩ := List.any_eq_true.1 hn
  have := h r hr
  unfold runOk at this
  unfold inR at h1
  simp at h1
  omega
theorem dt_right {i : Nat} (hi : i < 4) {n : Int} (h : 1 ≤ n ∧ n ≤ 1099511627776) : (⟨i, n⟩ : Dt).right = true := by
  unfold Dt.right; simp; omega
theorem ctx_ext {a b : List Sp} (ha : apartB a = true) (hb : apartB b = true) (h : ∀ d, hasC a d = hasC b d) : a = b := by
  rw [← whole_part ha, ← whole_part hb]
  refine whole_eq fun i hi => runs_eq _ _ none none (apart_part ha hi) (apart_part hb hi) fun n => ?_
  by_cases hn : 1 ≤ n ∧ n ≤ 1099511627776
  · have := h ⟨i, n⟩
    unfold hasC at this
    rw [dt_right hi hn] at this
    simpa using this
  · have e1 : hasL (partL a i) n = false := by
      cases hc : hasL (partL a i) n
      · rfl
      · exact absurd (hasL_bd (apart_ok ha hi) hc) hn
    have e2 : hasL (partL b i) n = false := by
      cases hc : hasL (partL b i) n
      · rfl
      · exact absurd (hasL_bd (apart_ok hb hi) hc) hn
    rw [e1, e2]
theorem apart_nil : apartB [] = true := by kernel_rfl
theorem hasC_nil (d : Dt) : hasC [] d = false := by unfold hasC partL hasL; simp
theorem ctx_nil {c : List Sp} (hc : apartB c = true) : c = [] ↔ ∀ d, hasC c d = false := by
  constructor
  · rintro rfl; exact hasC_nil
  · intro h; exact ctx_ext hc apart_nil fun d => by rw [h, hasC_nil]
theorem cLeq_iff {a b : List Sp} (ha : apartB a = true) (hb : apartB b = true) : cLeq a b = true ↔ ∀ d, hasC a d = true → hasC b d = true := by
  unfold cLeq
  rw [ha, hb, Bool.true_and, Bool.true_and, decide_eq_true_eq, List.length_eq_zero_iff, ctx_nil (apart_by ha hb 2)]
  refine forall_congr' fun d => ?_
  rw [hasC_minus ha hb]
  cases hasC a d <;> cases hasC b d <;> simp

/-! right trees by their leaves -/
theorem ents_mk : ∀ (es : List En) (p : Option Dt), (es.Pairwise fun a b => a.dot.lt b.dot = true) → (∀ e ∈ es, okP p e.dot = true) → (∀ e ∈ es, e.right = true) → entsB p es = true
  | [], _, _, _, _ => by unfold entsB; rfl
  | e :: es, p, h, h1, h2 => by
    obtain ⟨h3, h4⟩ := List.pairwise_cons.1 h
    rw [entsB_cons, h2 e (by simp), h1 e (by simp), ents_mk es (some e.dot) h4 (fun a ha => h3 a ha) fun a ha => h2 a (by simp [ha])]; rfl
theorem kids_mk (d : Int) : ∀ (ks : List Kd) (p : Option ByteArray), (ks.Pairwise fun a b => ltS a.1 b.1 = true) → (∀ x ∈ ks, okK p x.1 = true) → (∀ k t, (k, t) ∈ ks → keyB k = true ∧ t.empty = false ∧ t.right (d - 1) = true) → Tr.rightL p ks d = true
  | [], p, _, _, _ => by cases p <;> rw [Tr.rightL]
  | (k, t) :: ks, p, h, h1, h2 => by
    obtain ⟨h3, h4⟩ := List.pairwise_cons.1 h
    obtain ⟨g1, g2, g3⟩ := h2 k t (by simp)
    rw [rightL_cons, g1, g2, g3, h1 (k, t) (by simp), kids_mk d ks (some k) h4 (fun a ha => h3 a ha) fun k' t' hm => h2 k' t' (by simp [hm])]; rfl
/-- What a right tree's leaves are. -/
def LfR (n : Int) (x : Lf) : Prop := (x.1.length : Int) + 1 ≤ n ∧ (∀ k ∈ x.1, keyB k = true) ∧ x.2.right = true
theorem right_leaf : ∀ (t : Tr) (n : Int), t.right n = true → ∀ x ∈ t.lvs [], LfR n x := by
  intro t
  induction t using Tr.ind with
  | h es ks ih =>
  intro n h x hx
  rw [Tr.right, Bool.and_eq_true, Bool.and_eq_true] at h
  have hn := of_decide_eq_true h.1.1
  obtain ⟨p, e⟩ := x
  match p with
  | [] =>
    have he := mem_nil.1 hx
    refine ⟨by simpa using hn, by simp, ?_⟩
    have : ∀ (es : List En) (p : Option Dt), entsB p es = true → ∀ e ∈ es, e.right = true := by
      intro es
      induction es with
      | nil => intro _ _ _ h; cases h
      | cons y es ih =>
        intro p h e he
        rw [entsB_cons, Bool.and_eq_true, Bool.and_eq_true] at h
        rcases List.mem_cons.1 he with rfl | he
        · exact h.1.1
        · exact ih _ h.2 e he
    exact this es none h.1.2 e he
  | k :: qs =>
    obtain ⟨t, hm, hx⟩ := mem_cons'.1 hx
    have hk : ∀ (ks : List Kd) (p : Option ByteArray), Tr.rightL p ks n = true → ∀ k t, (k, t) ∈ ks → keyB k = true ∧ t.right (n - 1) = true := by
      intro ks
      induction ks with
      | nil => intro _ _ _ _ h; cases h
      | cons y ks ih =>
        obtain ⟨y1, y2⟩ := y
        intro p h k t he
        rw [rightL_cons, Bool.and_eq_true, Bool.and_eq_true, Bool.and_eq_true, Bool.and_eq_true] at h
        obtain ⟨⟨⟨⟨a1, a2⟩, a3⟩, a4⟩, a5⟩ := h
        rcases List.mem_cons.1 he with he | he
        · cases he; exact ⟨a1, a4⟩
        · exact ih _ a5 k t he
    obtain ⟨h1, h2⟩ := hk ks none h.2 k t hm
    obtain ⟨g1, g2, g3⟩ := ih k t hm _ h2 _ hx
    exact ⟨by simp at g1 ⊢; omega, fun q hq => by
      rcases List.mem_cons.1 hq with rfl | hq
      · exact h1
      · exact g2 q hq, g3⟩
theorem right_of_leaf : ∀ (t : Tr) (n : Int), 1 ≤ n → t.Ord → (∀ x ∈ t.lvs [], LfR n x) → t.right n = true := by
  intro t
  induction t using Tr.ind with
  | h es ks ih =>
  intro n hn ho hl
  obtain ⟨h1, h2, h3⟩ := ord_iff.1 ho
  rw [Tr.right, Bool.and_eq_true, Bool.and_eq_true]
  refine ⟨⟨by simpa using hn, ents_mk es none h1 (fun _ _ => rfl) fun e he => (hl ([], e) (mem_nil.2 he)).2.2⟩, kids_mk n ks none h2 (fun _ _ => rfl) fun k t hm => ?_⟩
  obtain ⟨g1, g2, g3⟩ := h3 k t hm
  have hsub : ∀ x ∈ t.lvs [], LfR (n - 1) x ∧ keyB k = true := by
    rintro ⟨qs, e⟩ hx
    obtain ⟨f1, f2, f3⟩ := hl (k :: qs, e) (mem_cons'.2 ⟨t, hm, hx⟩)
    exact ⟨⟨by simp at f1 ⊢; omega, fun q hq => f2 q (by simp [hq]), f3⟩, f2 k (by simp)⟩
  obtain ⟨x, hx⟩ := ord_leaf t g3 g2
  have hd := (hsub x hx).1.1
  exact ⟨(hsub x hx).2, g2, ih k t hm (n - 1) (by omega) g3 fun x hx => (hsub x hx).1⟩
theorem right_iff {t : Tr} (h : t.Ord) : t.right 5 = true ↔ ∀ x ∈ t.lvs [], LfR 5 x := ⟨right_leaf t 5, right_of_leaf t 5 (by omega) h⟩

/-! the dots of a tree -/
theorem mem_dotsL {ks : List Kd} {d : Dt} : d ∈ Tr.dotsL ks ↔ ∃ k t, (k, t) ∈ ks ∧ d ∈ t.dots := by
  induction ks with
  | nil => simp [Tr.dotsL]
  | cons y ks ih =>
    obtain ⟨k, t⟩ := y
    rw [Tr.dotsL, List.mem_append, ih]
    constructor
    · rintro (h | ⟨k', t', hm, h⟩)
      · exact ⟨k, t, by simp, h⟩
      · exact ⟨k', t', by simp [hm], h⟩
    · rintro ⟨k', t', hm, h⟩
      rcases List.mem_cons.1 hm with e | hm
      · cases e; exact .inl h
      · exact .inr ⟨k', t', hm, h⟩
theorem mem_dots (t : Tr) : ∀ d, d ∈ t.dots ↔ ∃ p e, ((p, e) : Lf) ∈ t.lvs [] ∧ e.dot = d := by
  induction t using Tr.ind with
  | h es ks ih =>
  intro d
  rw [Tr.dots, List.mem_append, List.mem_map, mem_dotsL]
  constructor
  · rintro (⟨e, he, rfl⟩ | ⟨k, t, hm, hd⟩)
    · exact ⟨[], e, mem_nil.2 he, rfl⟩
    · obtain ⟨p, e, hp, rfl⟩ := (ih k t hm d).1 hd
      exact ⟨k :: p, e, mem_cons'.2 ⟨t, hm, hp⟩, rfl⟩
  · rintro ⟨p, e, hx, rfl⟩
    match p with
    | [] => exact .inl ⟨e, mem_nil.1 hx, rfl⟩
    | k :: qs =>
      obtain ⟨t, hm, hx⟩ := mem_cons'.1 hx
      exact .inr ⟨k, t, hm, (ih k t hm _).2 ⟨qs, e, hx, rfl⟩⟩
theorem en_dot_right {e : En} (h : e.right = true) : e.dot.right = true := by
  unfold En.right at h; simp at h; exact h.1
theorem dots_right {t : Tr} (h : t.right 5 = true) : ∀ d ∈ t.dots, d.right = true := fun d hd => by
  obtain ⟨p, e, hx, rfl⟩ := (mem_dots t d).1 hd
  exact en_dot_right (right_leaf t 5 h _ hx).2.2
theorem hasC_dots {t : Tr} (h : t.right 5 = true) {d : Dt} : hasC (ctxOf t.dots) d = true ↔ d ∈ t.dots := by
  constructor
  · intro hc; rw [hasC_ctxOf (dots_right h) (hasC_right hc)] at hc; simpa using hc
  · intro hm; rw [hasC_ctxOf (dots_right h) (dots_right h d hm)]; simpa using hm

/-! what is known, right -/
structure CaOk (t : Tr) (c : List Sp) : Prop where
  ord : t.Ord
  leaf : ∀ x ∈ t.lvs [], LfR 5 x
  ap : apartB c = true
  has : ∀ x ∈ t.lvs [], hasC c x.2.dot = true
theorem caR_iff {t : Tr} {c : List Sp} : caR t c = true ↔ CaOk t c := by
  unfold caR
  rw [Bool.and_eq_true]
  constructor
  · rintro ⟨h1, h2⟩
    have hc : apartB c = true := by unfold cLeq at h2; simp only [Bool.and_eq_true] at h2; exact h2.2.1
    refine ⟨right_ord t 5 h1, right_leaf t 5 h1, hc, fun x hx => ?_⟩
    have ha := apart_ctxOf (dots_right h1)
    exact (cLeq_iff ha hc).1 h2 _ ((hasC_dots h1).2 ((mem_dots t _).2 ⟨x.1, x.2, hx, rfl⟩))
  · rintro ⟨h1, h2, h3, h4⟩
    have hr := (right_iff h1).2 h2
    refine ⟨hr, (cLeq_iff (apart_ctxOf (dots_right hr)) h3).2 fun d hd => ?_⟩
    obtain ⟨p, e, hx, rfl⟩ := (mem_dots t d).1 ((hasC_dots hr).1 hd)
    exact h4 _ hx
theorem CaOk.dep {t : Tr} {c : List Sp} (h : CaOk t c) : t.dep ≤ 6 := caR_dep (caR_iff.2 h)
theorem CaOk.ext {s t : Tr} {c d : List Sp} (h : CaOk s c) (k : CaOk t d) (hl : ∀ p e, ((p, e) : Lf) ∈ s.lvs [] ↔ ((p, e) : Lf) ∈ t.lvs []) (hd : ∀ x, hasC c x = hasC d x) : s = t ∧ c = d :=
  ⟨ord_ext s t h.ord k.ord fun ⟨p, e⟩ => hl p e, ctx_ext h.ap k.ap hd⟩
abbrev jT (a b : Tr) (ca cb : List Sp) : Tr := joinT 6 ca cb a b
abbrev jC (ca cb : List Sp) : List Sp := ctxBy ca cb 0
theorem jT_mem {a b : Tr} {ca cb : List Sp} (ha : CaOk a ca) (hb : CaOk b cb) (p : List ByteArray) (e : En) : ((p, e) : Lf) ∈ (jT a b ca cb).lvs [] ↔ EntJ ca cb (fun x => ((p, x) : Lf) ∈ a.lvs []) (fun y => ((p, y) : Lf) ∈ b.lvs []) e :=
  (joinT_spec ca cb 6 a b ha.ord hb.ord ha.dep hb.dep).2 p e
theorem grtE_or (x y : En) : grtE x y = x ∨ grtE x y = y := by unfold grtE; split <;> simp
theorem EntJ.leaf {ca cb : List Sp} {a b : En → Prop} {e : En} (h : EntJ ca cb a b e) : a e ∨ b e := by
  rcases h with ⟨x, y, hx, hy, _, rfl⟩ | ⟨hx, _, _⟩ | ⟨hx, _, _⟩
  · rcases grtE_or x y with h | h <;> rw [h]
    · exact .inl hx
    · exact .inr hy
  · exact .inl hx
  · exact .inr hx
theorem jT_ok {a b : Tr} {ca cb : List Sp} (ha : CaOk a ca) (hb : CaOk b cb) : CaOk (jT a b ca cb) (jC ca cb) := by
  refine ⟨(joinT_spec ca cb 6 a b ha.ord hb.ord ha.dep hb.dep).1, fun x hx => ?_, apart_by ha.ap hb.ap 0, fun x hx => ?_⟩
  · obtain ⟨p, e⟩ := x
    rcases ((jT_mem ha hb p e).1 hx).leaf with h | h
    · exact ha.leaf _ h
    · exact hb.leaf _ h
  · obtain ⟨p, e⟩ := x
    rw [hasC_union ha.ap hb.ap]
    rcases ((jT_mem ha hb p e).1 hx).leaf with h | h
    · rw [ha.has _ h]; rfl
    · rw [hb.has _ h]; simp
theorem jn_ok {a b : Tr} {ca cb : List Sp} (ha : CaOk a ca) (hb : CaOk b cb) : jnE a b ca cb = 0 ∧ jnT a b ca cb = jT a b ca cb ∧ jnC a b ca cb = jC ca cb := by
  unfold jnE jnT jnC
  rw [caR_iff.2 ha, caR_iff.2 hb]
  exact ⟨rfl, rfl, rfl⟩
/-- A box of three cells written over, and a new one laid behind. -/
theorem box3a {w : World} {g : Nat} {x y z : Value} {e : TypeId} (hbx : w.heap[g]? = some (.cells #[x, y, z] e (0, 0))) (a b c : Value) (o : Obj) :
    ((((w.setCell ⟨g, 0, none⟩ a).setCell ⟨g, 1, none⟩ b).setCell ⟨g, 2, none⟩ c).alloc o).cell? ⟨g, 0, none⟩ = some a ∧ ((((w.setCell ⟨g, 0, none⟩ a).setCell ⟨g, 1, none⟩ b).setCell ⟨g, 2, none⟩ c).alloc o).cell? ⟨g, 1, none⟩ = some b ∧ ((((w.setCell ⟨g, 0, none⟩ a).setCell ⟨g, 1, none⟩ b).setCell ⟨g, 2, none⟩ c).alloc o).cell? ⟨g, 2, none⟩ = some c ∧
      (∀ k, k ≠ g → k < w.heap.size → ((((w.setCell ⟨g, 0, none⟩ a).setCell ⟨g, 1, none⟩ b).setCell ⟨g, 2, none⟩ c).alloc o).heap[k]? = w.heap[k]?) ∧ ((((w.setCell ⟨g, 0, none⟩ a).setCell ⟨g, 1, none⟩ b).setCell ⟨g, 2, none⟩ c).alloc o).heap.size = w.heap.size + 1 ∧
      ((((w.setCell ⟨g, 0, none⟩ a).setCell ⟨g, 1, none⟩ b).setCell ⟨g, 2, none⟩ c).alloc o).heap[g]? = some (.cells #[a, b, c] e (0, 0)) := by
  obtain ⟨r0, r1, r2, hK, hS⟩ := box3 hbx a b c
  have hg := lt_of_block hbx
  have hW := cells_set (i := 2) (cells_set (i := 1) (cells_set (i := 0) hbx a) b) c
  have hW' : ((((w.setCell ⟨g, 0, none⟩ a).setCell ⟨g, 1, none⟩ b).setCell ⟨g, 2, none⟩ c).alloc o).heap[g]? = some (.cells #[a, b, c] e (0, 0)) := (heap_old (by rw [hS]; exact hg)).trans (by simpa using hW)
  exact ⟨cell_cells (i := 0) hW', cell_cells (i := 1) hW', cell_cells (i := 2) hW', fun k hk hk' => (heap_old (by rw [hS]; exact hk')).trans (hK k hk), by rw [World.size_alloc, hS], hW'⟩
theorem below_box3 {B : Nat} {w0 w : World} {g : Nat} (h : Below B w0 w) (hg : B ≤ g) (hB : B ≤ w.heap.size) (a b c : Value) (o : Obj) : Below B w0 ((((w.setCell ⟨g, 0, none⟩ a).setCell ⟨g, 1, none⟩ b).setCell ⟨g, 2, none⟩ c).alloc o) :=
  (((h.setCell hg _).setCell hg _).setCell hg _).alloc (by simp [World.setCell]; exact hB) _
end Go.Proofs.YtkjijbogbelilaaGreat

namespace Go.Proofs.YtkjijbogbelilaaGreat
open Go.RowKit
set_option maxRecDepth 100000

theorem gtE_iff {y x : En} : gtE y x = true ↔ x.v < y.v ∨ (y.v = x.v ∧ ltS x.s y.s = true) := by unfold gtE; simp
theorem gtE_no {y x : En} : gtE y x = false ↔ y.v < x.v ∨ (y.v = x.v ∧ ltS x.s y.s = false) := by
  rw [← Bool.not_eq_true, gtE_iff]
  cases ltS x.s y.s <;> simp <;> omega
theorem gtE_tr {x y z : En} (h : gtE x y = true) (k : gtE y z = true) : gtE x z = true := by
  rw [gtE_iff] at *
  rcases h with h | ⟨h, h'⟩ <;> rcases k with k | ⟨k, k'⟩
  · exact .inl (by omega)
  · exact .inl (by omega)
  · exact .inl (by omega)
  · exact .inr ⟨by omega, ltS_trans k' h'⟩
theorem gtE_self (x : En) : gtE x x = false := by rw [gtE_no]; exact .inr ⟨rfl, ltS_irrefl _⟩
theorem gtE_tot {x y : En} (hd : x.dot = y.dot) (h : gtE x y = false) (k : gtE y x = false) : x = y := by
  rw [gtE_no] at *
  rcases h with h | ⟨h, h'⟩ <;> rcases k with k | ⟨k, k'⟩
  · omega
  · omega
  · omega
  · have := ltS_total h' k'
    obtain ⟨a, b, c, d⟩ := x
    obtain ⟨a', b', c', d'⟩ := y
    simp only [En.dot, Dt.mk.injEq] at hd
    simp only at this h
    obtain ⟨rfl, rfl⟩ := hd
    subst this; subst h; rfl
theorem grt_self (x : En) : grtE x x = x := by rw [grtE_gt, gtE_self]; rfl
theorem grt_comm {x y : En} (hd : x.dot = y.dot) : grtE x y = grtE y x := by
  rw [grtE_gt, grtE_gt]
  cases h1 : gtE y x <;> cases h2 : gtE x y <;> simp
  · exact gtE_tot hd h2 h1
  · have := gtE_tr h1 h2; rw [gtE_self] at this; cases this
theorem grt_assoc {x y z : En} (_ : x.dot = y.dot) (h2 : y.dot = z.dot) : grtE (grtE x y) z = grtE x (grtE y z) := by
  rw [grtE_gt x y, grtE_gt y z]
  cases a : gtE y x <;> cases b : gtE z y <;> simp only [if_true, if_false, Bool.false_eq_true]
  · rw [grtE_gt x z, grtE_gt x y, a]
    cases c : gtE z x
    · simp
    · simp
      -- z > x, not z > y, not y > x : then y ≥ z > x, so y > x
      exfalso
      cases d : gtE y z
      · have := gtE_tot h2 d b; subst this; rw [a] at c; cases c
      · have := gtE_tr d c; rw [a] at this; cases this
  · rw [grtE_gt y z, b, grtE_gt x y, a]; rfl
  · rw [grtE_gt y z, b, grtE_gt x z, gtE_tr b a]; rfl

/-- The entry of a dot at a place. -/
def stE (t : Tr) (p : List ByteArray) (d : Dt) : Option En := ((t.lvs []).find? fun x => decide (x.1 = p) && decide (x.2.dot = d)).map (·.2)
theorem stE_some {t : Tr} (h : t.Ord) {p : List ByteArray} {d : Dt} {e : En} : stE t p d = some e ↔ ((p, e) : Lf) ∈ t.lvs [] ∧ e.dot = d := by
  unfold stE
  constructor
  · intro hs
    obtain ⟨⟨q, f⟩, h1, h2⟩ := Option.map_eq_some_iff.1 hs
    have h3 := List.find?_some h1
    have h4 := List.mem_of_find?_eq_some h1
    simp at h2 h3
    obtain ⟨rfl, h3⟩ := h3
    subst h2
    exact ⟨h4, h3⟩
  · rintro ⟨hm, hd⟩
    cases hf : (t.lvs []).find? fun x => decide (x.1 = p) && decide (x.2.dot = d) with
    | none =>
      have := List.find?_eq_none.1 hf _ hm
      simp [hd] at this
    | some y =>
      have h3 := List.find?_some hf
      have h4 := List.mem_of_find?_eq_some hf
      simp at h3
      have := (ord_lvOk t h).one y h4 (p, e) hm h3.1 (h3.2.trans hd.symm)
      subst this; rfl
theorem stE_none {t : Tr} (h : t.Ord) {p : List ByteArray} {d : Dt} : stE t p d = none ↔ ∀ e, ((p, e) : Lf) ∈ t.lvs [] → e.dot ≠ d := by
  constructor
  · intro hs e hm hd
    rw [(stE_some h).2 ⟨hm, hd⟩] at hs; cases hs
  · intro hn
    cases hs : stE t p d with
    | none => rfl
    | some e => exact absurd ((stE_some h).1 hs).2 (hn e ((stE_some h).1 hs).1)
/-- An entry that may be there, of a dot that may be known, joined to another one. -/
def jnO (x : Option En) (k : Bool) (y : Option En) (l : Bool) : Option En :=
  match x, y with
  | some x, some y => some (grtE x y)
  | some x, none => if l then none else some x
  | none, some y => if k then none else some y
  | none, none => none
theorem EntJ_st {t s : Tr} {ca cb : List Sp} (ht : t.Ord) (hs : s.Ord) (hca : apartB ca = true) (hcb : apartB cb = true) (p : List ByteArray) (d : Dt) (e : En) :
    (EntJ ca cb (fun x => ((p, x) : Lf) ∈ t.lvs []) (fun y => ((p, y) : Lf) ∈ s.lvs []) e ∧ e.dot = d) ↔ jnO (stE t p d) (hasC ca d) (stE s p d) (hasC cb d) = some e := by
  unfold EntJ
  simp only [cHas_hasC hca, cHas_hasC hcb]
  cases h1 : stE t p d with
  | none =>
    have n1 := (stE_none ht).1 h1
    cases h2 : stE s p d with
    | none =>
      have n2 := (stE_none hs).1 h2
      constructor
      · rintro ⟨⟨x, y, hx, hy, hd, rfl⟩ | ⟨hx, _⟩ | ⟨hx, _⟩, hd'⟩
        · rw [grtE_dot hd] at hd'; exact absurd hd' (n1 x hx)
        · exact absurd hd' (n1 e hx)
        · exact absurd hd' (n2 e hx)
      · intro h; cases h
    | some y =>
      obtain ⟨hy, hyd⟩ := (stE_some hs).1 h2
      constructor
      · rintro ⟨⟨x, y, hx, hy, hd, rfl⟩ | ⟨hx, _⟩ | ⟨hx, hn, hh⟩, hd'⟩
        · rw [grtE_dot hd] at hd'; exact absurd hd' (n1 x hx)
        · exact absurd hd' (n1 e hx)
        · have := (stE_some hs).2 ⟨hx, hd'⟩
          rw [h2] at this
          cases this
          rw [hd'] at hh
          simp [jnO, hh]
      · intro h
        unfold jnO at h
        simp only at h
        split at h
        · cases h
        · rename_i hh
          cases h
          exact ⟨.inr (.inr ⟨hy, fun x hx hxd => n1 x hx (hxd.trans hyd), by rw [hyd]; simpa using hh⟩), hyd⟩
  | some x =>
    obtain ⟨hx, hxd⟩ := (stE_some ht).1 h1
    cases h2 : stE s p d with
    | none =>
      have n2 := (stE_none hs).1 h2
      constructor
      · rintro ⟨⟨x', y, hx', hy, hd, rfl⟩ | ⟨hx', hn, hh⟩ | ⟨hx', hn, hh⟩, hd'⟩
        · rw [grtE_dot hd] at hd'; exact absurd (hd.symm.trans hd') (n2 y hy)
        · have := (stE_some ht).2 ⟨hx', hd'⟩
          rw [h1] at this
          cases this
          rw [hd'] at hh
          simp [jnO, hh]
        · exact absurd hd' (n2 e hx')
      · intro h
        unfold jnO at h
        simp only at h
        split at h
        · cases h
        · rename_i hh
          cases h
          exact ⟨.inr (.inl ⟨hx, fun y hy hyd => n2 y hy (hyd.trans hxd), by rw [hxd]; simpa using hh⟩), hxd⟩
    | some y =>
      obtain ⟨hy, hyd⟩ := (stE_some hs).1 h2
      constructor
      · rintro ⟨⟨x', y', hx', hy', hd, rfl⟩ | ⟨hx', hn, hh⟩ | ⟨hx', hn, hh⟩, hd'⟩
        · rw [grtE_dot hd] at hd'
          have e1 := (stE_some ht).2 ⟨hx', hd'⟩
          have e2 := (stE_some hs).2 ⟨hy', hd.symm.trans hd'⟩
          rw [h1] at e1; rw [h2] at e2
          cases e1; cases e2
          rfl
        · exact absurd (hyd.trans hd'.symm) (hn y hy)
        · exact absurd (hxd.trans hd'.symm) (hn x hx)
      · intro h
        unfold jnO at h
        cases h
        exact ⟨.inl ⟨x, y, hx, hy, hxd.trans hyd.symm, rfl⟩, (grtE_dot (hxd.trans hyd.symm)).trans hxd⟩
theorem stE_join {a b : Tr} {ca cb : List Sp} (ha : CaOk a ca) (hb : CaOk b cb) (p : List ByteArray) (d : Dt) : stE (jT a b ca cb) p d = jnO (stE a p d) (hasC ca d) (stE b p d) (hasC cb d) := by
  refine Option.ext fun e => ?_
  rw [stE_some (jT_ok ha hb).ord, ← EntJ_st ha.ord hb.ord ha.ap hb.ap, jT_mem ha hb]
theorem stE_has {a : Tr} {ca : List Sp} (ha : CaOk a ca) {p : List ByteArray} {d : Dt} {e : En} (h : stE a p d = some e) : hasC ca d = true ∧ e.dot = d := by
  obtain ⟨h1, h2⟩ := (stE_some ha.ord).1 h
  exact ⟨by rw [← h2]; exact ha.has _ h1, h2⟩
theorem CaOk.ext2 {s t : Tr} {c d : List Sp} (h : CaOk s c) (k : CaOk t d) (hl : ∀ p x, stE s p x = stE t p x) (hd : ∀ x, hasC c x = hasC d x) : s = t ∧ c = d := by
  refine h.ext k (fun p e => ?_) hd
  have h1 := @stE_some s h.ord p e.dot e
  have h2 := @stE_some t k.ord p e.dot e
  rw [hl] at h1
  simp only [and_true] at h1 h2
  exact h1.symm.trans h2
theorem join_idem {a : Tr} {ca : List Sp} (ha : CaOk a ca) : jT a a ca ca = a ∧ jC ca ca = ca := by
  refine (jT_ok ha ha).ext2 ha (fun p d => ?_) fun d => ?_
  · rw [stE_join ha ha]; cases h : stE a p d <;> simp [jnO, grt_self]
  · rw [hasC_union ha.ap ha.ap, Bool.or_self]
theorem join_comm {a b : Tr} {ca cb : List Sp} (ha : CaOk a ca) (hb : CaOk b cb) : jT a b ca cb = jT b a cb ca ∧ jC ca cb = jC cb ca := by
  refine (jT_ok ha hb).ext2 (jT_ok hb ha) (fun p d => ?_) fun d => ?_
  · rw [stE_join ha hb, stE_join hb ha]
    cases h : stE a p d <;> cases k : stE b p d <;> simp [jnO]
    exact grt_comm ((stE_has ha h).2.trans (stE_has hb k).2.symm)
  · rw [hasC_union ha.ap hb.ap, hasC_union hb.ap ha.ap, Bool.or_comm]
theorem join_assoc {a b c : Tr} {ca cb cc : List Sp} (ha : CaOk a ca) (hb : CaOk b cb) (hc : CaOk c cc) : jT (jT a b ca cb) c (jC ca cb) cc = jT a (jT b c cb cc) ca (jC cb cc) ∧ jC (jC ca cb) cc = jC ca (jC cb cc) := by
  have hab := jT_ok ha hb
  have hbc := jT_ok hb hc
  refine (jT_ok hab hc).ext2 (jT_ok ha hbc) (fun p d => ?_) fun d => ?_
  · rw [stE_join hab hc, stE_join ha hbc, stE_join ha hb, stE_join hb hc, hasC_union ha.ap hb.ap, hasC_union hb.ap hc.ap]
    cases h1 : stE a p d with
    | none =>
      cases h2 : stE b p d with
      | none => cases h3 : stE c p d <;> cases hasC ca d <;> cases hasC cb d <;> cases hasC cc d <;> rfl
      | some y =>
        have g2 := (stE_has hb h2).1
        cases h3 : stE c p d with
        | none => rw [g2]; cases hasC ca d <;> cases hasC cc d <;> rfl
        | some z => rw [g2, (stE_has hc h3).1]; cases hasC ca d <;> rfl
    | some x =>
      have g1 := (stE_has ha h1).1
      cases h2 : stE b p d with
      | none =>
        cases h3 : stE c p d with
        | none => rw [g1]; cases hasC cb d <;> cases hasC cc d <;> rfl
        | some z => rw [g1, (stE_has hc h3).1]; cases hasC cb d <;> rfl
      | some y =>
        have g2 := (stE_has hb h2).1
        cases h3 : stE c p d with
        | none => rw [g1, g2]; cases hasC cc d <;> rfl
        | some z =>
          rw [g1, g2, (stE_has hc h3).1]
          simp only [jnO]
          rw [grt_assoc ((stE_has ha h1).2.trans (stE_has hb h2).2.symm) ((stE_has hb h2).2.trans (stE_has hc h3).2.symm)]
  · rw [hasC_union hab.ap hc.ap, hasC_union ha.ap hb.ap, hasC_union ha.ap hbc.ap, hasC_union hb.ap hc.ap, Bool.or_assoc]
theorem CaOk.nil : CaOk (.mk [] []) [] := ⟨ord_nil, fun x h => by simp [Tr.lvs, Tr.lvsL] at h, apart_nil, fun x h => by simp [Tr.lvs, Tr.lvsL] at h⟩
theorem join_nil {a : Tr} {ca : List Sp} (ha : CaOk a ca) : jT (.mk [] []) a [] ca = a ∧ jC [] ca = ca := by
  refine (jT_ok CaOk.nil ha).ext2 ha (fun p d => ?_) fun d => ?_
  · rw [stE_join CaOk.nil ha, hasC_nil]
    cases h : stE a p d <;> simp [jnO, stE, Tr.lvs, Tr.lvsL]
  · rw [hasC_union apart_nil ha.ap, hasC_nil, Bool.false_or]
end Go.Proofs.YtkjijbogbelilaaGreat

namespace Go.Proofs.YtkjijbogbelilaaGreat
open Go.RowKit
set_option maxRecDepth 100000

theorem chkT_dots {t : Tr} {d : Dt} (h : chkT t d = true) : t.right 5 = true ∧ d.right = true ∧ d ∉ t.dots := by
  unfold chkT at h
  rw [Bool.and_eq_true, Bool.and_eq_true] at h
  refine ⟨h.1.1, h.1.2, fun hm => ?_⟩
  rw [(hasC_dots h.1.1).2 hm] at h
  simp at h
/-- The context of a tree's dots. -/
abbrev knC (t : Tr) : List Sp := ctxOf t.dots
theorem known_ok {t : Tr} (h : t.right 5 = true) : CaOk t (knC t) := by
  have ha := apart_ctxOf (dots_right h)
  refine caR_iff.1 ?_
  unfold caR
  rw [h, (cLeq_iff ha ha).2 fun _ hd => hd]; rfl
theorem seen_has {t : Tr} {d x : Dt} (h : t.right 5 = true) (hd : d.right = true) : hasC (seenC t d) x = true ↔ x ∈ t.dots ∨ x = d := by
  have hr : ∀ y ∈ [d], y.right = true := fun y hy => by simp at hy; subst hy; exact hd
  unfold seenC
  rw [hasC_union (apart_ctxOf (dots_right h)) (apart_ctxOf hr), Bool.or_eq_true, hasC_dots h]
  refine or_congr Iff.rfl ?_
  constructor
  · intro hc; rw [hasC_ctxOf hr (hasC_right hc)] at hc; simpa using hc
  · rintro rfl; rw [hasC_ctxOf hr hd]; simp
theorem seen_apart {t : Tr} {d : Dt} (h : t.right 5 = true) (hd : d.right = true) : apartB (seenC t d) = true :=
  apart_by (apart_ctxOf (dots_right h)) (apart_ctxOf fun y hy => by simp at hy; subst hy; exact hd) 0
/-- One entry alone. -/
abbrev tOne (e : En) : Tr := .mk [e] []
theorem tOne_mem {e : En} {x : Lf} : x ∈ (tOne e).lvs [] ↔ x = ([], e) := by simp [Tr.lvs, Tr.lvsL]
theorem tOne_ord (e : En) : (tOne e).Ord := Ord.mk' (List.pairwise_singleton _ _) .nil fun _ _ h => by cases h
theorem tOne_ok {e : En} {c : List Sp} (he : e.right = true) (hc : apartB c = true) (hh : hasC c e.dot = true) : CaOk (tOne e) c :=
  ⟨tOne_ord e, fun x hx => by rw [tOne_mem.1 hx]; exact ⟨by simp, by simp, he⟩, hc, fun x hx => by rw [tOne_mem.1 hx]; exact hh⟩
theorem nil_ok {c : List Sp} (hc : apartB c = true) : CaOk (.mk [] []) c := ⟨ord_nil, fun x h => by simp [Tr.lvs, Tr.lvsL] at h, hc, fun x h => by simp [Tr.lvs, Tr.lvsL] at h⟩
theorem stE_one (e : En) (p : List ByteArray) (d : Dt) : stE (tOne e) p d = if p = [] ∧ d = e.dot then some e else none := by
  split
  · rename_i h
    obtain ⟨rfl, rfl⟩ := h
    exact (stE_some (tOne_ord e)).2 ⟨tOne_mem.2 rfl, rfl⟩
  · rename_i h
    refine (stE_none (tOne_ord e)).2 fun y hy hd => h ?_
    have := tOne_mem.1 hy
    cases this
    exact ⟨rfl, hd.symm⟩
theorem stE_nil (p : List ByteArray) (d : Dt) : stE (.mk [] []) p d = none := by simp [stE, Tr.lvs, Tr.lvsL]
theorem stE_dots {t : Tr} (h : t.Ord) {p : List ByteArray} {d : Dt} {e : En} (hs : stE t p d = some e) : d ∈ t.dots := by
  obtain ⟨h1, h2⟩ := (stE_some h).1 hs
  exact (mem_dots t d).2 ⟨p, e, h1, h2⟩
theorem stE_out {t : Tr} (h : t.Ord) {p : List ByteArray} {d : Dt} (hd : d ∉ t.dots) : stE t p d = none := by
  cases hs : stE t p d with
  | none => rfl
  | some e => exact absurd (stE_dots h hs) hd
theorem st_ext {s t : Tr} (h : s.Ord) (k : t.Ord) (hl : ∀ p x, stE s p x = stE t p x) : s = t :=
  ord_ext s t h k fun ⟨p, e⟩ => by
    have h1 := @stE_some s h p e.dot e
    have h2 := @stE_some t k p e.dot e
    rw [hl] at h1
    simp only [and_true] at h1 h2
    exact h1.symm.trans h2
theorem seen_hasB {t : Tr} {d x : Dt} (h : t.right 5 = true) (hd : d.right = true) : hasC (seenC t d) x = (decide (x ∈ t.dots) || decide (x = d)) := by
  rw [Bool.eq_iff_iff, seen_has h hd]; simp
theorem kn_hasB {t : Tr} {x : Dt} (h : t.right 5 = true) : hasC (knC t) x = decide (x ∈ t.dots) := by
  rw [Bool.eq_iff_iff, hasC_dots h]; simp
/-- What was seen, with an entry put, joined to what is known: the entry alone. -/
theorem turn_on {t : Tr} {e : En} (h : chkT t e.dot = true) (he : e.right = true) : CaOk (tOne e) (seenC t e.dot) ∧ jT t (tOne e) (knC t) (seenC t e.dot) = tOne e := by
  obtain ⟨h1, h2, h3⟩ := chkT_dots h
  have hk := known_ok h1
  have ho : CaOk (tOne e) (seenC t e.dot) := tOne_ok he (seen_apart h1 h2) ((seen_has h1 h2).2 (.inr rfl))
  refine ⟨ho, st_ext (jT_ok hk ho).ord (tOne_ord e) fun p x => ?_⟩
  rw [stE_join hk ho, stE_one, seen_hasB h1 h2, kn_hasB h1]
  by_cases hx : p = [] ∧ x = e.dot
  · obtain ⟨rfl, rfl⟩ := hx
    rw [stE_out hk.ord h3]; simp [jnO, h3]
  · rw [if_neg hx]
    cases hs : stE t p x with
    | none => simp [jnO]
    | some y => simp [jnO, stE_dots hk.ord hs]
theorem turn_off {t : Tr} {d : Dt} (h : chkT t d = true) : CaOk (.mk [] []) (seenC t d) ∧ jT (.mk [] []) t (seenC t d) (knC t) = .mk [] [] := by
  obtain ⟨h1, h2, h3⟩ := chkT_dots h
  have hk := known_ok h1
  have ho : CaOk (.mk [] []) (seenC t d) := nil_ok (seen_apart h1 h2)
  refine ⟨ho, st_ext (jT_ok ho hk).ord ord_nil fun p x => ?_⟩
  rw [stE_join ho hk, stE_nil, seen_hasB h1 h2]
  cases hs : stE t p x with
  | none => simp [jnO]
  | some y => simp [jnO, stE_dots hk.ord hs]
theorem dot_en_right {d : Dt} (h : d.right = true) : (⟨d.dc, d.n, ByteArray.empty, 0⟩ : En).right = true := by
  unfold En.right En.dot; simp [h]
theorem onB_one {e : En} (he : e.right = true) : onB (tOne e) = true := by
  have : (tOne e).right 5 = true := right_of_leaf _ 5 (by omega) (tOne_ord e) fun x hx => by rw [tOne_mem.1 hx]; exact ⟨by simp, by simp, he⟩
  unfold onB
  rw [this]; rfl
theorem onB_nil : onB (.mk [] []) = false := by unfold onB; simp [Tr.es]
end Go.Proofs.YtkjijbogbelilaaGreat

namespace Go.Proofs.YtkjijbogbelilaaGreat
open Go.RowKit
set_option maxRecDepth 100000

/-- A box of three cells that holds what is known, in a world come of V above m. -/
def Box3 (m : Nat) (V : World) (e : TypeId) (T : Tr) (c : List Sp) (s : Value) (wx : World) : Prop :=
  ∃ g u v x, s = .pointer (some ⟨g, 0, none⟩) ∧ wx.heap[g]? = some (.cells #[u, v, x] e (0, 0)) ∧ T.rd wx wx.heap.size u v ∧ SlP wx wx.heap.size 3 SpE x c ∧ Below m V wx
theorem box_new {m N : Nat} {V w7 : World} {e : TypeId} {T : Tr} {c : List Sp} {u v x : Value} (hb : Below m V w7) (hm : m ≤ w7.heap.size) (hr : T.rda w7 (fun b => N ≤ b ∧ b < w7.heap.size) u v) (hc : SlA w7 (fun b => N ≤ b ∧ b < w7.heap.size) 3 SpE x c) :
    Box3 m V e T c (.pointer (some ⟨w7.heap.size, 0, none⟩)) (w7.alloc (.cells #[u, v, x] e)) := by
  have h1 : Below w7.heap.size w7 (w7.alloc (.cells #[u, v, x] e)) := (Below.refl _ _).alloc (Nat.le_refl _) _
  exact ⟨w7.heap.size, u, v, x, rfl, heap_new rfl, rda_rd hr (fun b hb => hb.2) h1, hc.slp (fun b hb => hb.2) h1, hb.alloc hm _⟩
theorem box_set {m N g : Nat} {V w7 : World} {e : TypeId} {T : Tr} {c : List Sp} {u v x a b d : Value} (hbx : w7.heap[g]? = some (.cells #[a, b, d] e (0, 0))) (hb : Below m V w7) (hg : m ≤ g) (hgN : g < N) (hr : T.rda w7 (fun b => N ≤ b ∧ b < w7.heap.size) u v) (hc : SlA w7 (fun b => N ≤ b ∧ b < w7.heap.size) 3 SpE x c) :
    Box3 m V e T c (.pointer (some ⟨g, 0, none⟩)) (((w7.setCell ⟨g, 0, none⟩ u).setCell ⟨g, 1, none⟩ v).setCell ⟨g, 2, none⟩ x) := by
  obtain ⟨_, _, _, hK, hS⟩ := box3 hbx u v x
  have hW := cells_set (i := 2) (cells_set (i := 1) (cells_set (i := 0) hbx u) v) x
  refine ⟨g, u, v, x, rfl, by simpa using hW, rda_rd (rda_up (fun b hb => hK b (by omega)) (fun b hb => by rw [hS]; exact hb.2) _ _ _ hr) (fun _ h => h) (Below.refl _ _), ?_, ((hb.setCell hg _).setCell hg _).setCell hg _⟩
  exact (hc.up (ok' := fun b => b < (((w7.setCell ⟨g, 0, none⟩ u).setCell ⟨g, 1, none⟩ v).setCell ⟨g, 2, none⟩ x).heap.size) (fun b hb => hK b (by omega)) (fun b hb => by rw [hS]; exact hb.2) (fun _ _ _ h => h)).slp (fun _ h => h) (Below.refl _ _)
theorem z_new {w1 w7 : World} {a : Array Value} {e : TypeId} (hb : Below (w1.alloc (.cells a e (0, 0))).heap.size (w1.alloc (.cells a e (0, 0))) w7) : w7.heap[w1.heap.size]? = some (.cells a e (0, 0)) := (hb.block _ (by simp)).trans (heap_new rfl)
theorem z_new2 {w1 w7 : World} {o : Obj} {a : Array Value} {e : TypeId} (hb : Below ((w1.alloc o).alloc (.cells a e (0, 0))).heap.size ((w1.alloc o).alloc (.cells a e (0, 0))) w7) : w7.heap[w1.heap.size + 1]? = some (.cells a e (0, 0)) := (hb.block _ (by simp)).trans (heap_new (by simp))
theorem z_newD {w1 w7 : World} {a : Array Value} {e : TypeId} (hb : Below (w1.alloc (.cells a e (0, 0))).drew.heap.size (w1.alloc (.cells a e (0, 0))).drew w7) : w7.heap[w1.heap.size]? = some (.cells a e (0, 0)) := (hb.block _ (by simp)).trans (heap_new (w := w1) rfl)
theorem z_new2D {w1 w7 : World} {o : Obj} {a : Array Value} {e : TypeId} (hb : Below ((w1.alloc o).alloc (.cells a e (0, 0))).drew.heap.size ((w1.alloc o).alloc (.cells a e (0, 0))).drew w7) : w7.heap[w1.heap.size + 1]? = some (.cells a e (0, 0)) := (hb.block _ (by simp)).trans (heap_new (w := w1.alloc o) (by simp))
end Go.Proofs.YtkjijbogbelilaaGreat

namespace Go.Proofs.YtkjijbogbelilaaGreat
open Go.RowKit
set_option maxRecDepth 100000

/-- What flag.Enable makes. -/
def enT (t : Tr) (d : Dt) : Tr := if chkT t d then .mk [⟨d.dc, d.n, ByteArray.empty, 0⟩] [] else .mk [] []
theorem EnE.mk' {d : Dt} (hd : d.Ok) : EnE (⟨d.dc, d.n, ByteArray.empty, 0⟩ : En) [.int .i64 d.dc, .int .i64 d.n, .string ByteArray.empty, .int .i64 0] := ⟨rfl, En.Ok.mk' hd ⟨by decide, by decide⟩⟩
theorem cell_box3 {w3 : World} {b : Nat} {x0 x1 x2 : Value} {a : Addr} {v : Value} {o : Obj} (hne : b ≠ a.block) (hlt : a.block < w3.heap.size) (h : w3.cell? a = some v) :
    ((((w3.setCell ⟨b, 0, none⟩ x0).setCell ⟨b, 1, none⟩ x1).setCell ⟨b, 2, none⟩ x2).alloc o).cell? a = some v := by
  rw [World.cell?_alloc_lt _ _ _ (by simpa using hlt), World.cell?_setCell_far _ _ _ _ hne, World.cell?_setCell_far _ _ _ _ hne, World.cell?_setCell_far _ _ _ _ hne]; exact h
set_option maxHeartbeats 4000000 in
theorem fenable_any (t : Tr) (d : Dt) (ve vk : Value) (w : World) (h : t.rd w w.heap.size ve vk) (hN : t.sz ≤ 4000) (hd : d.Ok) :
    Calls Tryz.prog 45 #[.agg #[ve, vk], .agg #[.int .i64 d.dc, .int .i64 d.n]] w (RetCE w (enT t d) (disC t d) (chkI t d)) := by
  have HC : Hid (∀ w', Below w.heap.size w w' → t.rd w' w'.heap.size ve vk) := fun w' hb => rd_below hb hb.size _ _ _ h
  obtain ⟨A3, n3, A4, n4, rfl, rfl⟩ := rd_shape h
  have hb0 := (((Below.refl w.heap.size w).alloc (Nat.le_refl _) (.cells #[.slice A3 t.es.length n3, .slice A4 t.ks.length n4] 25)).alloc (by simp) (.cells #[.int .i64 d.dc, .int .i64 d.n] 42)).alloc (by simp; omega) (.cells #[.slice none 0 0, .slice none 0 0, .slice none 0 0] 29)
  clear h
  go_enter Tryz.func45, Tryz.ntmps45
  go_wp2_with fail
  refine (fcheck_any t d _ _ _ (HC.out _ hb0) (by omega)).mono ?_
  rintro e w1 ⟨rfl, hb1⟩
  have hs1 := hb1.size
  simp only [World.size_alloc] at hs1
  have hB1 : Below w.heap.size w w1 := hb0.trans (hb1.mono (by simp; omega))
  have c0 : w1.cell? ⟨w.heap.size, 0, none⟩ = some (.slice A3 t.es.length n3) := by
    rw [hb1.cell (p := ⟨w.heap.size, 0, none⟩) (by simp; omega)]
    rw [World.cell?_alloc_lt _ _ _ (by simp; omega), World.cell?_alloc_lt _ _ _ (by simp)]; simp
  have c1 : w1.cell? ⟨w.heap.size, 1, none⟩ = some (.slice A4 t.ks.length n4) := by
    rw [hb1.cell (p := ⟨w.heap.size, 1, none⟩) (by simp; omega)]
    rw [World.cell?_alloc_lt _ _ _ (by simp; omega), World.cell?_alloc_lt _ _ _ (by simp)]; simp
  have d0 : w1.cell? ⟨w.heap.size + 1, 0, none⟩ = some (.int .i64 d.dc) := by rw [hb1.cell (p := ⟨w.heap.size + 1, 0, none⟩) (by simp), World.cell?_alloc_lt _ _ _ (by simp)]; simp
  have d1 : w1.cell? ⟨w.heap.size + 1, 1, none⟩ = some (.int .i64 d.n) := by rw [hb1.cell (p := ⟨w.heap.size + 1, 1, none⟩) (by simp), World.cell?_alloc_lt _ _ _ (by simp)]; simp
  have hg : w1.heap[w.heap.size + 2]? = some (.cells #[.slice none 0 0, .slice none 0 0, .slice none 0 0] 29 (0, 0)) := (hb1.block (w.heap.size + 2) (by simp)).trans (heap_new (by simp))
  have HG := hid hg
  have k0 : w1.cell? ⟨w.heap.size + 2, 0, none⟩ = some (.slice none 0 0) := cell_cells (i := 0) hg
  have k1 : w1.cell? ⟨w.heap.size + 2, 1, none⟩ = some (.slice none 0 0) := cell_cells (i := 1) hg
  have k2 : w1.cell? ⟨w.heap.size + 2, 2, none⟩ = some (.slice none 0 0) := cell_cells (i := 2) hg
  have z0 := cells_frz (i := 0) hg
  have z1 := cells_frz (i := 1) hg
  have z2 := cells_frz (i := 2) hg
  clear hg hb1
  cases hc : chkT t d
  · have HE : Hid (chkI t d = 1) := by unfold Hid chkI; rw [hc]; rfl
    have HD : Hid (disC t d = []) := by unfold Hid disC; rw [hc]; rfl
    have HT : Hid (enT t d = .mk [] []) := by unfold Hid enT; rw [hc]; rfl
    rw [HE.out]
    clear hc
    go_wp2_with fail
    obtain ⟨r0, r1, r2, hK, hS⟩ := box3 HG.out (.slice none 0 0) (.slice none 0 0) (.slice none 0 0)
    have hBW := ((hB1.setCell (p := ⟨w.heap.size + 2, 0, none⟩) (by simp) (.slice none 0 0)).setCell (p := ⟨w.heap.size + 2, 1, none⟩) (by simp) (.slice none 0 0)).setCell (p := ⟨w.heap.size + 2, 2, none⟩) (by simp) (.slice none 0 0)
    refine bodyPost_ret (v := .tuple #[.agg #[.slice none 0 0, .slice none 0 0, .slice none 0 0], .int .i64 1]) (by simp [results, Tryz.results45, go_sem, r0, r1, r2]) rfl ⟨_, _, _, by rw [HE.out], ?_, ?_, hBW⟩
    · rw [HT.out]; exact rda_nil _ _
    · rw [HD.out]; exact SlA.nil
  · have HE : Hid (chkI t d = 0) := by unfold Hid chkI; rw [hc]; rfl
    have HD : Hid (disC t d = seenC t d) := by unfold Hid disC; rw [hc]; rfl
    have HT : Hid (enT t d = .mk [⟨d.dc, d.n, ByteArray.empty, 0⟩] []) := by unfold Hid enT; rw [hc]; rfl
    have HDR := hid (chkT_right hc)
    have HTR := hid (chkT_tree hc)
    have hsc := seenC_len t d
    have HK : Hid (∀ w', Below w1.heap.size w1 w' → w'.cell? ⟨w.heap.size + 1, 0, none⟩ = some (.int .i64 d.dc) ∧ w'.cell? ⟨w.heap.size + 1, 1, none⟩ = some (.int .i64 d.n) ∧ w'.cell? ⟨w.heap.size, 0, none⟩ = some (.slice A3 t.es.length n3) ∧ w'.cell? ⟨w.heap.size, 1, none⟩ = some (.slice A4 t.ks.length n4)) := fun w' hb =>
      ⟨(hb.cell (p := ⟨w.heap.size + 1, 0, none⟩) (by show w.heap.size + 1 < _; omega)).trans d0, (hb.cell (p := ⟨w.heap.size + 1, 1, none⟩) (by show w.heap.size + 1 < _; omega)).trans d1, (hb.cell (p := ⟨w.heap.size, 0, none⟩) (by show w.heap.size < _; omega)).trans c0, (hb.cell (p := ⟨w.heap.size, 1, none⟩) (by show w.heap.size < _; omega)).trans c1⟩
    rw [HE.out]
    have hne5 : w.heap.size + 1 + 1 ≠ w.heap.size := by omega
    have hne6 : w.heap.size ≠ w.heap.size + 1 + 1 := by omega
    clear hc k0 k1 k2 z0 z1 z2
    go_upto_region 4 with (fail)
    go_region_held3 (fun w' => w'.cell? ⟨w.heap.size + 1, 0, none⟩ = some (.int .i64 d.dc) ∧ w'.cell? ⟨w.heap.size + 1, 1, none⟩ = some (.int .i64 d.n) ∧ w'.cell? ⟨w.heap.size, 0, none⟩ = some (.slice A3 t.es.length n3) ∧ w'.cell? ⟨w.heap.size, 1, none⟩ = some (.slice A4 t.ks.length n4))
      (first | go_keep | exact HK.out _ hbx.out | exact ⟨cell_box3 (by simp) (by show w.heap.size + 1 < _; omega) (HK.out _ hbx.out).1, cell_box3 (by simp) (by show w.heap.size + 1 < _; omega) (HK.out _ hbx.out).2.1, cell_box3 (by show w.heap.size + 1 + 1 ≠ w.heap.size; omega) (by show w.heap.size < _; omega) (HK.out _ hbx.out).2.2.1, cell_box3 (by show w.heap.size + 1 + 1 ≠ w.heap.size; omega) (by show w.heap.size < _; omega) (HK.out _ hbx.out).2.2.2⟩)
      (first | (go_at_call 105; go_loud ((refine (seen_any t d _ _ _ (HC.out _ (by first | exact hB1.drew | exact (hB1.alloc (by omega) _).drew | exact hB1.drew.alloc (by show w.heap.size ≤ w1.heap.size; omega) _)) hN HTR.out HDR.out hd).mono ?_); rintro e w3 ⟨v3, rfl, ho3, hb3⟩; obtain ⟨A5, c5, hv3⟩ := ho3.shape; subst hv3; have HO3 := hid ho3; have HB3 := hid hb3; have hbx : Hid (Below w1.heap.size w1 w3) := (by first | exact ((Below.refl _ w1).drew).trans hb3 | exact (((Below.refl _ w1).alloc (Nat.le_refl _) _).drew).trans (hb3.mono (Nat.le_of_lt (by simp))) | exact (((Below.refl _ w1).drew).alloc (Nat.le_refl _) _).trans (hb3.mono (Nat.le_of_lt (by simp)))); have hs3 := hbx.out.size; have HG3 := hid ((hbx.out.block (w.heap.size + 2) (by omega)).trans HG.out); have k0 : w3.cell? ⟨w.heap.size + 2, 0, none⟩ = some (.slice none 0 0) := cell_cells (i := 0) HG3.out; have k1 : w3.cell? ⟨w.heap.size + 2, 1, none⟩ = some (.slice none 0 0) := cell_cells (i := 1) HG3.out; have k2 : w3.cell? ⟨w.heap.size + 2, 2, none⟩ = some (.slice none 0 0) := cell_cells (i := 2) HG3.out; have z0 := cells_frz (i := 0) HG3.out; have z1 := cells_frz (i := 1) HG3.out; have z2 := cells_frz (i := 2) HG3.out; have hlt3 : w.heap.size + 2 < w3.heap.size := (by omega); have hne3 : w.heap.size + 2 ≠ w3.heap.size := (by omega); clear ho3 hb3)))
    all_goals go_wp2_with fail
    · have hE3 : w3.heap[w1.heap.size]? = some (.cells #[.int .i64 d.dc, .int .i64 d.n, .string ⟨#[]⟩, .int .i64 0] 63 (0, 0)) := (HB3.out.block w1.heap.size (by simp)).trans (heap_new rfl)
      obtain ⟨r0, r1, r2, hK, hS⟩ := box3 HG3.out (.slice (some ⟨w1.heap.size, 0, none⟩) 1 1) (.slice none 0 0) (.slice A5 (seenC t d).length c5)
      have hBW : Below w.heap.size w (((w3.setCell ⟨w.heap.size + 2, 0, none⟩ (.slice (some ⟨w1.heap.size, 0, none⟩) 1 1)).setCell ⟨w.heap.size + 2, 1, none⟩ (.slice none 0 0)).setCell ⟨w.heap.size + 2, 2, none⟩ (.slice A5 (seenC t d).length c5)) := (((hB1.trans (hbx.out.mono (by omega))).setCell (by simp) _).setCell (by simp) _).setCell (by simp) _
      clear k0 k1 k2 z0 z1 z2
      generalize (((w3.setCell ⟨w.heap.size + 2, 0, none⟩ (.slice (some ⟨w1.heap.size, 0, none⟩) 1 1)).setCell ⟨w.heap.size + 2, 1, none⟩ (.slice none 0 0)).setCell ⟨w.heap.size + 2, 2, none⟩ (.slice A5 (seenC t d).length c5)) = W at *
      refine bodyPost_ret (v := .tuple #[.agg #[.slice (some ⟨w1.heap.size, 0, none⟩) 1 1, .slice none 0 0, .slice A5 (seenC t d).length c5], .int .i64 0]) (by simp [results, Tryz.results45, go_sem, r0, r1, r2]) rfl ⟨_, _, _, by rw [HE.out], ?_, ?_, hBW⟩
      · rw [HT.out, rda_iff]
        refine ⟨?_, SlA.nil⟩
        exact SlA.one (x := (⟨d.dc, d.n, ByteArray.empty, 0⟩ : En)) (cs := [.int .i64 d.dc, .int .i64 d.n, .string ByteArray.empty, .int .i64 0]) (e := 63) (z := (0, 0)) ⟨rfl, En.Ok.mk' hd ⟨by decide, by decide⟩⟩ rfl ((hK _ (by omega)).trans hE3) ⟨by omega, by have := HB3.out.size; simp at this; omega⟩
      · rw [HD.out]
        refine (HO3.out.sla (by unfold Big; omega)).up (fun b hb => hK b (by have := hb.1; simp only [World.size_alloc, World.size_drew] at this; omega)) (fun b hb => ⟨by have := hb.1; simp only [World.size_alloc, World.size_drew] at this; omega, by have := hb.2.1; omega⟩) (fun _ _ _ h => h)
    · obtain ⟨r0, r1, r2, hK, hS⟩ := box3 HG3.out (.slice (some ⟨w3.heap.size, 0, none⟩) 1 1) (.slice none 0 0) (.slice A5 (seenC t d).length c5)
      have hBW : Below w.heap.size w (((w3.setCell ⟨w.heap.size + 2, 0, none⟩ (.slice (some ⟨w3.heap.size, 0, none⟩) 1 1)).setCell ⟨w.heap.size + 2, 1, none⟩ (.slice none 0 0)).setCell ⟨w.heap.size + 2, 2, none⟩ (.slice A5 (seenC t d).length c5)) := (((hB1.trans (hbx.out.mono (by omega))).setCell (by simp) _).setCell (by simp) _).setCell (by simp) _
      clear k0 k1 k2 z0 z1 z2
      generalize (((w3.setCell ⟨w.heap.size + 2, 0, none⟩ (.slice (some ⟨w3.heap.size, 0, none⟩) 1 1)).setCell ⟨w.heap.size + 2, 1, none⟩ (.slice none 0 0)).setCell ⟨w.heap.size + 2, 2, none⟩ (.slice A5 (seenC t d).length c5)) = W at *
      have q0 : (W.alloc (.cells #[.int .i64 d.dc, .int .i64 d.n, .string ⟨#[]⟩, .int .i64 0] 63)).cell? ⟨w.heap.size + 1 + 1, 0, none⟩ = some (.slice (some ⟨w3.heap.size, 0, none⟩) 1 1) := by rw [World.cell?_alloc_lt _ _ _ (by show w.heap.size + 2 < _; omega)]; exact r0
      have q1 : (W.alloc (.cells #[.int .i64 d.dc, .int .i64 d.n, .string ⟨#[]⟩, .int .i64 0] 63)).cell? ⟨w.heap.size + 1 + 1, 1, none⟩ = some (.slice none 0 0) := by rw [World.cell?_alloc_lt _ _ _ (by show w.heap.size + 2 < _; omega)]; exact r1
      have q2 : (W.alloc (.cells #[.int .i64 d.dc, .int .i64 d.n, .string ⟨#[]⟩, .int .i64 0] 63)).cell? ⟨w.heap.size + 1 + 1, 2, none⟩ = some (.slice A5 (seenC t d).length c5) := by rw [World.cell?_alloc_lt _ _ _ (by show w.heap.size + 2 < _; omega)]; exact r2
      refine bodyPost_ret (v := .tuple #[.agg #[.slice (some ⟨w3.heap.size, 0, none⟩) 1 1, .slice none 0 0, .slice A5 (seenC t d).length c5], .int .i64 0]) (by simp [results, Tryz.results45, go_sem, q0, q1, q2]) rfl ⟨_, _, _, by rw [HE.out], ?_, ?_, hBW.alloc (by omega) _⟩
      · rw [HT.out, rda_iff]
        refine ⟨?_, SlA.nil⟩
        exact SlA.one (x := (⟨d.dc, d.n, ByteArray.empty, 0⟩ : En)) (cs := [.int .i64 d.dc, .int .i64 d.n, .string ByteArray.empty, .int .i64 0]) (e := 63) (z := (0, 0)) ⟨rfl, En.Ok.mk' hd ⟨by decide, by decide⟩⟩ rfl (heap_new hS.symm) ⟨by omega, by rw [World.size_alloc]; omega⟩
      · rw [HD.out]
        refine (HO3.out.sla (by unfold Big; omega)).up (fun b hb => (heap_old (by have := hb.2.1; omega)).trans (hK b (by have := hb.1; simp only [World.size_drew] at this; omega))) (fun b hb => ⟨by have := hb.1; simp only [World.size_drew] at this; omega, by rw [World.size_alloc]; have := hb.2.1; omega⟩) (fun _ _ _ h => h)
end Go.Proofs.YtkjijbogbelilaaGreat

namespace Go.Proofs.YtkjijbogbelilaaGreat
open Go.RowKit
set_option maxRecDepth 100000

theorem awk10_E : chkI (.mk [] []) ⟨1, 1⟩ = 0 := by kernel_rfl
set_option maxHeartbeats 4000000 in
theorem awake10_any (w : World) : Calls Tryz.prog 42 #[] w fun e w' => e = .returned (.bool true) ∧ Below w.heap.size w w' := by
  have hb0 := (Below.refl w.heap.size w).alloc (Nat.le_refl _) (.cells #[.int .i64 1, .int .i64 1] 42)
  go_enter Tryz.func42, Tryz.ntmps42
  go_wp2_with fail
  refine (fenable_any (.mk [] []) ⟨1, 1⟩ _ _ _ rd_empty (by simp [Tr.sz, Tr.szL]) ⟨⟨by decide, by decide⟩, ⟨by decide, by decide⟩⟩).mono ?_
  rintro e w1 ⟨ve, vk, vc, rfl, hrd, hsc, hb1⟩
  rw [awk10_E]
  have hv : onB (enT (.mk [] []) ⟨1, 1⟩) = true := by kernel_rfl
  have HV := hid hv
  clear hv
  have ht1 : chkT (.mk [] []) ⟨1, 1⟩ = true := by kernel_rfl
  have HT1 : Hid (enT (.mk [] []) ⟨1, 1⟩ = .mk [⟨1, 1, ByteArray.empty, 0⟩] []) := by unfold Hid enT; rw [ht1]; rfl
  clear ht1
  have hc1 : disC (.mk [] []) ⟨1, 1⟩ = ctxOf [⟨1, 1⟩] := by kernel_rfl
  have HC1 := hid hc1
  clear hc1
  generalize enT (.mk [] []) ⟨1, 1⟩ = T at *
  generalize disC (.mk [] []) ⟨1, 1⟩ = C at *
  obtain ⟨Ae, ne, Ak, nk, rfl, rfl⟩ := rda_shape hrd
  obtain ⟨Ac, nc, rfl⟩ := hsc.shape
  have hs1 := hb1.size
  simp only [World.size_alloc] at hs1
  have hB1 : Below w.heap.size w w1 := hb0.trans (hb1.mono (by simp))
  have d0 : w1.cell? ⟨w.heap.size, 0, none⟩ = some (.int .i64 1) := by rw [hb1.cell (p := ⟨w.heap.size, 0, none⟩) (by simp)]; simp
  have d1 : w1.cell? ⟨w.heap.size, 1, none⟩ = some (.int .i64 1) := by rw [hb1.cell (p := ⟨w.heap.size, 1, none⟩) (by simp)]; simp
  have HT : Hid (∀ w', Below w1.heap.size w1 w' → T.rd w' w'.heap.size (.slice Ae T.es.length ne) (.slice Ak T.ks.length nk)) := fun w' hb => rda_rd hrd (fun b hb => hb.2) hb
  have HCt : Hid (∀ w', Below w1.heap.size w1 w' → SlP w' w'.heap.size 3 SpE (.slice Ac C.length nc) C) := fun w' hb => hsc.slp (fun b hb => hb.2) hb
  have HSM : Hid ((trEq T (buildL [([], ⟨1, 1, ByteArray.empty, 0⟩)]) && decide (C = ctxBy [] [⟨1, 1, 1⟩] 0)) = true) := by
    unfold Hid
    rw [HT1.out, HC1.out, build_one_leaf, put_ctx (d := ⟨1, 1⟩) (by decide)]
    simp [trEq]
  have HB : Hid (∀ w', Below (w1.heap.size + 1) (w1.alloc (.cells #[.slice Ae T.es.length ne, .slice Ak T.ks.length nk, .slice Ac C.length nc] 29)) w' → Below w.heap.size w w' ∧ Below w1.heap.size w1 w' ∧ (w'.cell? ⟨w.heap.size, 0, none⟩ = some (.int .i64 1) ∧ w'.cell? ⟨w.heap.size, 1, none⟩ = some (.int .i64 1) ∧ w'.cell? ⟨w1.heap.size, 0, none⟩ = some (.slice Ae T.es.length ne) ∧ w'.cell? ⟨w1.heap.size, 1, none⟩ = some (.slice Ak T.ks.length nk) ∧ w'.cell? ⟨w1.heap.size, 2, none⟩ = some (.slice Ac C.length nc))) := fun w' hb => by
    have hB : Below w1.heap.size w1 w' := ((Below.refl _ w1).alloc (Nat.le_refl _) _).trans (hb.mono (by omega))
    refine ⟨hB1.trans (hB.mono (by omega)), hB, ?_, ?_, ?_, ?_, ?_⟩
    · rw [hB.cell (p := ⟨w.heap.size, 0, none⟩) (by show w.heap.size < _; omega)]; exact d0
    · rw [hB.cell (p := ⟨w.heap.size, 1, none⟩) (by show w.heap.size < _; omega)]; exact d1
    · rw [hb.cell (p := ⟨w1.heap.size, 0, none⟩) (by simp), World.cell?_alloc_new]; rfl
    · rw [hb.cell (p := ⟨w1.heap.size, 1, none⟩) (by simp), World.cell?_alloc_new]; rfl
    · rw [hb.cell (p := ⟨w1.heap.size, 2, none⟩) (by simp), World.cell?_alloc_new]; rfl
  have hne1 : w.heap.size < w1.heap.size := by omega
  clear hrd hsc
  go_upto_region 3 with (fail)
  go_region_held3 (fun w' => w'.cell? ⟨w.heap.size, 0, none⟩ = some (.int .i64 1) ∧ w'.cell? ⟨w.heap.size, 1, none⟩ = some (.int .i64 1) ∧ w'.cell? ⟨w1.heap.size, 0, none⟩ = some (.slice Ae T.es.length ne) ∧ w'.cell? ⟨w1.heap.size, 1, none⟩ = some (.slice Ak T.ks.length nk) ∧ w'.cell? ⟨w1.heap.size, 2, none⟩ = some (.slice Ac C.length nc))
    (first | go_keep | exact (HB.out _ hb4.out).2.2 | exact (HB.out _ hb3.out).2.2 | exact (HB.out _ hb2.out).2.2)
    (first | (go_at_call 48; go_loud ((refine (fon_any T _ _ _ (HT.out _ (((Below.refl _ w1).alloc (Nat.le_refl _) _).drew))).mono ?_); rw [HV.out]; rintro e w2 ⟨rfl, hb⟩; have hb2 := hid (((Below.refl (w1.heap.size + 1) (w1.alloc (.cells #[.slice Ae T.es.length ne, .slice Ak T.ks.length nk, .slice Ac C.length nc] 29))).drew).trans (hb.mono (by simp)))))
           | (go_at_call 83; go_loud ((refine (r10put_any [] ⟨1, 1, ByteArray.empty, 0⟩ [] _ _ w2 ⟨⟨by decide, by decide⟩, ⟨by decide, by decide⟩, ⟨by decide, by decide⟩, by simp [Big]⟩ SlP.nil SlP.nil (by simp) (fun _ h => by cases h) (fun s hs => by simp at hs; subst hs; decide)).mono ?_); rintro e w3 ⟨ve3, vk3, vc3, rfl, hrd3, hsc3, hb⟩; obtain ⟨A5, n5, A6, n6, hv5, hv6⟩ := rda_shape hrd3; subst hv5; subst hv6; obtain ⟨A7, n7, hv7⟩ := hsc3.shape; subst hv7; have hrd4 := hid (rda_rd hrd3 (fun b hb => hb.2) (Below.refl _ _)); have hsc4 := hid (hsc3.slp (fun b hb => hb.2) (Below.refl _ _)); clear hrd3 hsc3; have hb3 := hid (hb2.out.trans (hb.mono (by have := hb2.out.size; simpa using this)))))
           | (go_at_call 27; go_loud ((refine (r09same_any T _ C _ _ _ _ _ _ _ w3 (HT.out _ (HB.out _ hb3.out).2.1) hrd4.out (HCt.out _ (HB.out _ hb3.out).2.1) hsc4.out).mono ?_); rw [HSM.out]; rintro e w4 ⟨rfl, hb⟩; have hb4 := hid (hb3.out.trans (hb.mono (by have := hb3.out.size; simpa using this))))))
  go_wp2_with fail
  go_ret
  exact ⟨rfl, (HB.out _ hb4.out).1⟩
end Go.Proofs.YtkjijbogbelilaaGreat

namespace Go.Proofs.YtkjijbogbelilaaGreat
open Go.RowKit
set_option maxRecDepth 100000

theorem small10_any (t : Tr) (w : World) (ve vk : Value) (h : t.rd w w.heap.size ve vk) :
    Calls Tryz.prog 43 #[.agg #[ve, vk]] w fun e w' => e = .returned (.bool (smlB t 40)) ∧ Below w.heap.size w w' := by
  have HC : Hid (∀ w', Below w.heap.size w w' → t.rd w' w'.heap.size ve vk) := fun w' hb => rd_below hb hb.size _ _ _ h
  obtain ⟨A3, n3, A4, n4, rfl, rfl⟩ := rd_shape h
  have hb0 := (Below.refl w.heap.size w).alloc (Nat.le_refl _) (.cells #[.slice A3 t.es.length n3, .slice A4 t.ks.length n4] 25)
  clear h
  go_enter Tryz.func43, Tryz.ntmps43
  go_wp2_with fail
  refine (r08small_any t _ _ _ 40 (HC.out _ hb0) (by omega) (by omega)).mono ?_
  rintro e w1 ⟨rfl, hb1⟩
  rw [show decide (0 ≤ t.room 40 8) = smlB t 40 from rfl]
  go_wp2_with fail
  go_ret
  exact ⟨rfl, hb0.trans (hb1.mono (by simp))⟩
end Go.Proofs.YtkjijbogbelilaaGreat

namespace Go.Proofs.YtkjijbogbelilaaGreat
open Go.RowKit
set_option maxRecDepth 100000

theorem ft_plain {t : Tr} {d : Dt} (hc : chkT t d = true) (hz : t.sz ≤ 40) : ∃ (X Y : Tr) (S U V : List Sp), Hid (enT t d = X) ∧ Hid (disC t d = S) ∧ Hid (chkI t d = 0) ∧ Hid (Y = .mk [] []) ∧
    Hid (jnE t X (knC t) S = 0) ∧ Hid (jnT t X (knC t) S = X) ∧ Hid (jnC t X (knC t) S = U) ∧ Hid (jnE Y t S (knC t) = 0) ∧ Hid (jnT Y t S (knC t) = Y) ∧ Hid (jnC Y t S (knC t) = V) ∧
    Hid (onB X = true) ∧ Hid (onB Y = false) ∧ Hid (trEq Y (.mk [] []) = true) ∧ X.sz ≤ 4000 ∧ Y.sz ≤ 4000 ∧ S.length ≤ 20000 ∧ (knC t).length ≤ 20000 ∧ Hid (∀ d ∈ t.dots, 0 ≤ d.n ∧ d.n ≤ 1099511627778) := by
  obtain ⟨g1, g2, g3⟩ := chkT_dots hc
  have hk := known_ok g1
  have he : (⟨d.dc, d.n, ByteArray.empty, 0⟩ : En).right = true := dot_en_right g2
  have hed : (⟨d.dc, d.n, ByteArray.empty, 0⟩ : En).dot = d := rfl
  obtain ⟨p1, p2⟩ := turn_on (e := ⟨d.dc, d.n, ByteArray.empty, 0⟩) (by rw [hed]; exact hc) he
  obtain ⟨q1, q2⟩ := turn_off hc
  rw [hed] at p1 p2
  obtain ⟨j1, j2, j3⟩ := jn_ok hk p1
  obtain ⟨i1, i2, i3⟩ := jn_ok q1 hk
  rw [p2] at j2
  rw [q2] at i2
  have hcl : (knC t).length ≤ 4 * (t.dots.length + 1) := ctxOfK_len t.dots 4
  have hdl := dots_len t
  have hsl := seenC_len t d
  exact ⟨_, .mk [] [], _, _, _, if_pos hc, if_pos hc, if_pos hc, rfl, j1, j2, j3, i1, i2, i3, onB_one he, onB_nil, trEq_iff.2 rfl, by simp [Tr.sz, Tr.szL], by simp [Tr.sz, Tr.szL], by omega, by omega, right_nums g1⟩
set_option maxHeartbeats 8000000 in
theorem lawFT_any (t : Tr) (d : Dt) (w : World) (ve0 vk0 : Value) (h0 : t.rd w w.heap.size ve0 vk0) (h1 : d.Ok) :
    Calls Tryz.prog 12 #[.agg #[ve0, vk0], .agg #[.int .i64 d.dc, .int .i64 d.n]] w fun e w' => e = .returned (.bool true) ∧ Below w.heap.size w w' := by
  have HC0 : Hid (∀ w', Below w.heap.size w w' → t.rd w' w'.heap.size ve0 vk0) := fun w' hb => rd_below hb hb.size _ _ _ h0
  obtain ⟨A0, n0, B0, m0, rfl, rfl⟩ := rd_shape h0
  clear h0
  have HX0 : Hid (∀ W, Below (w.heap.size + 2) ((w.alloc (.cells #[.slice A0 t.es.length n0, .slice B0 t.ks.length m0] 25)).alloc (.cells #[.int .i64 d.dc, .int .i64 d.n] 42)) W → (Below w.heap.size w W ∧ w.heap.size + 2 ≤ (W).heap.size ∧ t.rd W (W).heap.size (.slice A0 t.es.length n0) (.slice B0 t.ks.length m0) ∧ (W).cell? ⟨w.heap.size, 0, none⟩ = some (.slice A0 t.es.length n0) ∧ (W).cell? ⟨w.heap.size, 1, none⟩ = some (.slice B0 t.ks.length m0) ∧ (W).cell? ⟨(w.heap.size + 1), 0, none⟩ = some (.int .i64 d.dc) ∧ (W).cell? ⟨(w.heap.size + 1), 1, none⟩ = some (.int .i64 d.n))) := fun W hW => by
    have g0 : W.heap[w.heap.size]? = some (.cells #[.slice A0 t.es.length n0, .slice B0 t.ks.length m0] 25 (0, 0)) := (hW.block _ (by omega)).trans ((heap_old (by simp <;> omega)).trans (heap_new rfl))
    have g1 : W.heap[(w.heap.size + 1)]? = some (.cells #[.int .i64 d.dc, .int .i64 d.n] 42 (0, 0)) := (hW.block _ (by omega)).trans (heap_new (by simp))
    have hB : Below w.heap.size w W := (((Below.refl _ w).alloc (Nat.le_refl _) _).alloc (by simp <;> omega) _).trans (hW.mono (by omega))
    exact ⟨hB, by have := hW.size; simpa using this, HC0.out _ hB, cell_cells (i := 0) g0, cell_cells (i := 1) g0, cell_cells (i := 0) g1, cell_cells (i := 1) g1⟩
  have hnb1 : w.heap.size + 1 ≠ w.heap.size := by omega
  go_enter Tryz.func12, Tryz.ntmps12
  go_wp2_with fail
  obtain ⟨hB, hs, rt0, c00, c01, c10, c11⟩ := HX0.out _ (Below.refl _ _)
  refine (awake10_any _).mono ?_
  rintro e w1 ⟨rfl, hb⟩
  have hbk1 : Hid (Below (w.heap.size + 2) ((w.alloc (.cells #[.slice A0 t.es.length n0, .slice B0 t.ks.length m0] 25)).alloc (.cells #[.int .i64 d.dc, .int .i64 d.n] 42)) w1) := hid (hb.mono (by first | omega | (simp; done) | (simp; omega)))
  clear hb
  clear hB hs rt0 c00 c01 c10 c11
  obtain ⟨hB, hs, rt0, c00, c01, c10, c11⟩ := HX0.out _ hbk1.out
  go_wp2_with fail
  refine (small10_any t _ _ _ rt0).mono ?_
  rintro e w2 ⟨rfl, hb⟩
  have hbk2 : Hid (Below (w.heap.size + 2) ((w.alloc (.cells #[.slice A0 t.es.length n0, .slice B0 t.ks.length m0] 25)).alloc (.cells #[.int .i64 d.dc, .int .i64 d.n] 42)) w2) := hid (hbk1.out.trans (hb.mono (by first | omega | (simp; done) | (simp; omega))))
  clear hb
  clear hB hs rt0 c00 c01 c10 c11
  obtain ⟨hB, hs, rt0, c00, c01, c10, c11⟩ := HX0.out _ hbk2.out
  cases hs : smlB t 40
  · clear hs
    go_wp2_with fail
    refine (awake10_any _).mono ?_
    rintro e w3 ⟨rfl, hb⟩
    have hbk3 : Hid (Below (w.heap.size + 2) ((w.alloc (.cells #[.slice A0 t.es.length n0, .slice B0 t.ks.length m0] 25)).alloc (.cells #[.int .i64 d.dc, .int .i64 d.n] 42)) w3) := hid (hbk2.out.trans (hb.mono (by first | omega | (simp; done) | (simp; omega))))
    clear hb
    clear hB hs rt0 c00 c01 c10 c11
    obtain ⟨hB, hs, rt0, c00, c01, c10, c11⟩ := HX0.out _ hbk3.out
    go_wp2_with fail
    go_ret
    exact ⟨rfl, hB⟩
  have hsz : t.sz ≤ 40 := by have := sml_sz hs; omega
  clear hs
  go_wp2_with fail
  refine (r10check_any t d _ _ _ rt0 (by omega)).mono ?_
  rintro e w3 ⟨rfl, hb⟩
  have hbk3 : Hid (Below (w.heap.size + 2) ((w.alloc (.cells #[.slice A0 t.es.length n0, .slice B0 t.ks.length m0] 25)).alloc (.cells #[.int .i64 d.dc, .int .i64 d.n] 42)) w3) := hid (hbk2.out.trans (hb.mono (by first | omega | (simp; done) | (simp; omega))))
  clear hb
  clear hB hs rt0 c00 c01 c10 c11
  obtain ⟨hB, hs, rt0, c00, c01, c10, c11⟩ := HX0.out _ hbk3.out
  cases hc : chkT t d
  · clear hc
    go_wp2_with fail
    refine (awake10_any _).mono ?_
    rintro e w4 ⟨rfl, hb⟩
    have hbk4 : Hid (Below (w.heap.size + 2) ((w.alloc (.cells #[.slice A0 t.es.length n0, .slice B0 t.ks.length m0] 25)).alloc (.cells #[.int .i64 d.dc, .int .i64 d.n] 42)) w4) := hid (hbk3.out.trans (hb.mono (by first | omega | (simp; done) | (simp; omega))))
    clear hb
    clear hB hs rt0 c00 c01 c10 c11
    obtain ⟨hB, hs, rt0, c00, c01, c10, c11⟩ := HX0.out _ hbk4.out
    go_wp2_with fail
    go_ret
    exact ⟨rfl, hB⟩
  obtain ⟨X, Y, S, U, V, HEN, HDI, HCI, HYN, HJE, HJT, HJC, HIE, HIT, HIC, HON, HOF, HYY, hX1, hY1, hS1, hK1, HN⟩ := ft_plain hc hsz
  clear hc
  go_wp2_with fail
  refine (fenable_any t d _ _ _ rt0 (by omega) h1).mono ?_
  rw [HEN.out, HDI.out, HCI.out]
  rintro e w4 ⟨xe4, xk4, xc4, rfl, hrd4, hsl4, hb⟩
  obtain ⟨A4x, n4x, B4x, m4x, rfl, rfl⟩ := rda_shape hrd4
  obtain ⟨D4x, k4x, rfl⟩ := hsl4.shape
  have hbk4 : Hid (Below (w.heap.size + 2) ((w.alloc (.cells #[.slice A0 t.es.length n0, .slice B0 t.ks.length m0] 25)).alloc (.cells #[.int .i64 d.dc, .int .i64 d.n] 42)) w4) := hid (hbk3.out.trans (hb.mono (by first | omega | (simp; done) | (simp; omega))))
  clear hb
  clear hB hs rt0 c00 c01 c10 c11
  obtain ⟨hB, hs, rt0, c00, c01, c10, c11⟩ := HX0.out _ hbk4.out
  have hlt4732 : w.heap.size < w4.heap.size := by omega
  have hne4732 : w.heap.size ≠ w4.heap.size := by omega
  have hlt4998 : (w.heap.size + 1) < w4.heap.size := by omega
  have hne4998 : (w.heap.size + 1) ≠ w4.heap.size := by omega
  have HX1 : Hid (∀ W, Below (w4.heap.size + 1) (w4.alloc (.cells #[.slice A4x X.es.length n4x, .slice B4x X.ks.length m4x, .slice D4x S.length k4x] 29)) W → (w4.heap.size + 1 ≤ (W).heap.size ∧ X.rd W (W).heap.size (.slice A4x X.es.length n4x) (.slice B4x X.ks.length m4x) ∧ SlP W (W).heap.size 3 SpE (.slice D4x S.length k4x) S ∧ (W).cell? ⟨w4.heap.size, 0, none⟩ = some (.slice A4x X.es.length n4x) ∧ (W).cell? ⟨w4.heap.size, 1, none⟩ = some (.slice B4x X.ks.length m4x) ∧ (W).cell? ⟨w4.heap.size, 2, none⟩ = some (.slice D4x S.length k4x) ∧ Below w.heap.size w W ∧ w.heap.size + 2 ≤ (W).heap.size ∧ t.rd W (W).heap.size (.slice A0 t.es.length n0) (.slice B0 t.ks.length m0) ∧ (W).cell? ⟨w.heap.size, 0, none⟩ = some (.slice A0 t.es.length n0) ∧ (W).cell? ⟨w.heap.size, 1, none⟩ = some (.slice B0 t.ks.length m0) ∧ (W).cell? ⟨(w.heap.size + 1), 0, none⟩ = some (.int .i64 d.dc) ∧ (W).cell? ⟨(w.heap.size + 1), 1, none⟩ = some (.int .i64 d.n))) := fun W hW => by
    have g0 := (hW.block w4.heap.size (by omega)).trans (heap_new rfl)
    have hB : Below w4.heap.size w4 W := ((Below.refl _ w4).alloc (Nat.le_refl _) _).trans (hW.mono (by omega))
    exact ⟨by have := hW.size; simpa using this, rda_rd hrd4 (fun b hb => hb.2) hB, hsl4.slp (fun b hb => hb.2) hB, cell_cells (i := 0) g0, cell_cells (i := 1) g0, cell_cells (i := 2) g0, HX0.out W (hbk4.out.trans (hB.mono (by omega)))⟩
  clear hrd4 hsl4
  go_wp2_with fail
  clear hB hs rt0 c00 c01 c10 c11
  obtain ⟨hs_x, rt_x, rc_x, c0_x, c1_x, c2_x, hB, hs, rt0, c00, c01, c10, c11⟩ := HX1.out _ (Below.refl _ _)
  refine (fdisable_any t d _ _ _ rt0 (by omega) h1).mono ?_
  rw [HDI.out, HCI.out, ← HYN.out]
  rintro e w5 ⟨xe5, xk5, xc5, rfl, hrd5, hsl5, hb⟩
  obtain ⟨A5x, n5x, B5x, m5x, rfl, rfl⟩ := rda_shape hrd5
  obtain ⟨D5x, k5x, rfl⟩ := hsl5.shape
  have hbk5 : Hid (Below (w4.heap.size + 1) (w4.alloc (.cells #[.slice A4x X.es.length n4x, .slice B4x X.ks.length m4x, .slice D4x S.length k4x] 29)) w5) := hid (hb.mono (by first | omega | (simp; done) | (simp; omega)))
  clear hb
  clear hs_x rt_x rc_x c0_x c1_x c2_x hB hs rt0 c00 c01 c10 c11
  obtain ⟨hs_x, rt_x, rc_x, c0_x, c1_x, c2_x, hB, hs, rt0, c00, c01, c10, c11⟩ := HX1.out _ hbk5.out
  have hlt5732 : w.heap.size < w5.heap.size := by omega
  have hne5732 : w.heap.size ≠ w5.heap.size := by omega
  have hlt5998 : (w.heap.size + 1) < w5.heap.size := by omega
  have hne5998 : (w.heap.size + 1) ≠ w5.heap.size := by omega
  have hlt5581 : w4.heap.size < w5.heap.size := by omega
  have hne5581 : w4.heap.size ≠ w5.heap.size := by omega
  have HX2 : Hid (∀ W, Below (w5.heap.size + 1) (w5.alloc (.cells #[.slice A5x Y.es.length n5x, .slice B5x Y.ks.length m5x, .slice D5x S.length k5x] 29)) W → (w5.heap.size + 1 ≤ (W).heap.size ∧ Y.rd W (W).heap.size (.slice A5x Y.es.length n5x) (.slice B5x Y.ks.length m5x) ∧ SlP W (W).heap.size 3 SpE (.slice D5x S.length k5x) S ∧ (W).cell? ⟨w5.heap.size, 0, none⟩ = some (.slice A5x Y.es.length n5x) ∧ (W).cell? ⟨w5.heap.size, 1, none⟩ = some (.slice B5x Y.ks.length m5x) ∧ (W).cell? ⟨w5.heap.size, 2, none⟩ = some (.slice D5x S.length k5x) ∧ w4.heap.size + 1 ≤ (W).heap.size ∧ X.rd W (W).heap.size (.slice A4x X.es.length n4x) (.slice B4x X.ks.length m4x) ∧ SlP W (W).heap.size 3 SpE (.slice D4x S.length k4x) S ∧ (W).cell? ⟨w4.heap.size, 0, none⟩ = some (.slice A4x X.es.length n4x) ∧ (W).cell? ⟨w4.heap.size, 1, none⟩ = some (.slice B4x X.ks.length m4x) ∧ (W).cell? ⟨w4.heap.size, 2, none⟩ = some (.slice D4x S.length k4x) ∧ Below w.heap.size w W ∧ w.heap.size + 2 ≤ (W).heap.size ∧ t.rd W (W).heap.size (.slice A0 t.es.length n0) (.slice B0 t.ks.length m0) ∧ (W).cell? ⟨w.heap.size, 0, none⟩ = some (.slice A0 t.es.length n0) ∧ (W).cell? ⟨w.heap.size, 1, none⟩ = some (.slice B0 t.ks.length m0) ∧ (W).cell? ⟨(w.heap.size + 1), 0, none⟩ = some (.int .i64 d.dc) ∧ (W).cell? ⟨(w.heap.size + 1), 1, none⟩ = some (.int .i64 d.n))) := fun W hW => by
    have g0 := (hW.block w5.heap.size (by omega)).trans (heap_new rfl)
    have hB : Below w5.heap.size w5 W := ((Below.refl _ w5).alloc (Nat.le_refl _) _).trans (hW.mono (by omega))
    exact ⟨by have := hW.size; simpa using this, rda_rd hrd5 (fun b hb => hb.2) hB, hsl5.slp (fun b hb => hb.2) hB, cell_cells (i := 0) g0, cell_cells (i := 1) g0, cell_cells (i := 2) g0, HX1.out W (hbk5.out.trans (hB.mono (by omega)))⟩
  clear hrd5 hsl5
  go_upto_region 5 with (fail)
  clear hs_x rt_x rc_x c0_x c1_x c2_x hB hs rt0 c00 c01 c10 c11
  obtain ⟨hs_y, rt_y, rc_y, c0_y, c1_y, c2_y, hs_x, rt_x, rc_x, c0_x, c1_x, c2_x, hB, hs, rt0, c00, c01, c10, c11⟩ := HX2.out _ (Below.refl _ _)
  have HK1 : Hid (∀ W, Below (w5.heap.size + 1) (w5.alloc (.cells #[.slice A5x Y.es.length n5x, .slice B5x Y.ks.length m5x, .slice D5x S.length k5x] 29)) W → ((W).cell? ⟨w4.heap.size, 0, none⟩ = some (.slice A4x X.es.length n4x) ∧ (W).cell? ⟨w4.heap.size, 1, none⟩ = some (.slice B4x X.ks.length m4x) ∧ (W).cell? ⟨w4.heap.size, 2, none⟩ = some (.slice D4x S.length k4x) ∧ (W).cell? ⟨w.heap.size, 0, none⟩ = some (.slice A0 t.es.length n0) ∧ (W).cell? ⟨w.heap.size, 1, none⟩ = some (.slice B0 t.ks.length m0))) := fun W hW => by
    obtain ⟨_, _, _, _, _, _, _, _, _, z_c0_x, z_c1_x, z_c2_x, _, _, _, z_c00, z_c01, _, _⟩ := HX2.out W hW
    exact ⟨z_c0_x, z_c1_x, z_c2_x, z_c00, z_c01⟩
  have Hrt_y_1 : Hid (∀ W, Below (w5.heap.size + 1) (w5.alloc (.cells #[.slice A5x Y.es.length n5x, .slice B5x Y.ks.length m5x, .slice D5x S.length k5x] 29)) W → Y.rd W (W).heap.size (.slice A5x Y.es.length n5x) (.slice B5x Y.ks.length m5x)) := fun W hW => by
    obtain ⟨_, z, _, _, _, _, _, _, _, _, _, _, _, _, _, _, _, _, _⟩ := HX2.out W hW
    exact z
  have Hrc_y_1 : Hid (∀ W, Below (w5.heap.size + 1) (w5.alloc (.cells #[.slice A5x Y.es.length n5x, .slice B5x Y.ks.length m5x, .slice D5x S.length k5x] 29)) W → SlP W (W).heap.size 3 SpE (.slice D5x S.length k5x) S) := fun W hW => by
    obtain ⟨_, _, z, _, _, _, _, _, _, _, _, _, _, _, _, _, _, _, _⟩ := HX2.out W hW
    exact z
  have Hrt_x_1 : Hid (∀ W, Below (w5.heap.size + 1) (w5.alloc (.cells #[.slice A5x Y.es.length n5x, .slice B5x Y.ks.length m5x, .slice D5x S.length k5x] 29)) W → X.rd W (W).heap.size (.slice A4x X.es.length n4x) (.slice B4x X.ks.length m4x)) := fun W hW => by
    obtain ⟨_, _, _, _, _, _, _, z, _, _, _, _, _, _, _, _, _, _, _⟩ := HX2.out W hW
    exact z
  have Hrc_x_1 : Hid (∀ W, Below (w5.heap.size + 1) (w5.alloc (.cells #[.slice A5x Y.es.length n5x, .slice B5x Y.ks.length m5x, .slice D5x S.length k5x] 29)) W → SlP W (W).heap.size 3 SpE (.slice D4x S.length k4x) S) := fun W hW => by
    obtain ⟨_, _, _, _, _, _, _, _, z, _, _, _, _, _, _, _, _, _, _⟩ := HX2.out W hW
    exact z
  have Hrt0_1 : Hid (∀ W, Below (w5.heap.size + 1) (w5.alloc (.cells #[.slice A5x Y.es.length n5x, .slice B5x Y.ks.length m5x, .slice D5x S.length k5x] 29)) W → t.rd W (W).heap.size (.slice A0 t.es.length n0) (.slice B0 t.ks.length m0)) := fun W hW => by
    obtain ⟨_, _, _, _, _, _, _, _, _, _, _, _, _, _, z, _, _, _, _⟩ := HX2.out W hW
    exact z
  have HS_1 : Hid (∀ W, Below (w5.heap.size + 1) (w5.alloc (.cells #[.slice A5x Y.es.length n5x, .slice B5x Y.ks.length m5x, .slice D5x S.length k5x] 29)) W → (w5.heap.size + 1) ≤ W.heap.size) := fun W hW => by
    have := hW.size
    first | omega | (simp at this; omega)
  have hsb1 := HS_1.out _ (Below.refl _ _)
  clear rt_y rc_y c0_y c1_y c2_y rt_x rc_x hB rt0 c10 c11
  go_cut [9, 10] (fun s9 s10 wx => s10 = .int .i64 0 ∧ Box3 (w5.heap.size + 1) (w5.alloc (.cells #[.slice A5x Y.es.length n5x, .slice B5x Y.ks.length m5x, .slice D5x S.length k5x] 29)) 29 X U s9 wx)
  case first =>
    go_region_held3 (fun W => (W).cell? ⟨w4.heap.size, 0, none⟩ = some (.slice A4x X.es.length n4x) ∧ (W).cell? ⟨w4.heap.size, 1, none⟩ = some (.slice B4x X.ks.length m4x) ∧ (W).cell? ⟨w4.heap.size, 2, none⟩ = some (.slice D4x S.length k4x) ∧ (W).cell? ⟨w.heap.size, 0, none⟩ = some (.slice A0 t.es.length n0) ∧ (W).cell? ⟨w.heap.size, 1, none⟩ = some (.slice B0 t.ks.length m0))
      (first | go_keep | exact HK1.out _ hbr7.out | exact HK1.out _ (hbr7.out.trans (by go_grown)) | exact HK1.out _ hbr6.out | exact HK1.out _ (hbr6.out.trans (by go_grown)) | exact HK1.out _ (by go_grown) | fail)
      (first
        | (go_at_call 25; go_loud ((refine (cJoin_any (knC t) S t X _ _ _ _ _ _ _ (Hrt0_1.out _ (hbr6.out.trans (by go_grown))) (Hrt_x_1.out _ (hbr6.out.trans (by go_grown))) (HS6.out.slp (fun b hb => hb.2) (by go_grown)) (Hrc_x_1.out _ (hbr6.out.trans (by go_grown))) (by omega) hX1 hK1 hS1).mono ?_); rw [HJE.out, HJT.out, HJC.out]; rintro e w7 ⟨xe7, xk7, xc7, rfl, hrd7, hsl7, hb⟩; have hbr7 : Hid (Below (w5.heap.size + 1) (w5.alloc (.cells #[.slice A5x Y.es.length n5x, .slice B5x Y.ks.length m5x, .slice D5x S.length k5x] 29)) w7) := hid (Below.trans (hbr6.out.trans (by go_grown)) (hb.mono (by first | omega | (simp; done) | (simp; omega)))); have hsr7 := HS_1.out _ hbr7.out; obtain ⟨Ar7, nr7, Br7, mr7, hv1, hv2⟩ := rda_shape hrd7; subst hv1; subst hv2; obtain ⟨Dr7, kr7, hv3⟩ := hsl7.shape; subst hv3; have HR7 := hid hrd7; have HL7 := hid hsl7; clear hrd7 hsl7; (first | (have HG7 : Hid (w7.heap[w6.heap.size]? = some (.cells #[.slice none 0 0, .slice none 0 0, .slice none 0 0] 29 (0, 0))) := hid (z_new hb); have k0 : w7.cell? ⟨w6.heap.size, 0, none⟩ = some (.slice none 0 0) := cell_cells (i := 0) HG7.out; have k1 : w7.cell? ⟨w6.heap.size, 1, none⟩ = some (.slice none 0 0) := cell_cells (i := 1) HG7.out; have k2 : w7.cell? ⟨w6.heap.size, 2, none⟩ = some (.slice none 0 0) := cell_cells (i := 2) HG7.out; have z0 := cells_frz (i := 0) HG7.out; have z1 := cells_frz (i := 1) HG7.out; have z2 := cells_frz (i := 2) HG7.out; have hna0 : w.heap.size ≠ w6.heap.size := (by omega); have hnb0 : w6.heap.size ≠ w.heap.size := (by omega); have hna1 : (w.heap.size + 1) ≠ w6.heap.size := (by omega); have hnb1 : w6.heap.size ≠ (w.heap.size + 1) := (by omega); have hna2 : w4.heap.size ≠ w6.heap.size := (by omega); have hnb2 : w6.heap.size ≠ w4.heap.size := (by omega); have hna3 : w5.heap.size ≠ w6.heap.size := (by omega); have hnb3 : w6.heap.size ≠ w5.heap.size := (by omega)) | (have HG7 : Hid (w7.heap[(w5.heap.size + 1)]? = some (.cells #[.slice none 0 0, .slice none 0 0, .slice none 0 0] 29 (0, 0))) := hid ((hb.block _ (lt_of_block HGA.out)).trans HGA.out); have k0 : w7.cell? ⟨(w5.heap.size + 1), 0, none⟩ = some (.slice none 0 0) := cell_cells (i := 0) HG7.out; have k1 : w7.cell? ⟨(w5.heap.size + 1), 1, none⟩ = some (.slice none 0 0) := cell_cells (i := 1) HG7.out; have k2 : w7.cell? ⟨(w5.heap.size + 1), 2, none⟩ = some (.slice none 0 0) := cell_cells (i := 2) HG7.out; have z0 := cells_frz (i := 0) HG7.out; have z1 := cells_frz (i := 1) HG7.out; have z2 := cells_frz (i := 2) HG7.out; have hna0 : w.heap.size ≠ (w5.heap.size + 1) := (by omega); have hnb0 : (w5.heap.size + 1) ≠ w.heap.size := (by omega); have hna1 : (w.heap.size + 1) ≠ (w5.heap.size + 1) := (by omega); have hnb1 : (w5.heap.size + 1) ≠ (w.heap.size + 1) := (by omega); have hna2 : w4.heap.size ≠ (w5.heap.size + 1) := (by omega); have hnb2 : (w5.heap.size + 1) ≠ w4.heap.size := (by omega); have hna3 : w5.heap.size ≠ (w5.heap.size + 1) := (by omega); have hnb3 : (w5.heap.size + 1) ≠ w5.heap.size := (by omega)) | skip); clear hb))
        | (go_at_call 47; go_loud ((refine (r10known_any t _ _ _ (Hrt0_1.out _ (by go_grown)) (by omega) HN.out).mono ?_); rintro e w6 ⟨vc6, rfl, hsl6, hb⟩; have hbr6 : Hid (Below (w5.heap.size + 1) (w5.alloc (.cells #[.slice A5x Y.es.length n5x, .slice B5x Y.ks.length m5x, .slice D5x S.length k5x] 29)) w6) := hid (Below.trans (by go_grown) (hb.mono (by first | omega | (simp; done) | (simp; omega)))); have hsr6 := HS_1.out _ hbr6.out; obtain ⟨Dk6, kk6, hv6⟩ := hsl6.shape; subst hv6; have HS6 := hid hsl6; clear hsl6; (first | (have HGA : Hid (w6.heap[(w5.heap.size + 1)]? = some (.cells #[.slice none 0 0, .slice none 0 0, .slice none 0 0] 29 (0, 0))) := hid (z_new2D hb)) | (have HGA : Hid (w6.heap[(w5.heap.size + 1)]? = some (.cells #[.slice none 0 0, .slice none 0 0, .slice none 0 0] 29 (0, 0))) := hid (z_newD hb)) | (have HGA : Hid (w6.heap[(w5.heap.size + 1)]? = some (.cells #[.slice none 0 0, .slice none 0 0, .slice none 0 0] 29 (0, 0))) := hid (z_new2 hb)) | (have HGA : Hid (w6.heap[(w5.heap.size + 1)]? = some (.cells #[.slice none 0 0, .slice none 0 0, .slice none 0 0] 29 (0, 0))) := hid (z_new hb)) | skip); clear hb)))
    all_goals
      go_wp2_with fail
      go_meet
      case rel => exact ⟨rfl, (by first | exact box_new hbr7.out (HS_1.out _ hbr7.out) HR7.out HL7.out | exact box_set HG7.out hbr7.out (by omega) (by first | (simp; done) | exact lt_of_block HGA.out) HR7.out HL7.out)⟩
  case rest =>
    obtain ⟨rfl, g8, xe8, xk8, xc8, rfl, hG8, hrd8, hsl8, hbz⟩ := hcut
    obtain ⟨A8x, n8x, B8x, m8x, rfl, rfl⟩ := rd_shape hrd8
    obtain ⟨D8x, k8x, rfl, _⟩ := id hsl8
    have hlg8 := lt_of_block hG8
    obtain ⟨wq8, hwq8⟩ : ∃ z : World, z = wc := ⟨wc, rfl⟩
    subst hwq8
    have HSZ8 : Hid ((w5.heap.size + 1) ≤ wq8.heap.size) := HS_1.out _ hbz
    have HX3 : Hid (∀ W, Below wq8.heap.size wq8 W → (wq8.heap.size ≤ (W).heap.size ∧ X.rd W (W).heap.size (.slice A8x X.es.length n8x) (.slice B8x X.ks.length m8x) ∧ SlP W (W).heap.size 3 SpE (.slice D8x U.length k8x) U ∧ (W).cell? ⟨g8, 0, none⟩ = some (.slice A8x X.es.length n8x) ∧ (W).cell? ⟨g8, 1, none⟩ = some (.slice B8x X.ks.length m8x) ∧ (W).cell? ⟨g8, 2, none⟩ = some (.slice D8x U.length k8x) ∧ w5.heap.size + 1 ≤ (W).heap.size ∧ Y.rd W (W).heap.size (.slice A5x Y.es.length n5x) (.slice B5x Y.ks.length m5x) ∧ SlP W (W).heap.size 3 SpE (.slice D5x S.length k5x) S ∧ (W).cell? ⟨w5.heap.size, 0, none⟩ = some (.slice A5x Y.es.length n5x) ∧ (W).cell? ⟨w5.heap.size, 1, none⟩ = some (.slice B5x Y.ks.length m5x) ∧ (W).cell? ⟨w5.heap.size, 2, none⟩ = some (.slice D5x S.length k5x) ∧ w4.heap.size + 1 ≤ (W).heap.size ∧ X.rd W (W).heap.size (.slice A4x X.es.length n4x) (.slice B4x X.ks.length m4x) ∧ SlP W (W).heap.size 3 SpE (.slice D4x S.length k4x) S ∧ (W).cell? ⟨w4.heap.size, 0, none⟩ = some (.slice A4x X.es.length n4x) ∧ (W).cell? ⟨w4.heap.size, 1, none⟩ = some (.slice B4x X.ks.length m4x) ∧ (W).cell? ⟨w4.heap.size, 2, none⟩ = some (.slice D4x S.length k4x) ∧ Below w.heap.size w W ∧ w.heap.size + 2 ≤ (W).heap.size ∧ t.rd W (W).heap.size (.slice A0 t.es.length n0) (.slice B0 t.ks.length m0) ∧ (W).cell? ⟨w.heap.size, 0, none⟩ = some (.slice A0 t.es.length n0) ∧ (W).cell? ⟨w.heap.size, 1, none⟩ = some (.slice B0 t.ks.length m0) ∧ (W).cell? ⟨(w.heap.size + 1), 0, none⟩ = some (.int .i64 d.dc) ∧ (W).cell? ⟨(w.heap.size + 1), 1, none⟩ = some (.int .i64 d.n))) := fun W hW => by
      have g0 := (hW.block g8 hlg8).trans hG8
      exact ⟨hW.size, rd_below hW hW.size _ _ _ hrd8, hsl8.imp hW hW.size (fun _ _ _ h => h), cell_cells (i := 0) g0, cell_cells (i := 1) g0, cell_cells (i := 2) g0, HX2.out W (hbz.trans (hW.mono HSZ8.out))⟩
    clear hrd8 hsl8 hG8
    clear hs_y hs_x c0_x c1_x c2_x hs c00 c01
    obtain ⟨hs_o, rt_o, rc_o, c0_o, c1_o, c2_o, hs_y, rt_y, rc_y, c0_y, c1_y, c2_y, hs_x, rt_x, rc_x, c0_x, c1_x, c2_x, hB, hs, rt0, c00, c01, c10, c11⟩ := HX3.out _ (Below.refl _ _)
    go_upto_region 6 with (fail)
    have HK2 : Hid (∀ W, Below wq8.heap.size wq8 W → ((W).cell? ⟨w5.heap.size, 0, none⟩ = some (.slice A5x Y.es.length n5x) ∧ (W).cell? ⟨w5.heap.size, 1, none⟩ = some (.slice B5x Y.ks.length m5x) ∧ (W).cell? ⟨w5.heap.size, 2, none⟩ = some (.slice D5x S.length k5x) ∧ (W).cell? ⟨w.heap.size, 0, none⟩ = some (.slice A0 t.es.length n0) ∧ (W).cell? ⟨w.heap.size, 1, none⟩ = some (.slice B0 t.ks.length m0))) := fun W hW => by
      obtain ⟨_, _, _, _, _, _, _, _, _, z_c0_y, z_c1_y, z_c2_y, _, _, _, _, _, _, _, _, _, z_c00, z_c01, _, _⟩ := HX3.out W hW
      exact ⟨z_c0_y, z_c1_y, z_c2_y, z_c00, z_c01⟩
    have Hrt_o_2 : Hid (∀ W, Below wq8.heap.size wq8 W → X.rd W (W).heap.size (.slice A8x X.es.length n8x) (.slice B8x X.ks.length m8x)) := fun W hW => by
      obtain ⟨_, z, _, _, _, _, _, _, _, _, _, _, _, _, _, _, _, _, _, _, _, _, _, _, _⟩ := HX3.out W hW
      exact z
    have Hrc_o_2 : Hid (∀ W, Below wq8.heap.size wq8 W → SlP W (W).heap.size 3 SpE (.slice D8x U.length k8x) U) := fun W hW => by
      obtain ⟨_, _, z, _, _, _, _, _, _, _, _, _, _, _, _, _, _, _, _, _, _, _, _, _, _⟩ := HX3.out W hW
      exact z
    have Hrt_y_2 : Hid (∀ W, Below wq8.heap.size wq8 W → Y.rd W (W).heap.size (.slice A5x Y.es.length n5x) (.slice B5x Y.ks.length m5x)) := fun W hW => by
      obtain ⟨_, _, _, _, _, _, _, z, _, _, _, _, _, _, _, _, _, _, _, _, _, _, _, _, _⟩ := HX3.out W hW
      exact z
    have Hrc_y_2 : Hid (∀ W, Below wq8.heap.size wq8 W → SlP W (W).heap.size 3 SpE (.slice D5x S.length k5x) S) := fun W hW => by
      obtain ⟨_, _, _, _, _, _, _, _, z, _, _, _, _, _, _, _, _, _, _, _, _, _, _, _, _⟩ := HX3.out W hW
      exact z
    have Hrt_x_2 : Hid (∀ W, Below wq8.heap.size wq8 W → X.rd W (W).heap.size (.slice A4x X.es.length n4x) (.slice B4x X.ks.length m4x)) := fun W hW => by
      obtain ⟨_, _, _, _, _, _, _, _, _, _, _, _, _, z, _, _, _, _, _, _, _, _, _, _, _⟩ := HX3.out W hW
      exact z
    have Hrc_x_2 : Hid (∀ W, Below wq8.heap.size wq8 W → SlP W (W).heap.size 3 SpE (.slice D4x S.length k4x) S) := fun W hW => by
      obtain ⟨_, _, _, _, _, _, _, _, _, _, _, _, _, _, z, _, _, _, _, _, _, _, _, _, _⟩ := HX3.out W hW
      exact z
    have Hrt0_2 : Hid (∀ W, Below wq8.heap.size wq8 W → t.rd W (W).heap.size (.slice A0 t.es.length n0) (.slice B0 t.ks.length m0)) := fun W hW => by
      obtain ⟨_, _, _, _, _, _, _, _, _, _, _, _, _, _, _, _, _, _, _, _, z, _, _, _, _⟩ := HX3.out W hW
      exact z
    have HS_2 : Hid (∀ W, Below wq8.heap.size wq8 W → wq8.heap.size ≤ W.heap.size) := fun W hW => by
      have := hW.size
      first | omega | (simp at this; omega)
    have hsb2 := HS_2.out _ (Below.refl _ _)
    clear rt_o rc_o c0_o c1_o c2_o rt_y rc_y rt_x rc_x c0_x c1_x c2_x hB rt0 c10 c11
    go_cut [11, 12] (fun s11 s12 wx => s12 = .int .i64 0 ∧ Box3 wq8.heap.size wq8 29 Y V s11 wx)
    case first =>
      go_region_held3 (fun W => (W).cell? ⟨w5.heap.size, 0, none⟩ = some (.slice A5x Y.es.length n5x) ∧ (W).cell? ⟨w5.heap.size, 1, none⟩ = some (.slice B5x Y.ks.length m5x) ∧ (W).cell? ⟨w5.heap.size, 2, none⟩ = some (.slice D5x S.length k5x) ∧ (W).cell? ⟨w.heap.size, 0, none⟩ = some (.slice A0 t.es.length n0) ∧ (W).cell? ⟨w.heap.size, 1, none⟩ = some (.slice B0 t.ks.length m0))
        (first | go_keep | exact HK2.out _ hbr10.out | exact HK2.out _ (hbr10.out.trans (by go_grown)) | exact HK2.out _ hbr9.out | exact HK2.out _ (hbr9.out.trans (by go_grown)) | exact HK2.out _ (by go_grown) | fail)
        (first
          | (go_at_call 25; go_loud ((refine (cJoin_any S (knC t) Y t _ _ _ _ _ _ _ (Hrt_y_2.out _ (hbr9.out.trans (by go_grown))) (Hrt0_2.out _ (hbr9.out.trans (by go_grown))) (Hrc_y_2.out _ (hbr9.out.trans (by go_grown))) (HS9.out.slp (fun b hb => hb.2) (by go_grown)) hY1 (by omega) hS1 hK1).mono ?_); rw [HIE.out, HIT.out, HIC.out]; rintro e w10 ⟨xe10, xk10, xc10, rfl, hrd10, hsl10, hb⟩; have hbr10 : Hid (Below wq8.heap.size wq8 w10) := hid (Below.trans (hbr9.out.trans (by go_grown)) (hb.mono (by first | omega | (simp; done) | (simp; omega)))); have hsr10 := HS_2.out _ hbr10.out; obtain ⟨Ar10, nr10, Br10, mr10, hv1, hv2⟩ := rda_shape hrd10; subst hv1; subst hv2; obtain ⟨Dr10, kr10, hv3⟩ := hsl10.shape; subst hv3; have HR10 := hid hrd10; have HL10 := hid hsl10; clear hrd10 hsl10; (first | (have HG10 : Hid (w10.heap[w9.heap.size]? = some (.cells #[.slice none 0 0, .slice none 0 0, .slice none 0 0] 29 (0, 0))) := hid (z_new hb); have k0 : w10.cell? ⟨w9.heap.size, 0, none⟩ = some (.slice none 0 0) := cell_cells (i := 0) HG10.out; have k1 : w10.cell? ⟨w9.heap.size, 1, none⟩ = some (.slice none 0 0) := cell_cells (i := 1) HG10.out; have k2 : w10.cell? ⟨w9.heap.size, 2, none⟩ = some (.slice none 0 0) := cell_cells (i := 2) HG10.out; have z0 := cells_frz (i := 0) HG10.out; have z1 := cells_frz (i := 1) HG10.out; have z2 := cells_frz (i := 2) HG10.out; have hna0 : w.heap.size ≠ w9.heap.size := (by omega); have hnb0 : w9.heap.size ≠ w.heap.size := (by omega); have hna1 : (w.heap.size + 1) ≠ w9.heap.size := (by omega); have hnb1 : w9.heap.size ≠ (w.heap.size + 1) := (by omega); have hna2 : w4.heap.size ≠ w9.heap.size := (by omega); have hnb2 : w9.heap.size ≠ w4.heap.size := (by omega); have hna3 : w5.heap.size ≠ w9.heap.size := (by omega); have hnb3 : w9.heap.size ≠ w5.heap.size := (by omega); have hna4 : g8 ≠ w9.heap.size := (by omega); have hnb4 : w9.heap.size ≠ g8 := (by omega)) | (have HG10 : Hid (w10.heap[wq8.heap.size]? = some (.cells #[.slice none 0 0, .slice none 0 0, .slice none 0 0] 29 (0, 0))) := hid ((hb.block _ (lt_of_block HGA.out)).trans HGA.out); have k0 : w10.cell? ⟨wq8.heap.size, 0, none⟩ = some (.slice none 0 0) := cell_cells (i := 0) HG10.out; have k1 : w10.cell? ⟨wq8.heap.size, 1, none⟩ = some (.slice none 0 0) := cell_cells (i := 1) HG10.out; have k2 : w10.cell? ⟨wq8.heap.size, 2, none⟩ = some (.slice none 0 0) := cell_cells (i := 2) HG10.out; have z0 := cells_frz (i := 0) HG10.out; have z1 := cells_frz (i := 1) HG10.out; have z2 := cells_frz (i := 2) HG10.out; have hna0 : w.heap.size ≠ wq8.heap.size := (by omega); have hnb0 : wq8.heap.size ≠ w.heap.size := (by omega); have hna1 : (w.heap.size + 1) ≠ wq8.heap.size := (by omega); have hnb1 : wq8.heap.size ≠ (w.heap.size + 1) := (by omega); have hna2 : w4.heap.size ≠ wq8.heap.size := (by omega); have hnb2 : wq8.heap.size ≠ w4.heap.size := (by omega); have hna3 : w5.heap.size ≠ wq8.heap.size := (by omega); have hnb3 : wq8.heap.size ≠ w5.heap.size := (by omega); have hna4 : g8 ≠ wq8.heap.size := (by omega); have hnb4 : wq8.heap.size ≠ g8 := (by omega)) | skip); clear hb))
          | (go_at_call 47; go_loud ((refine (r10known_any t _ _ _ (Hrt0_2.out _ (by go_grown)) (by omega) HN.out).mono ?_); rintro e w9 ⟨vc9, rfl, hsl9, hb⟩; have hbr9 : Hid (Below wq8.heap.size wq8 w9) := hid (Below.trans (by go_grown) (hb.mono (by first | omega | (simp; done) | (simp; omega)))); have hsr9 := HS_2.out _ hbr9.out; obtain ⟨Dk9, kk9, hv9⟩ := hsl9.shape; subst hv9; have HS9 := hid hsl9; clear hsl9; (first | (have HGA : Hid (w9.heap[wq8.heap.size]? = some (.cells #[.slice none 0 0, .slice none 0 0, .slice none 0 0] 29 (0, 0))) := hid (z_new2D hb)) | (have HGA : Hid (w9.heap[wq8.heap.size]? = some (.cells #[.slice none 0 0, .slice none 0 0, .slice none 0 0] 29 (0, 0))) := hid (z_newD hb)) | (have HGA : Hid (w9.heap[wq8.heap.size]? = some (.cells #[.slice none 0 0, .slice none 0 0, .slice none 0 0] 29 (0, 0))) := hid (z_new2 hb)) | (have HGA : Hid (w9.heap[wq8.heap.size]? = some (.cells #[.slice none 0 0, .slice none 0 0, .slice none 0 0] 29 (0, 0))) := hid (z_new hb)) | skip); clear hb)))
      all_goals
        go_wp2_with fail
        go_meet
        case rel => exact ⟨rfl, (by first | exact box_new hbr10.out (HS_2.out _ hbr10.out) HR10.out HL10.out | exact box_set HG10.out hbr10.out (by omega) (by first | (simp; done) | exact lt_of_block HGA.out) HR10.out HL10.out)⟩
    case rest =>
      obtain ⟨rfl, g11, xe11, xk11, xc11, rfl, hG11, hrd11, hsl11, hbz⟩ := hcut
      obtain ⟨A11x, n11x, B11x, m11x, rfl, rfl⟩ := rd_shape hrd11
      obtain ⟨D11x, k11x, rfl, _⟩ := id hsl11
      have hlg11 := lt_of_block hG11
      obtain ⟨wq11, hwq11⟩ : ∃ z : World, z = wc := ⟨wc, rfl⟩
      subst hwq11
      have HSZ11 : Hid (wq8.heap.size ≤ wq11.heap.size) := HS_2.out _ hbz
      have HX4 : Hid (∀ W, Below wq11.heap.size wq11 W → (wq11.heap.size ≤ (W).heap.size ∧ Y.rd W (W).heap.size (.slice A11x Y.es.length n11x) (.slice B11x Y.ks.length m11x) ∧ SlP W (W).heap.size 3 SpE (.slice D11x V.length k11x) V ∧ (W).cell? ⟨g11, 0, none⟩ = some (.slice A11x Y.es.length n11x) ∧ (W).cell? ⟨g11, 1, none⟩ = some (.slice B11x Y.ks.length m11x) ∧ (W).cell? ⟨g11, 2, none⟩ = some (.slice D11x V.length k11x) ∧ wq8.heap.size ≤ (W).heap.size ∧ X.rd W (W).heap.size (.slice A8x X.es.length n8x) (.slice B8x X.ks.length m8x) ∧ SlP W (W).heap.size 3 SpE (.slice D8x U.length k8x) U ∧ (W).cell? ⟨g8, 0, none⟩ = some (.slice A8x X.es.length n8x) ∧ (W).cell? ⟨g8, 1, none⟩ = some (.slice B8x X.ks.length m8x) ∧ (W).cell? ⟨g8, 2, none⟩ = some (.slice D8x U.length k8x) ∧ w5.heap.size + 1 ≤ (W).heap.size ∧ Y.rd W (W).heap.size (.slice A5x Y.es.length n5x) (.slice B5x Y.ks.length m5x) ∧ SlP W (W).heap.size 3 SpE (.slice D5x S.length k5x) S ∧ (W).cell? ⟨w5.heap.size, 0, none⟩ = some (.slice A5x Y.es.length n5x) ∧ (W).cell? ⟨w5.heap.size, 1, none⟩ = some (.slice B5x Y.ks.length m5x) ∧ (W).cell? ⟨w5.heap.size, 2, none⟩ = some (.slice D5x S.length k5x) ∧ w4.heap.size + 1 ≤ (W).heap.size ∧ X.rd W (W).heap.size (.slice A4x X.es.length n4x) (.slice B4x X.ks.length m4x) ∧ SlP W (W).heap.size 3 SpE (.slice D4x S.length k4x) S ∧ (W).cell? ⟨w4.heap.size, 0, none⟩ = some (.slice A4x X.es.length n4x) ∧ (W).cell? ⟨w4.heap.size, 1, none⟩ = some (.slice B4x X.ks.length m4x) ∧ (W).cell? ⟨w4.heap.size, 2, none⟩ = some (.slice D4x S.length k4x) ∧ Below w.heap.size w W ∧ w.heap.size + 2 ≤ (W).heap.size ∧ t.rd W (W).heap.size (.slice A0 t.es.length n0) (.slice B0 t.ks.length m0) ∧ (W).cell? ⟨w.heap.size, 0, none⟩ = some (.slice A0 t.es.length n0) ∧ (W).cell? ⟨w.heap.size, 1, none⟩ = some (.slice B0 t.ks.length m0) ∧ (W).cell? ⟨(w.heap.size + 1), 0, none⟩ = some (.int .i64 d.dc) ∧ (W).cell? ⟨(w.heap.size + 1), 1, none⟩ = some (.int .i64 d.n))) := fun W hW => by
        have g0 := (hW.block g11 hlg11).trans hG11
        exact ⟨hW.size, rd_below hW hW.size _ _ _ hrd11, hsl11.imp hW hW.size (fun _ _ _ h => h), cell_cells (i := 0) g0, cell_cells (i := 1) g0, cell_cells (i := 2) g0, HX3.out W (hbz.trans (hW.mono HSZ11.out))⟩
      clear hrd11 hsl11 hG11
      clear hs_o hs_y c0_y c1_y c2_y hs_x hs c00 c01
      obtain ⟨hs_f, rt_f, rc_f, c0_f, c1_f, c2_f, hs_o, rt_o, rc_o, c0_o, c1_o, c2_o, hs_y, rt_y, rc_y, c0_y, c1_y, c2_y, hs_x, rt_x, rc_x, c0_x, c1_x, c2_x, hB, hs, rt0, c00, c01, c10, c11⟩ := HX4.out _ (Below.refl _ _)
      go_wp2_with fail
      refine (fon_any X _ _ _ rt_o).mono ?_
      rw [HON.out]
      rintro e w12 ⟨rfl, hb⟩
      have hbk12 : Hid (Below wq11.heap.size wq11 w12) := hid (hb.mono (by first | omega | (simp; done) | (simp; omega)))
      clear hb
      clear hs_f rt_f rc_f c0_f c1_f c2_f hs_o rt_o rc_o c0_o c1_o c2_o hs_y rt_y rc_y c0_y c1_y c2_y hs_x rt_x rc_x c0_x c1_x c2_x hB hs rt0 c00 c01 c10 c11
      obtain ⟨hs_f, rt_f, rc_f, c0_f, c1_f, c2_f, hs_o, rt_o, rc_o, c0_o, c1_o, c2_o, hs_y, rt_y, rc_y, c0_y, c1_y, c2_y, hs_x, rt_x, rc_x, c0_x, c1_x, c2_x, hB, hs, rt0, c00, c01, c10, c11⟩ := HX4.out _ hbk12.out
      go_wp2_with fail
      refine (fon_any Y _ _ _ rt_f).mono ?_
      rw [HOF.out]
      rintro e w13 ⟨rfl, hb⟩
      have hbk13 : Hid (Below wq11.heap.size wq11 w13) := hid (hbk12.out.trans (hb.mono (by first | omega | (simp; done) | (simp; omega))))
      clear hb
      clear hs_f rt_f rc_f c0_f c1_f c2_f hs_o rt_o rc_o c0_o c1_o c2_o hs_y rt_y rc_y c0_y c1_y c2_y hs_x rt_x rc_x c0_x c1_x c2_x hB hs rt0 c00 c01 c10 c11
      obtain ⟨hs_f, rt_f, rc_f, c0_f, c1_f, c2_f, hs_o, rt_o, rc_o, c0_o, c1_o, c2_o, hs_y, rt_y, rc_y, c0_y, c1_y, c2_y, hs_x, rt_x, rc_x, c0_x, c1_x, c2_x, hB, hs, rt0, c00, c01, c10, c11⟩ := HX4.out _ hbk13.out
      go_wp2_with fail
      refine (r08same_any Y (.mk [] []) _ _ _ _ _ rt_f rd_empty).mono ?_
      rw [HYY.out]
      rintro e w14 ⟨rfl, hb⟩
      have hbk14 : Hid (Below wq11.heap.size wq11 w14) := hid (hbk13.out.trans (hb.mono (by first | omega | (simp; done) | (simp; omega))))
      clear hb
      clear hs_f rt_f rc_f c0_f c1_f c2_f hs_o rt_o rc_o c0_o c1_o c2_o hs_y rt_y rc_y c0_y c1_y c2_y hs_x rt_x rc_x c0_x c1_x c2_x hB hs rt0 c00 c01 c10 c11
      obtain ⟨hs_f, rt_f, rc_f, c0_f, c1_f, c2_f, hs_o, rt_o, rc_o, c0_o, c1_o, c2_o, hs_y, rt_y, rc_y, c0_y, c1_y, c2_y, hs_x, rt_x, rc_x, c0_x, c1_x, c2_x, hB, hs, rt0, c00, c01, c10, c11⟩ := HX4.out _ hbk14.out
      go_wp2_with fail
      go_ret
      exact ⟨rfl, hB⟩
end Go.Proofs.YtkjijbogbelilaaGreat

namespace Go.Proofs.YtkjijbogbelilaaGreat
open Go.ChangeShapes Go.WideShapes Go.ChangeAt Go.RowKit
set_option maxRecDepth 100000

/-- No weight of a datum is beyond the reach. -/
def Wt {H : Type} (P : Program) (t : TypeId) (d : DataW H) : Prop := ∀ m ∈ d.weights P t, m ≤ reachBytes

section
variable {H : Type} {enc : TypeId × Value → H} {w : World}

theorem Wt.field {P : Program} {t : TypeId} {fs : Array Field} {parts : List (DataW H)} (hu : P.underlying t = some (.struct fs)) (h : Wt P t (.agg parts)) {i : Nat} {f : Field} {d : DataW H} (hf : fs[i]? = some f) (hd : parts[i]? = some d) : Wt P f.type d := fun m hm => by
  refine h m ?_
  unfold DataW.weights
  rw [hu]
  exact DataW.weights_mem_each (j := i) (t := f.type) (d := d) (by simp [hf]) hd m hm
theorem Wt.all {P : Program} {e : TypeId} : ∀ {ds : List (DataW H)} {d : DataW H}, d ∈ ds → ∀ m ∈ d.weights P e, m ∈ DataW.weightsAll P e ds
  | x :: ds, d, hd, m, hm => by
    rw [DataW.weightsAll]
    rcases List.mem_cons.1 hd with rfl | hd
    · exact List.mem_append_left _ hm
    · exact List.mem_append_right _ (Wt.all hd m hm)
theorem Wt.elem {P : Program} {t e : TypeId} {elems spare : List (DataW H)} (hu : P.underlying t = some (.slice e)) (h : Wt P t (.slice elems spare)) : (elems.length + spare.length) * P.bytesOf e ≤ reachBytes ∧ ∀ d ∈ elems, Wt P e d := by
  unfold Wt at h
  unfold DataW.weights at h
  rw [hu] at h
  refine ⟨h _ (by simp), fun d hd m hm => h m ?_⟩
  exact List.mem_cons_of_mem _ (List.mem_append_left _ (Wt.all hd m hm))

theorem wf_i64 {n : Int} (h : (Lit.int .i64 n).wf = true) : I64 n := by
  have h1 : IntKind.i64.min = -9223372036854775808 := rfl
  have h2 : IntKind.i64.max = 9223372036854775807 := rfl
  simp only [Lit.wf, Bool.and_eq_true, decide_eq_true_eq] at h
  unfold I64; omega

/-- A slice, whose elements are opened by hel. -/
theorem slc_open {α : Type} {E : α → List Value → Prop} {t e : TypeId} {sz bytes fuel : Nat} {cs : List Value} {x : DataW H × List MemPlace} (hu : Tryz.prog.underlying t = some (.slice e)) (hC : Tryz.prog.cellsOf e = sz) (hsz : 0 < sz) (hB : Tryz.prog.bytesOf e = bytes) (hb : 0 < bytes)
    (h : DataW.trod enc Tryz.prog w 0 (fun _ => true) true fuel t cs = some x) (hw : Wt Tryz.prog t x.1)
    (hel : ∀ n cs y, n < fuel → DataW.trod enc Tryz.prog w 0 (fun _ => true) true n e cs = some y → Wt Tryz.prog e y.1 → ∃ a, E a cs) :
    ∃ v xs, cs = [v] ∧ SlP w w.heap.size sz E v xs := by
  rcases DataW.trod_slice hu h with ⟨rfl, rfl⟩ | ⟨a, len, cap, elems, rest, n, rfl, rfl, rfl, _, hl, hm, hlen, he, hs, _⟩
  · exact ⟨_, [], rfl, SlP.nil⟩
  · obtain ⟨hr, hwe⟩ := Wt.elem hu hw
    rw [hB, List.length_map, List.length_map] at hr
    have hrl := (hs rfl).1
    have hcap : cap ≤ Big := by
      have h1 : (elems.length + rest.length) * 1 ≤ (elems.length + rest.length) * bytes := Nat.mul_le_mul_left _ hb
      unfold reachBytes at hr; unfold Big; omega
    have key : ∀ i, i < len → ∃ (x : α) (c : List Value), E x c ∧ c.length = sz ∧ ∀ j, j < sz → w.cell? (a.add (i * sz + j)) = c[j]? := fun i hi => by
      have h1 := he i hi
      have h2 : elems[i]? = some elems[i] := List.getElem?_eq_getElem (by omega)
      rw [h2] at h1
      obtain ⟨c, h3, h4⟩ := Option.bind_eq_some_iff.1 h1
      obtain ⟨_, h5, h6⟩ := World.cells?_some h3
      obtain ⟨x, hx⟩ := hel n c elems[i] (Nat.lt_succ_self n) h4 (hwe _ (List.mem_map.2 ⟨elems[i], List.getElem_mem _, rfl⟩))
      rw [hC] at h5 h6
      exact ⟨x, c, hx, h5, fun j hj => by rw [← Go.Deep.add_add]; exact h6 j hj⟩
    rcases Nat.eq_zero_or_pos len with h0 | h0
    · subst h0
      exact ⟨_, [], rfl, ⟨some a, cap, rfl, Nat.zero_le _, Nat.zero_le _, fun h => absurd rfl h⟩⟩
    · obtain ⟨x0, c0, _, hc0, hcell0⟩ := key 0 h0
      have hv0 := hcell0 0 hsz
      rw [List.getElem?_eq_getElem (by omega)] at hv0
      obtain ⟨b, off, spot⟩ := a
      have hspot : spot = none := by simpa [Addr.add] using World.cell?_spot hv0
      subst hspot
      have hbl : b < w.heap.size := by
        have := World.block_lt_of_cell? w _ hv0
        simpa [Addr.add] using this
      classical
      refine ⟨_, (List.range len).map fun i => if hi : i < len then Classical.choose (key i hi) else x0, rfl, some ⟨b, off, none⟩, cap, by simp, by simp; omega, by simp; omega, fun _ => ⟨b, off, rfl, hbl, fun j x hx => ?_⟩⟩
      have hj : j < len := by have := (List.getElem?_eq_some_iff.1 hx).1; simpa using this
      rw [List.getElem?_map, List.getElem?_range hj] at hx
      simp only [Option.map_some, dif_pos hj, Option.some.injEq] at hx
      obtain ⟨c, h1, h2, h3⟩ := Classical.choose_spec (key j hj)
      rw [hx] at h1
      refine ⟨c, h1, h2, fun i u hi => ?_⟩
      have hlt : i < sz := by have := (List.getElem?_eq_some_iff.1 hi).1; omega
      have := h3 i hlt
      rw [hi] at this
      rw [← this]
      congr 1
      simp [Addr.add, Nat.add_assoc]

theorem cellsDot : Tryz.prog.cellsOf 42 = 2 := by kernel_rfl
theorem cellsEntry : Tryz.prog.cellsOf 63 = 4 := by kernel_rfl
theorem cellsTree : Tryz.prog.cellsOf 25 = 2 := by kernel_rfl
theorem cellsKid : Tryz.prog.cellsOf 109 = 3 := by kernel_rfl
theorem cellsOne : Tryz.prog.cellsOf 9 = 1 ∧ Tryz.prog.cellsOf 3 = 1 ∧ Tryz.prog.cellsOf 2 = 1 ∧ Tryz.prog.cellsOf 22 = 1 ∧ Tryz.prog.cellsOf 23 = 1 := by refine ⟨?_, ?_, ?_, ?_, ?_⟩ <;> kernel_rfl
theorem bytesEntry : Tryz.prog.bytesOf 63 = 40 := by kernel_rfl
theorem bytesKid : Tryz.prog.bytesOf 109 = 64 := by kernel_rfl

theorem dot_open {fuel : Nat} {cs : List Value} {x : DataW H × List MemPlace} (h : DataW.trod enc Tryz.prog w 0 (fun _ => true) true fuel 42 cs = some x) : ∃ d : Dt, DtE d cs := by
  obtain ⟨xs, n, rfl, rfl, hl, hx, hf⟩ := DataW.trod_struct Tryz.underlying42 h
  rw [cellsDot] at hl
  match cs, hl with
  | [c0, c1], _ =>
    match xs, hx with
    | [y0, y1], _ =>
      have f0 : DataW.trod enc Tryz.prog w 0 (fun _ => true) true n 3 (([c0, c1].drop 0).take (Tryz.prog.cellsOf 3)) = some y0 := hf 0 _ rfl
      rw [cellsOne.2.1] at f0
      have f1 : DataW.trod enc Tryz.prog w 0 (fun _ => true) true n 2 (([c0, c1].drop 1).take (Tryz.prog.cellsOf 2)) = some y1 := hf 1 _ rfl
      rw [cellsOne.2.2.1] at f1
      obtain ⟨a, e0, _, w0⟩ := DataW.trod_int Tryz.underlying3 (show DataW.trod enc Tryz.prog w 0 (fun _ => true) true n 3 [c0] = some y0 from f0)
      obtain ⟨b, e1, _, w1⟩ := DataW.trod_int Tryz.underlying2 (show DataW.trod enc Tryz.prog w 0 (fun _ => true) true n 2 [c1] = some y1 from f1)
      simp at e0 e1
      subst e0; subst e1
      exact ⟨⟨a, b⟩, rfl, wf_i64 w0, wf_i64 w1⟩
theorem entry_open {fuel : Nat} {cs : List Value} {x : DataW H × List MemPlace} (h : DataW.trod enc Tryz.prog w 0 (fun _ => true) true fuel 63 cs = some x) (hw : Wt Tryz.prog 63 x.1) : ∃ e : En, EnE e cs := by
  obtain ⟨xs, n, rfl, rfl, hl, hx, hf⟩ := DataW.trod_struct Tryz.underlying63 h
  rw [cellsEntry] at hl
  match cs, hl with
  | [c0, c1, c2, c3], _ =>
    match xs, hx with
    | [y0, y1, y2], _ =>
      have f0 : DataW.trod enc Tryz.prog w 0 (fun _ => true) true n 42 (([c0, c1, c2, c3].drop 0).take (Tryz.prog.cellsOf 42)) = some y0 := hf 0 _ rfl
      rw [cellsDot] at f0
      have f1 : DataW.trod enc Tryz.prog w 0 (fun _ => true) true n 9 (([c0, c1, c2, c3].drop 2).take (Tryz.prog.cellsOf 9)) = some y1 := hf 1 _ rfl
      rw [cellsOne.1] at f1
      have f2 : DataW.trod enc Tryz.prog w 0 (fun _ => true) true n 2 (([c0, c1, c2, c3].drop 3).take (Tryz.prog.cellsOf 2)) = some y2 := hf 2 _ rfl
      rw [cellsOne.2.2.1] at f2
      obtain ⟨d, ed, od⟩ := dot_open (show DataW.trod enc Tryz.prog w 0 (fun _ => true) true n 42 [c0, c1] = some y0 from f0)
      obtain ⟨s, e1, hy1, _⟩ := DataW.trod_string Tryz.underlying9 (show DataW.trod enc Tryz.prog w 0 (fun _ => true) true n 9 [c2] = some y1 from f1)
      obtain ⟨b, e2, _, w2⟩ := DataW.trod_int Tryz.underlying2 (show DataW.trod enc Tryz.prog w 0 (fun _ => true) true n 2 [c3] = some y2 from f2)
      have hs : s.size ≤ Big := by
        have := Wt.field Tryz.underlying63 hw (i := 1) (d := y1.1) rfl rfl s.size (by rw [hy1]; simp [DataW.weights])
        unfold reachBytes at this; unfold Big; omega
      simp at ed e1 e2
      obtain ⟨rfl, rfl⟩ := ed
      subst e1; subst e2
      exact ⟨⟨d.dc, d.n, s, b⟩, rfl, od.dc, od.n, wf_i64 w2, hs⟩
theorem tree_open : ∀ (fuel : Nat) (cs : List Value) (x : DataW H × List MemPlace), DataW.trod enc Tryz.prog w 0 (fun _ => true) true fuel 25 cs = some x → Wt Tryz.prog 25 x.1 → ∃ t ve vk, cs = [ve, vk] ∧ Tr.rd w w.heap.size t ve vk := by
  intro fuel
  induction fuel using Nat.strongRecOn with
  | ind fuel ih =>
  intro cs x h hw
  obtain ⟨xs, n, rfl, rfl, hl, hx, hf⟩ := DataW.trod_struct Tryz.underlying25 h
  rw [cellsTree] at hl
  match cs, hl with
  | [c0, c1], _ =>
    match xs, hx with
    | [y0, y1], _ =>
      have f0 : DataW.trod enc Tryz.prog w 0 (fun _ => true) true n 22 (([c0, c1].drop 0).take (Tryz.prog.cellsOf 22)) = some y0 := hf 0 _ rfl
      rw [cellsOne.2.2.2.1] at f0
      have f1 : DataW.trod enc Tryz.prog w 0 (fun _ => true) true n 23 (([c0, c1].drop 1).take (Tryz.prog.cellsOf 23)) = some y1 := hf 1 _ rfl
      rw [cellsOne.2.2.2.2] at f1
      obtain ⟨v0, es, e0, h0⟩ := slc_open (E := EnE) Tryz.underlying22 cellsEntry (by decide) bytesEntry (by decide) (show DataW.trod enc Tryz.prog w 0 (fun _ => true) true n 22 [c0] = some y0 from f0) (Wt.field Tryz.underlying25 hw (i := 0) rfl rfl)
        (fun m cs y _ hy hwy => entry_open hy hwy)
      obtain ⟨v1, ks, e1, h1⟩ := slc_open (E := KdE w w.heap.size) Tryz.underlying23 cellsKid (by decide) bytesKid (by decide) (show DataW.trod enc Tryz.prog w 0 (fun _ => true) true n 23 [c1] = some y1 from f1) (Wt.field Tryz.underlying25 hw (i := 1) rfl rfl)
        (fun m cs y hm hy hwy => by
          obtain ⟨zs, k, rfl, rfl, hl, hz, hg⟩ := DataW.trod_struct Tryz.underlying109 hy
          rw [cellsKid] at hl
          match cs, hl with
          | [d0, d1, d2], _ =>
            match zs, hz with
            | [z0, z1], _ =>
              have g0 : DataW.trod enc Tryz.prog w 0 (fun _ => true) true k 9 (([d0, d1, d2].drop 0).take (Tryz.prog.cellsOf 9)) = some z0 := hg 0 _ rfl
              rw [cellsOne.1] at g0
              have g1 : DataW.trod enc Tryz.prog w 0 (fun _ => true) true k 25 (([d0, d1, d2].drop 1).take (Tryz.prog.cellsOf 25)) = some z1 := hg 1 _ rfl
              rw [cellsTree] at g1
              obtain ⟨s, u1, hy1, _⟩ := DataW.trod_string Tryz.underlying9 (show DataW.trod enc Tryz.prog w 0 (fun _ => true) true k 9 [d0] = some z0 from g0)
              obtain ⟨t, ve, vk, u2, ht⟩ := ih k (by omega) [d1, d2] z1 (show DataW.trod enc Tryz.prog w 0 (fun _ => true) true k 25 [d1, d2] = some z1 from g1) (Wt.field Tryz.underlying109 hwy (i := 1) rfl rfl)
              have hs : s.size ≤ Big := by
                have := Wt.field Tryz.underlying109 hwy (i := 0) (d := z0.1) rfl rfl s.size (by rw [hy1]; simp [DataW.weights])
                unfold reachBytes at this; unfold Big; omega
              simp at u1 u2
              obtain ⟨rfl, rfl⟩ := u2
              subst u1
              exact ⟨(s, t), d1, d2, rfl, hs, ht⟩)
      simp at e0 e1
      subst e0; subst e1
      exact ⟨.mk es ks, c0, c1, rfl, rd_iff.2 ⟨h0, h1⟩⟩

/-- Behind a call that turns nothing that was there, the arguments read as before. -/
theorem trodAll_below (hl : laidOutB Tryz.prog = true) {W' : World} : ∀ (ts : List TypeId) (vs : List Value) (ds : List (DataW H)) (ps : List MemPlace), (∀ t ∈ ts, Tryz.prog.readableRec t = true ∧ t < Tryz.prog.types.size) →
    DataW.TrodAll enc Tryz.prog w 0 (fun _ => true) true ts vs ds ps → Below w.heap.size w W' → (∀ x ∈ ps, x.block < w.heap.size) → DataW.TrodAll enc Tryz.prog W' 0 (fun b => decide (b < w.heap.size)) true ts vs ds ps
  | [], [], [], ps, _, h, _, _ => h
  | t :: ts, v :: vs, d :: ds, ps, hr, h, hb, hlt => by
    obtain ⟨p, q, h1, h2, rfl⟩ := h
    exact ⟨p, q, Below.trod hl (hr t (by simp)).1 (hr t (by simp)).2 h1 hb (fun x hx => hlt x (List.mem_append_left _ hx)), trodAll_below hl ts vs ds q (fun t ht => hr t (by simp [ht])) h2 hb (fun x hx => hlt x (List.mem_append_right _ hx)), rfl⟩
end
end Go.Proofs.YtkjijbogbelilaaGreat

namespace Go.Proofs.YtkjijbogbelilaaGreat
open Go.ChangeShapes Go.WideShapes Go.ChangeAt Go.RowKit
set_option maxRecDepth 100000

theorem own : ownKnob Tryz.prog.godebug = none := by kernel_rfl
theorem laidOut : laidOutB Tryz.prog = true := by kernel_rfl
theorem okTree : Tryz.prog.readableRec 25 = true ∧ 25 < Tryz.prog.types.size := ⟨by kernel_rfl, of_decide_eq_true (by kernel_rfl)⟩
theorem okDot : Tryz.prog.readableRec 42 = true ∧ 42 < Tryz.prog.types.size := ⟨by kernel_rfl, of_decide_eq_true (by kernel_rfl)⟩
theorem okInt64 : Tryz.prog.readableRec 2 = true ∧ 2 < Tryz.prog.types.size := ⟨by kernel_rfl, of_decide_eq_true (by kernel_rfl)⟩

theorem tree_arg {H : Type} {enc : TypeId × Value → H} {W : World} {base : Nat} {v : Value} {d : DataW H} {p : List MemPlace} (hv : Value.okWide Tryz.prog W .any base 25 v) (h : DataW.Trod enc Tryz.prog W 0 (fun _ => true) true 25 v d p) (hw : Wt Tryz.prog 25 d) :
    ∃ t ve vk, v = .agg #[ve, vk] ∧ Tr.rd W W.heap.size t ve vk := by
  obtain ⟨cs, rfl, hs⟩ := okWide_struct Tryz.underlying25 hv
  obtain ⟨fuel, hf⟩ := h
  obtain ⟨t, ve, vk, e, ht⟩ := tree_open fuel _ _ hf hw
  refine ⟨t, ve, vk, ?_, ht⟩
  simp [Value.cells] at e
  obtain ⟨l⟩ := cs
  simp at e
  rw [e]
theorem dot_arg {H : Type} {enc : TypeId × Value → H} {W : World} {base : Nat} {v : Value} {d : DataW H} {p : List MemPlace} (hv : Value.okWide Tryz.prog W .any base 42 v) (h : DataW.Trod enc Tryz.prog W 0 (fun _ => true) true 42 v d p) :
    ∃ x : Dt, v = .agg #[.int .i64 x.dc, .int .i64 x.n] ∧ x.Ok := by
  obtain ⟨cs, rfl, hs⟩ := okWide_struct Tryz.underlying42 hv
  obtain ⟨fuel, hf⟩ := h
  obtain ⟨x, e, ho⟩ := dot_open hf
  refine ⟨x, ?_, ho⟩
  simp [Value.cells] at e
  obtain ⟨l⟩ := cs
  simp at e
  rw [e]
theorem int_arg {H : Type} {enc : TypeId × Value → H} {W : World} {base : Nat} {v : Value} {d : DataW H} {p : List MemPlace} (hv : Value.okWide Tryz.prog W .any base 2 v) (h : DataW.Trod enc Tryz.prog W 0 (fun _ => true) true 2 v d p) :
    ∃ n : Int, v = .int .i64 n ∧ I64 n := by
  obtain ⟨n, rfl, _, _, hw⟩ := open_int Tryz.underlying2 hv h
  exact ⟨n, rfl, wf_i64 hw⟩
end Go.Proofs.YtkjijbogbelilaaGreat
