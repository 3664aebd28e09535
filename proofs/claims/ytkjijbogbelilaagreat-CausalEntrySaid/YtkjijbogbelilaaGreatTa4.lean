/- What the laws need, part 4: causal.kid. No condition but that the tree is in order. Contexts put together of sets, in plain Lean: they may be taken apart, into those sets; what context.Has tells of them. No condition. Small facts in plain Lean for the laws: a tree of one entry, a context of one dot. No condition. slices.Sort and slices.Compact at a list of texts of the call's own. No condition but that there are not too many. register.Values. No condition but that there are not too many. Plain law: texts sorted and each once, as the library does it and as the reference does it. No condition. slices.SortFunc at runs: the library's contract laid at this program. No condition. slices.SortFunc at a list of runs of the call's own. No condition but that there are not too many. span.Of is the reference's set of the same numbers. No condition but that the numbers are right, and not too many. context.Of is the reference's context of the same dots. No condition but that the dots are right, and not too many. tree.Dots and flag.Check are what the reference says. No condition but that there are not too many entries. What a change hands back: what is known, and an error's number. No condition. tree.Wrap at one key. No condition but that it is not too big. Plain law: what tributaryref08.Wrap tells of a right tree at one key is what tree.Wrap tells. No condition. causal.trees. No condition but that trees are in order, and not too big. Plain law: the leaves of two trees joined. No condition. Plain law: what tributaryref09.Join tells of two trees in order, with right contexts, is joinT. No condition. span.Union is the reference's union. No condition but that both are sets, and not too many. context.by at two right contexts, whatever rule; context.Union. No condition but that there are not too many. span.Minus: the walk. No condition but that there are not too many. -/
import Derived.Lib.RowBridge
import Derived.Shelf.SlSortCmp.NoneTotal
import Derived.Shelf.Slices.CompactS
import Derived.Shelf.Slices.In.SortNone
import Derived.Shelf.Sort.Plain
import Derived.Sort.OwnSorted
import Derived.Test.YtkjijbogbelilaaGreatProg
import Derived.Test.YtkjijbogbelilaaGreatTa3
namespace Go.Proofs.YtkjijbogbelilaaGreat
open Go.RowKit
set_option maxRecDepth 100000

/-- The call hands back a tree that lay in memory before. -/
def RetS (w : World) (t : Tr) (e : Ending) (w' : World) : Prop :=
  ∃ ve vk, e = .returned (.agg #[ve, vk]) ∧ t.rd w w.heap.size ve vk ∧ Below w.heap.size w w'
set_option maxHeartbeats 4000000 in
theorem ckid_any (t : Tr) (s : ByteArray) (ve vk : Value) (w : World) (h : t.rd w w.heap.size ve vk) (ho : t.Ord) :
    Calls Tryz.prog 164 #[.agg #[ve, vk], .string s] w (RetS w (kidT t s)) := by
  have HD := hid h
  have hS : t.ks.Pairwise fun a b => ltS a.1 b.1 = true := by obtain ⟨es, ks⟩ := t; exact (ord_iff.1 ho).2.1
  have HO := hid ho
  obtain ⟨A3, n3, A4, n4, rfl, rfl⟩ := rd_shape h
  have hb0 : Below w.heap.size w ((w.alloc (.cells #[.slice A3 t.es.length n3, .slice A4 t.ks.length n4] 25)).alloc (.cells #[.slice none 0 0, .slice none 0 0] 25)) := ((Below.refl _ w).alloc (Nat.le_refl _) _).alloc (by simp) _
  have hkl : t.ks.length ≤ 140737488355328 := by
    have h1 := HD.out; obtain ⟨es, ks⟩ := t; obtain ⟨_, _, _, _, h2, _⟩ := (rd_iff.1 h1).2; exact h2
  clear h
  go_enter Tryz.func164, Tryz.ntmps164
  go_wp2_with fail
  refine (bsf_any t.ks s _ _ (kids_slp (rd_below hb0 hb0.size t _ _ HD.out)) hS).mono ?_
  rintro e w1 ⟨he, hb1⟩
  have hs1 := hb1.size
  simp only [World.size_alloc] at hs1
  have hB1 : Below w.heap.size w w1 := hb0.trans (hb1.mono (by simp; omega))
  have g2 := (hb1.block w.heap.size (by simp; omega)).trans ((heap_old (by simp)).trans (heap_new (o := .cells #[.slice A3 t.es.length n3, .slice A4 t.ks.length n4] 25) rfl))
  have g4 := (hb1.block (w.heap.size + 1) (by simp)).trans (heap_new (w := w.alloc (.cells #[.slice A3 t.es.length n3, .slice A4 t.ks.length n4] 25)) (by simp))
  have HG4 := hid g4
  have c0 := cell_cells (i := 0) g2
  have c1 := cell_cells (i := 1) g2
  have k0 := cell_cells (i := 0) g4
  have k1 := cell_cells (i := 1) g4
  have z0 := cells_frz (i := 0) g4
  have z1 := cells_frz (i := 1) g4
  simp only [List.getElem?_toArray, List.getElem?_cons_zero, List.getElem?_cons_succ] at c0 c1 k0 k1
  clear g2 g4 hS hb1
  rcases he with ⟨i, u, rfl, hi⟩ | ⟨i, rfl, hn⟩
  · have hil : i < t.ks.length := (List.getElem?_eq_some_iff.1 hi).1
    have hKT : kidT t s = u := kidT_mem HO.out (List.mem_of_getElem? hi)
    obtain ⟨b', off', rfl, hbB', vAe, vne, vAk, vnk, HRV, q1, q2⟩ : ∃ b' off', A4 = some ⟨b', off', none⟩ ∧ b' < w.heap.size ∧ ∃ vAe vne vAk vnk, Hid (u.rd w w.heap.size (.slice vAe u.es.length vne) (.slice vAk u.ks.length vnk)) ∧ w1.cell? ⟨b', off' + i * 3 + 1, none⟩ = some (.slice vAe u.es.length vne) ∧ w1.cell? ⟨b', off' + i * 3 + 2, none⟩ = some (.slice vAk u.ks.length vnk) := by
      have h1 := HD.out
      obtain ⟨es, ks⟩ := t
      obtain ⟨Ak', ck', he, _, _, h3⟩ := (rd_iff.1 h1).2
      cases he
      obtain ⟨b', off', rfl, hbB', hc'⟩ := h3 (by rintro rfl; simp [Tr.ks] at hil)
      obtain ⟨cs, ⟨ve', vk', rfl, _, hrd'⟩, _, hu'⟩ := hc' i _ hi
      obtain ⟨vAe, vne, vAk, vnk, rfl, rfl⟩ := rd_shape hrd'
      exact ⟨b', off', rfl, hbB', vAe, vne, vAk, vnk, hrd', (hB1.cell (p := ⟨b', off' + i * 3 + 1, none⟩) hbB').trans (hu' 1 _ rfl), (hB1.cell (p := ⟨b', off' + i * 3 + 2, none⟩) hbB').trans (hu' 2 _ rfl)⟩
    have HKT := hid hKT
    clear hi hKT
    go_wp2_with fail
    have hW0 := cells_set (i := 1) (cells_set (i := 0) HG4.out (.slice vAe u.es.length vne)) (.slice vAk u.ks.length vnk)
    have r0 := (cell_cells (i := 0) hW0).trans (show _ = some (.slice vAe u.es.length vne) by simp)
    have r1 := (cell_cells (i := 1) hW0).trans (show _ = some (.slice vAk u.ks.length vnk) by simp)
    refine bodyPost_ret (v := .agg #[.slice vAe u.es.length vne, .slice vAk u.ks.length vnk]) (by simp [results, Tryz.results164, go_sem, r0, r1]) rfl ⟨_, _, rfl, (by rw [HKT.out]; exact HRV.out), (hB1.setCell (by simp) _).setCell (by simp) _⟩
  · have HKT : Hid (kidT t s = .mk [] []) := kidT_none hn
    go_wp2_with fail
    have hW0 := cells_set (i := 1) (cells_set (i := 0) HG4.out (.slice none 0 0)) (.slice none 0 0)
    have r0 := (cell_cells (i := 0) hW0).trans (show _ = some (.slice none 0 0) by simp)
    have r1 := (cell_cells (i := 1) hW0).trans (show _ = some (.slice none 0 0) by simp)
    refine bodyPost_ret (v := .agg #[.slice none 0 0, .slice none 0 0]) (by simp [results, Tryz.results164, go_sem, r0, r1]) rfl ⟨_, _, rfl, (by rw [HKT.out]; exact rd_empty), (hB1.setCell (by simp) _).setCell (by simp) _⟩
end Go.Proofs.YtkjijbogbelilaaGreat

namespace Go.Proofs.YtkjijbogbelilaaGreat
open Go.RowKit

theorem dcsOk_of : ∀ (c : List Sp) (L : Int), c.Pairwise (fun a b => a.dc ≤ b.dc) → (∀ s ∈ c, L ≤ s.dc ∧ s.dc < 4) → dcsOk L c = true
  | [], _, _, _ => rfl
  | s :: c, L, hp, ha => by
    rw [List.pairwise_cons] at hp
    rw [dcsOk, dcsOk_of c s.dc hp.2 (fun x hx => ⟨hp.1 x hx, (ha x (by simp [hx])).2⟩)]
    have := ha s (by simp)
    simp [this]
theorem wholeK_dc (ls : Nat → List (Int × Int)) : ∀ k, ∀ s ∈ wholeK ls k, 0 ≤ s.dc ∧ s.dc < k
  | 0, s, h => by simp [wholeK] at h
  | k + 1, s, h => by
    rw [wholeK_succ] at h
    rcases List.mem_append.1 h with h | h
    · have := wholeK_dc ls k s h; omega
    · obtain ⟨r, _, rfl⟩ := List.mem_map.1 h
      show 0 ≤ (k : Int) ∧ (k : Int) < _
      omega
theorem wholeK_pw (ls : Nat → List (Int × Int)) : ∀ k, (wholeK ls k).Pairwise fun a b => a.dc ≤ b.dc
  | 0 => by simp [wholeK]
  | k + 1 => by
    rw [wholeK_succ, List.pairwise_append]
    refine ⟨wholeK_pw ls k, ?_, fun a ha b hb => ?_⟩
    · unfold spansL
      rw [List.pairwise_map]
      exact List.pairwise_of_forall fun _ _ => Int.le_refl _
    · obtain ⟨r, _, rfl⟩ := List.mem_map.1 hb
      have := wholeK_dc ls k a ha
      show a.dc ≤ (k : Int)
      omega
theorem partL_app (a b : List Sp) (dc : Int) : partL (a ++ b) dc = partL a dc ++ partL b dc := by simp [partL]
theorem partL_spans (l : List (Int × Int)) (d dc : Int) : partL (spansL d l) dc = if d = dc then l else [] := by
  unfold partL spansL
  rw [List.filter_map, List.map_map]
  by_cases e : d = dc
  · rw [if_pos e]
    rw [List.filter_eq_self.2 (fun x _ => by simp [e])]
    exact List.map_id'' (fun x => rfl) l
  · rw [if_neg e, List.filter_eq_nil_iff.2 (fun x _ => by simp [e])]; rfl
theorem partL_whole (ls : Nat → List (Int × Int)) : ∀ (k d : Nat), partL (wholeK ls k) d = if d < k then ls d else []
  | 0, d => by simp [wholeK, partL]
  | k + 1, d => by
    rw [wholeK_succ, partL_app, partL_whole ls k d, partL_spans]
    by_cases e : d = k
    · subst e; rw [if_neg (Nat.lt_irrefl _), if_pos rfl, if_pos (Nat.lt_succ_self _)]; rfl
    · rw [if_neg (show ¬ (k : Int) = (d : Int) by omega), List.append_nil]
      by_cases h : d < k
      · rw [if_pos h, if_pos (by omega)]
      · rw [if_neg h, if_neg (by omega)]
theorem apart_whole {ls : Nat → List (Int × Int)} (h : ∀ i, i < 4 → runsR none (ls i) = true) : apartB (wholeK ls 4) = true := by
  unfold apartB
  rw [dcsOk_of _ 0 (wholeK_pw ls 4) (fun s hs => by have := wholeK_dc ls 4 s hs; omega), Bool.true_and, List.all_eq_true]
  intro i hi
  have hi4 : i < 4 := List.mem_range.1 hi
  rw [partL_whole, if_pos hi4]
  exact h i hi4
/-- Two contexts put together of sets of the same numbers are the same. -/
theorem whole_eq {ls ms : Nat → List (Int × Int)} (h : ∀ i, i < 4 → ls i = ms i) : wholeK ls 4 = wholeK ms 4 := by
  unfold wholeK
  rw [List.flatMap_def, List.flatMap_def]
  congr 1
  apply List.map_congr_left
  intro i hi
  rw [h i (List.mem_range.1 hi)]

theorem ctxOf_whole (l : List Dt) : ctxOf l = wholeK (fun i => ofL (numsL l i)) 4 := rfl
theorem nums_ok {l : List Dt} (h : ∀ d ∈ l, d.right = true) (dc : Int) : ∀ x ∈ numsL l dc, 1 ≤ x ∧ x ≤ 1099511627776 := fun x hx => by
  unfold numsL at hx
  obtain ⟨d, hd, rfl⟩ := List.mem_map.1 hx
  have h1 := h d (List.mem_filter.1 hd).1
  simp [Dt.right] at h1
  omega
theorem apart_ctxOf {l : List Dt} (h : ∀ d ∈ l, d.right = true) : apartB (ctxOf l) = true := by
  rw [ctxOf_whole]
  exact apart_whole fun i _ => (ofL_right (nums_ok h i)).1
theorem part_ctxOf (l : List Dt) {d : Nat} (hd : d < 4) : partL (ctxOf l) d = ofL (numsL l d) := by
  rw [ctxOf_whole, partL_whole, if_pos hd]
/-- Of right contexts, context.Has tells what the reference's tells. -/
theorem cHas_eq {c : List Sp} (h : apartB c = true) (d : Dt) : cHas c d = hasC c d := by
  unfold cHas hasC sHas
  rw [h, Bool.true_and]
  cases hd : d.right with
  | false => rfl
  | true =>
    simp only [Bool.true_and]
    have hb : 0 ≤ d.dc ∧ d.dc < 4 := by simp [Dt.right] at hd; omega
    obtain ⟨n, hn⟩ : ∃ n : Nat, d.dc = (n : Int) := ⟨d.dc.toNat, by omega⟩
    unfold apartB at h
    rw [Bool.and_eq_true, List.all_eq_true] at h
    have := h.2 n (List.mem_range.2 (by omega))
    rw [hn, this]; rfl
theorem hasC_ctxOf {l : List Dt} (h : ∀ d ∈ l, d.right = true) {d : Dt} (hd : d.right = true) : hasC (ctxOf l) d = decide (d ∈ l) := by
  have hb : 0 ≤ d.dc ∧ d.dc < 4 := by simp [Dt.right] at hd; omega
  obtain ⟨n, hn⟩ : ∃ n : Nat, d.dc = (n : Int) := ⟨d.dc.toNat, by omega⟩
  unfold hasC
  rw [hd, Bool.true_and, hn, part_ctxOf l (by omega), Bool.eq_iff_iff, (ofL_right (nums_ok h n)).2, decide_eq_true_eq]
  unfold numsL
  rw [List.mem_map]
  constructor
  · rintro ⟨x, hx, he⟩
    obtain ⟨hx1, hx2⟩ := List.mem_filter.1 hx
    have : x = d := by cases x; cases d; simp at *; exact ⟨hx2.trans hn.symm, he⟩
    rw [← this]; exact hx1
  · intro hm
    exact ⟨d, List.mem_filter.2 ⟨hm, by simp [hn]⟩, rfl⟩
end Go.Proofs.YtkjijbogbelilaaGreat

namespace Go.Proofs.YtkjijbogbelilaaGreat
open Go.RowKit

theorem build_one_leaf (x : En) : buildL [([], x)] = .mk [x] [] := by
  unfold buildL deepL
  simp only [List.map_cons, List.map_nil, List.length_nil, List.sum_cons, List.sum_nil, Nat.add_zero]
  rw [buildT]
  have h1 : selEnts [([], x)] = [x] := by
    unfold selEnts
    have hi := lt_irrefl' x.dot
    simp [entsGo, bestE, selS, selC, okP, hi]
  have h2 : bestK [(([] : List ByteArray), x)] ByteArray.empty = ByteArray.empty := by simp [bestK, keyS, keyC]
  rw [h1]
  simp [kidsGo, h2]
theorem ofL_nil : ofL [] = [] := by simp [ofL, ofGo, nextL]
theorem ofL_one {n : Int} (h : 1 ≤ n ∧ n ≤ 1099511627776) : ofL [n] = [(n, n)] := by
  obtain ⟨h1, h2⟩ := ofL_right (ps := [n]) (fun x hx => by simp at hx; subst hx; exact h)
  refine runs_eq _ _ none none h1 ((runsR_one none (n, n)).2 ⟨⟨h.1, Int.le_refl _, h.2⟩, rfl⟩) fun m => ?_
  rw [Bool.eq_iff_iff, h2]
  simp [hasL, inR]
  omega
theorem right_bd {d : Dt} (h : d.right = true) : (0 ≤ d.dc ∧ d.dc < 4) ∧ 1 ≤ d.n ∧ d.n ≤ 1099511627776 := by simpa [Dt.right, and_assoc] using h
theorem ctxOf_one {d : Dt} (h : d.right = true) : ctxOf [d] = [⟨d.dc, d.n, d.n⟩] := by
  obtain ⟨h1, h2⟩ := right_bd h
  rw [ctxOf_whole]
  have hk : ∀ i : Nat, ofL (numsL [d] (i : Int)) = if d.dc = (i : Int) then [(d.n, d.n)] else [] := fun i => by
    by_cases e : d.dc = (i : Int)
    · rw [if_pos e, show numsL [d] (i : Int) = [d.n] by simp [numsL, e], ofL_one h2]
    · rw [if_neg e, show numsL [d] (i : Int) = [] by simp [numsL, e], ofL_nil]
  unfold wholeK
  simp only [hk]
  rcases (show d.dc = 0 ∨ d.dc = 1 ∨ d.dc = 2 ∨ d.dc = 3 by omega) with e | e | e | e <;> simp [e, List.range_succ, spansL]
theorem ctxBy_whole (a b : List Sp) (how : Int) : ctxBy a b how = wholeK (fun i => byL (partL a i) (partL b i) how) 4 := rfl
theorem runs_ok : ∀ (l : List (Int × Int)) (p : Option Int), runsR p l = true → ∀ r ∈ l, runOk r
  | x :: l, p, h, r, hr => by
    rw [runsR_iff] at h
    rcases List.mem_cons.1 hr with rfl | hr
    · exact h.1
    · exact runs_ok l _ h.2.2 r hr
theorem apart_part {c : List Sp} (h : apartB c = true) {i : Nat} (hi : i < 4) : runsR none (partL c i) = true := by
  unfold apartB at h
  rw [Bool.and_eq_true, List.all_eq_true] at h
  exact h.2 i (List.mem_range.2 hi)
theorem apart_dcs : ∀ (c : List Sp) (L : Int), dcsOk L c = true → ∀ s ∈ c, L ≤ s.dc ∧ s.dc < 4
  | s :: c, L, h, x, hx => by
    rw [dcsOk, Bool.and_eq_true, Bool.and_eq_true, decide_eq_true_eq, decide_eq_true_eq] at h
    rcases List.mem_cons.1 hx with rfl | hx
    · exact ⟨h.1.1, h.1.2⟩
    · have := apart_dcs c s.dc h.2 x hx; exact ⟨by omega, this.2⟩
theorem dcs_split : ∀ (c : List Sp) (L : Nat), dcsOk (L : Int) c = true → ∀ n, L + n = 4 → c = (List.range' L n).flatMap fun (dc : Nat) => spansL (dc : Int) (partL c (dc : Int))
  | c, L, h, 0, hn => by
    cases c with
    | nil => rfl
    | cons s c => have := apart_dcs _ _ h s (by simp); omega
  | c, L, h, n + 1, hn => by
    rw [List.range'_succ, List.flatMap_cons]
    have key : ∀ (c : List Sp) (L : Int), dcsOk L c = true → ∃ c', c = spansL L (partL c L) ++ c' ∧ dcsOk (L + 1) c' = true := by
      intro c
      induction c with
      | nil => intro L _; exact ⟨[], by simp [partL, spansL], rfl⟩
      | cons s c ih =>
        intro L h
        rw [dcsOk, Bool.and_eq_true, Bool.and_eq_true, decide_eq_true_eq, decide_eq_true_eq] at h
        obtain ⟨⟨h1, h2⟩, h3⟩ := h
        by_cases e : s.dc = L
        · rw [e] at h3
          obtain ⟨c', hc, hd⟩ := ih L h3
          refine ⟨c', ?_, hd⟩
          have hp : partL (s :: c) L = (s.fr, s.hi) :: partL c L := by simp [partL, e]
          rw [hp]
          conv => lhs; rw [hc]
          unfold spansL
          rw [List.map_cons, List.cons_append]
          congr 1
          cases s; simp at e; simp [e]
        · refine ⟨s :: c, ?_, ?_⟩
          · have hp : partL (s :: c) L = [] := by
              unfold partL
              rw [List.filter_eq_nil_iff.2, List.map_nil]
              intro x hx
              have : s.dc ≤ x.dc := by
                rcases List.mem_cons.1 hx with rfl | hx
                · exact Int.le_refl _
                · exact (apart_dcs c s.dc h3 x hx).1
              simp; omega
            rw [hp]; rfl
          · rw [dcsOk, h3]; simp; omega
    obtain ⟨c', hc, hd⟩ := key c L h
    have ih := dcs_split c' (L + 1) (by exact_mod_cast hd) n (by omega)
    have hpc : ∀ dc : Nat, L + 1 ≤ dc → partL c dc = partL c' dc := fun dc hdc => by
      rw [hc, partL_app, partL_spans, if_neg (by omega)]; rfl
    conv => lhs; rw [hc, ih]
    congr 1
    rw [List.flatMap_def, List.flatMap_def]
    congr 1
    apply List.map_congr_left
    intro i hi
    rw [hpc i (by have := List.mem_range'_1.1 hi; omega)]
/-- A right context is put together of its parts. -/
theorem whole_part {c : List Sp} (h : apartB c = true) : wholeK (fun i => partL c i) 4 = c := by
  unfold apartB at h
  rw [Bool.and_eq_true] at h
  have := dcs_split c 0 h.1 4 rfl
  unfold wholeK
  rw [List.range_eq_range']
  exact this.symm
/-- The reference's union with nothing. -/
theorem union_nil {c : List Sp} (h : apartB c = true) : ctxBy [] c 0 = c := by
  rw [ctxBy_whole]
  conv => rhs; rw [← whole_part h]
  refine whole_eq fun i hi => ?_
  have hr := apart_part h hi
  have ha : ∀ r ∈ partL ([] : List Sp) i, runOk r := fun r hr => by simp [partL] at hr
  obtain ⟨h1, h2⟩ := byL_right (a := partL ([] : List Sp) i) (b := partL c i) 0 ha (runs_ok _ _ hr)
  refine runs_eq _ _ none none h1 hr fun n => ?_
  rw [h2]
  simp [inn, hasL, partL]
theorem put_ctx {d : Dt} (h : d.right = true) : ctxBy [] [⟨d.dc, d.n, d.n⟩] 0 = ctxOf [d] := by
  rw [← ctxOf_one h]
  exact union_nil (apart_ctxOf fun x hx => by simp at hx; subst hx; exact h)
end Go.Proofs.YtkjijbogbelilaaGreat

namespace Go.Proofs.YtkjijbogbelilaaGreat
open Go.RowKit Go.Sort
set_option maxRecDepth 100000

def toBy (s : ByteArray) : List UInt8 := s.data.toList
def ofBy (l : List UInt8) : ByteArray := ⟨l.toArray⟩
theorem ofBy_toBy (s : ByteArray) : ofBy (toBy s) = s := rfl
theorem toBy_ofBy (l : List UInt8) : toBy (ofBy l) = l := rfl
theorem map_of_to (ds : List ByteArray) : (ds.map toBy).map ofBy = ds := by
  rw [List.map_map]
  conv => rhs; rw [← List.map_id ds]
  rfl
theorem map_to_of (ds : List (List UInt8)) : (ds.map ofBy).map toBy = ds := by
  rw [List.map_map]
  conv => rhs; rw [← List.map_id ds]
  rfl
/-- Texts, in order. -/
def srtL (ds : List ByteArray) : List ByteArray := ((ds.map toBy).mergeSort fun x y => decide (x ≤ y)).map ofBy
/-- Texts, neighbours that are the same once. -/
def cmpL (ds : List ByteArray) : List ByteArray := (Lib.compact (ds.map toBy)).map ofBy
theorem flat_one {α : Type} (f : α → Value) (l : List α) : (l.map fun x => [f x]).flatten = l.map f := by
  induction l with
  | nil => rfl
  | cons x l ih => simp [ih]
theorem own_strs {w : World} {base : Nat} {e : TypeId} {v : Value} {ds : List ByteArray} (h : OwnP w base e 1 StE v ds) : (v = .slice none 0 0 ∧ ds = []) ∨
    ∃ b cap cur, v = .slice (some ⟨b, 0, none⟩) ds.length cap ∧ base ≤ b ∧ w.heap[b]? = some (.cells cur e (0, 0)) ∧ ds.length ≤ cap ∧ cap ≤ maxLen ∧ cur.size = cap * 1 ∧ cur.toList.take (ds.map toBy).length = (ds.map toBy).map encStr ∧ ∀ x ∈ ds, x.size ≤ Big := by
  obtain ⟨css, h1, h2, h3⟩ := h
  rcases h3 with ⟨rfl, hn⟩ | ⟨b, cap, cur, rfl, hb, hg, hnc, hm, hcs, ht⟩
  · exact .inl ⟨rfl, List.eq_nil_of_length_eq_zero hn⟩
  · refine .inr ⟨b, cap, cur, rfl, hb, hg, hnc, hm, hcs, ?_, fun x hx => ?_⟩
    · have hcss : css = ds.map fun x => [Value.string x] := by
        apply List.ext_getElem?
        intro j
        by_cases hj : j < ds.length
        · obtain ⟨cs, hcs, ⟨hcv, _⟩, _⟩ := h1.2 j ds[j] (List.getElem?_eq_getElem hj)
          rw [hcs, List.getElem?_map, List.getElem?_eq_getElem hj, hcv]; rfl
        · rw [List.getElem?_eq_none (by rw [h1.1]; omega), List.getElem?_eq_none (by simp; omega)]
      rw [Nat.mul_one, hcss, flat_one] at ht
      rw [List.length_map, ht, List.map_map]
      rfl
    · obtain ⟨j, hj⟩ := List.getElem?_of_mem hx
      obtain ⟨cs, _, ⟨_, hr⟩, _⟩ := h1.2 j x hj
      exact hr
theorem own_of {w : World} {base : Nat} {e : TypeId} {v : Value} {ts : List (List UInt8)} (h : w.ownsRow base e 1 v ts.length (ts.map encStr)) (hs : ∀ x ∈ ts, (ofBy x).size ≤ Big) : OwnP w base e 1 StE v (ts.map ofBy) := by
  refine ⟨ts.map fun l => [encStr l], ⟨by simp, fun j x hx => ?_⟩, ?_⟩
  · rw [List.getElem?_map] at hx
    obtain ⟨y, hy, rfl⟩ := Option.map_eq_some_iff.1 hx
    exact ⟨[encStr y], by rw [List.getElem?_map, hy]; rfl, ⟨rfl, hs y (List.mem_of_getElem? hy)⟩, rfl⟩
  · rw [flat_one, List.length_map]; exact h

theorem sortStr_any (ds : List ByteArray) (v : Value) (w : World) (base : Nat) (h : OwnP w base 9 1 StE v ds) (hl : ds.length ≤ 900000) (hbase : base ≤ w.heap.size) :
    Calls Tryz.prog 109 #[v] w fun e w' => e = .returned (.tuple #[]) ∧ OwnP w' base 9 1 StE v (srtL ds) ∧ Below base w w' := by
  rcases own_strs h with ⟨rfl, rfl⟩ | ⟨b, cap, cur, rfl, hb, hg, hnc, hm, hcs, ht, hz⟩
  · refine (Any.slices_Sort_string_none Tryz.sortStr none 0 w).mono ?_
    rintro e w' ⟨rfl, rfl⟩
    exact ⟨rfl, by simpa [srtL] using OwnP.nil, Below.refl _ _⟩
  · have hlt : b < w.heap.size := (Array.getElem?_eq_some_iff.1 hg).1
    have hH : Holds encStr w b 0 (ds.map toBy).toArray := holds_of_block hg ht
    have hcon := Any.slices_Sort_string Tryz.sortStr b 0 cap (ds.map toBy) w hH hlt (by rw [List.length_map]; omega)
    rw [List.length_map] at hcon
    refine Calls.mono hcon ?_
    rintro e w' ⟨rfl, n, os, rfl⟩
    have hp : ((ds.map toBy).mergeSort fun x y => decide (x ≤ y)).Perm (ds.map toBy) := List.mergeSort_perm _ _
    have hrow := ownsRow_sorted (n := n) (os := os) (ss := ds.map toBy) (ts := (ds.map toBy).mergeSort fun x y => decide (x ≤ y)) hp.length_eq hb hg (by rw [List.length_map]; exact hnc) hm hcs
    rw [← hp.length_eq] at hrow
    refine ⟨rfl, ?_, (Below.refl base w).grown (grownBy_sorted _) hbase (fun g hg => by cases hg; exact hb)⟩
    have hlen : ((ds.map toBy).mergeSort fun x y => decide (x ≤ y)).length = ds.length := by rw [hp.length_eq, List.length_map]
    have := own_of hrow (fun x hx => by
      obtain ⟨y, hy, rfl⟩ := List.mem_map.1 (hp.subset hx)
      exact hz y hy)
    rw [hlen] at this
    exact this

theorem compactStr_any (ds : List ByteArray) (v : Value) (w : World) (base : Nat) (h : OwnP w base 9 1 StE v ds) (hl : ds.length ≤ 900000) (hbase : base ≤ w.heap.size) :
    Calls Tryz.prog 110 #[v] w fun e w' => ∃ v', e = .returned v' ∧ OwnP w' base 9 1 StE v' (cmpL ds) ∧ Below base w w' := by
  rcases own_strs h with ⟨rfl, rfl⟩ | ⟨b, cap, cur, rfl, hb, hg, hnc, hm, hcs, ht, hz⟩
  · refine (Any.slices_Compact_string_empty Tryz.compactStr none 0 w).mono ?_
    rintro e w' ⟨rfl, rfl⟩
    exact ⟨_, rfl, by simpa [cmpL, Lib.compact, Lib.compactUpTo] using OwnP.nil, Below.refl _ _⟩
  · have hlt : b < w.heap.size := (Array.getElem?_eq_some_iff.1 hg).1
    have hH : Holds encStr w b 0 (ds.map toBy).toArray := holds_of_block hg ht
    have hcon := Any.slices_Compact_string Tryz.compactStr b 0 cap (ds.map toBy) w hH (by rw [List.length_map]; omega) (by rw [List.length_map]; exact hnc)
    rw [List.length_map] at hcon
    refine Calls.mono hcon ?_
    rintro e w' ⟨rfl, n, rfl⟩
    have hcl := Lib.compact_length_le (ds.map toBy)
    rw [List.length_map] at hcl
    have hm2 : ∀ x ∈ Lib.compact (ds.map toBy), x ∈ ds.map toBy := fun x hx => by
      unfold Lib.compact Lib.compactUpTo at hx
      obtain ⟨j, hj, rfl⟩ := List.mem_map.1 hx
      have hj' : j < (ds.map toBy).length := List.mem_range.1 (List.mem_filter.1 hj).1
      rw [getElem!_pos _ j (by simpa using hj')]
      simpa using List.getElem_mem hj'
    have hcm : cmpL ds = (Lib.compact (ds.map toBy)).map ofBy := rfl
    rw [hcm]
    generalize Lib.compact (ds.map toBy) = ts at hcl hm2 ⊢
    refine ⟨_, rfl, ?_, ?_⟩
    · have hF : (ts ++ List.replicate (ds.length - ts.length) []).length = ds.length := by simp; omega
      have htk := take_putCells cur (ts ++ List.replicate (ds.length - ts.length) []) (by rw [hF, hcs]; omega)
      have hheap : (putRow encStr (Sort.ahead w n) b 0 (ts ++ List.replicate (ds.length - ts.length) []).toArray).heap[b]? = some (.cells (putCells encStr 0 (ts ++ List.replicate (ds.length - ts.length) []).toArray cur) 9 (0, 0)) := by
        simp [putRow, mapBlock, Sort.ahead, Array.getElem?_modify, hg, onCells]
      refine own_of (v := .slice (some ⟨b, 0, none⟩) ts.length cap) ⟨by simp, .inr ⟨b, cap, _, rfl, hb, hheap, by omega, hm, by simp [putCells, hcs], ?_⟩⟩ (fun x hx => by
        obtain ⟨y, hy, rfl⟩ := List.mem_map.1 (hm2 x hx)
        exact hz y hy)
      have := congrArg (List.take ts.length) htk
      rw [List.take_take, hF, Nat.min_eq_left hcl, ← List.map_take, List.take_left] at this
      rw [Nat.mul_one]; exact this
    · refine (Below.refl base w).grown (w' := putRow encStr (Sort.ahead w n) b 0 (ts ++ List.replicate (ds.length - ts.length) []).toArray) (row := some b) ⟨rfl, rfl, rfl, by simp, fun k hk hne => ?_⟩ hbase (fun g hg => by cases hg; exact hb)
      have : b ≠ k := fun e => hne (by rw [e])
      simp [putRow, mapBlock, Sort.ahead, Array.getElem?_modify, this]
end Go.Proofs.YtkjijbogbelilaaGreat

namespace Go.Proofs.YtkjijbogbelilaaGreat
open Go.RowKit
set_option maxRecDepth 100000

/-- The texts of a tree's own entries. -/
def txtL (t : Tr) : List ByteArray := t.es.map (·.s)
/-- What register.Values tells. -/
def valsOf (t : Tr) : List ByteArray := cmpL (srtL (if t.right 5 then txtL t else []))
theorem srtL_len (l : List ByteArray) : (srtL l).length = l.length := by unfold srtL; rw [List.length_map, (List.mergeSort_perm _ _).length_eq, List.length_map]
set_option maxHeartbeats 4000000 in
theorem rvals_any (t : Tr) (w : World) (ve vk : Value) (h : t.rd w w.heap.size ve vk) (hN : t.es.length ≤ 900000) :
    Calls Tryz.prog 61 #[.agg #[ve, vk]] w (RetO w 9 1 (fun _ => StE) (valsOf t)) := by
  have HC : Hid (∀ w', Below w.heap.size w w' → t.rd w' w'.heap.size ve vk) := fun w' hb => rd_below hb hb.size _ _ _ h
  have HK0 : Hid (valsOf t = cmpL (srtL (if t.right 5 then t.es.map (·.s) else []))) := rfl
  obtain ⟨es, ks⟩ := t
  rw [rd_iff] at h
  obtain ⟨⟨A, m, rfl, c1, c2, c3⟩, ⟨A0, n0, rfl, d1, d2, d3⟩⟩ := h
  unfold Big at c2 d2
  simp only [Tr.es] at hN HK0 ⊢
  have hb0 : Below w.heap.size w (w.alloc (.cells #[.slice A es.length m, .slice A0 ks.length n0] 25)) := (Below.refl _ w).alloc (Nat.le_refl _) _
  go_enter Tryz.func61, Tryz.ntmps61
  go_wp2_with fail
  refine (tRight_any _ _ _ _ (HC.out _ hb0)).mono ?_
  rintro e w1 ⟨rfl, hb1⟩
  have hs1 := hb1.size
  simp only [World.size_alloc] at hs1
  have hB1 : Below w.heap.size w w1 := hb0.trans (hb1.mono (by simp))
  have b0 : w1.cell? ⟨w.heap.size, 0, none⟩ = some (.slice A es.length m) := by rw [hb1.cell (p := ⟨w.heap.size, 0, none⟩) (by simp)]; simp
  cases hr : (Tr.mk es ks).right 5
  · have HK1 : Hid (valsOf (.mk es ks) = cmpL (srtL [])) := by unfold Hid; rw [HK0.out, hr]; rfl
    obtain ⟨L, hL⟩ : ∃ L : List ByteArray, L = [] := ⟨_, rfl⟩
    have HK : Hid (valsOf (.mk es ks) = cmpL (srtL L)) := by unfold Hid; rw [hL]; exact HK1.out
    have hLl : L.length ≤ 900000 := by rw [hL]; simp
    obtain ⟨wr, hwr⟩ : ∃ wr, wr = w1 := ⟨_, rfl⟩
    subst hwr
    have hown : OwnP wr (w.heap.size + 1) 9 1 StE (.slice none 0 0) L := by rw [hL]; exact OwnP.nil
    have hB0 := hB1
    clear hr hL
    go_wp2_with fail
    refine (sortStr_any L _ wr (w.heap.size + 1) hown hLl (by omega)).mono ?_
    rintro e w2 ⟨rfl, ho2, hb2⟩
    have hs2 := hb2.size
    have hll := srtL_len L
    go_wp2_with fail
    refine (compactStr_any (srtL L) _ w2 (w.heap.size + 1) ho2 (by omega) (by omega)).mono ?_
    rintro e w3 ⟨v3, rfl, ho3, hb3⟩
    go_wp2_with fail
    go_ret
    exact ⟨_, rfl, by rw [HK.out]; exact ho3.mono (by omega), hB0.trans ((hb2.trans hb3).mono (by omega))⟩
  have HK1 : Hid (valsOf (.mk es ks) = cmpL (srtL (es.map (·.s)))) := by unfold Hid; rw [HK0.out, hr]; rfl
  clear hr d3 d2 d1
  go_wp2_with fail
  go_loopw [3, 11] (fun v i wr => ∃ k : Nat, k ≤ es.length ∧ i = .int .i64 k ∧ OwnP wr (w.heap.size + 1) 9 1 StE v ((es.take k).map (·.s)) ∧ Below (w.heap.size + 1) w1 wr) (fun _ i _ => es.length - (intOf i).toNat)
  case atStart => exact ⟨0, Nat.zero_le _, rfl, OwnP.nil, Below.refl _ _⟩
  case round =>
    obtain ⟨k, hk, rfl, hown, hb⟩ := hrel
    have hsz := hb.size
    have hB0 : Below w.heap.size w wr := hB1.trans (hb.mono (by omega))
    by_cases hlt : k < es.length
    · obtain ⟨x, hx⟩ : ∃ x, es[k]? = some x := ⟨_, List.getElem?_eq_getElem hlt⟩
      obtain ⟨b, off, rfl, hbB, hc⟩ := c3 (by rintro rfl; simp at hlt)
      obtain ⟨cs, ⟨rfl, hok⟩, _, hu⟩ := hc k _ hx
      have e0 : wr.cell? ⟨b, off + k * 4, none⟩ = some (.int .i64 x.dc) := (hB0.cell hbB).trans (hu 0 _ rfl)
      have e1 : wr.cell? ⟨b, off + k * 4 + 1, none⟩ = some (.int .i64 x.n) := (hB0.cell hbB).trans (hu 1 _ rfl)
      have e2 : wr.cell? ⟨b, off + k * 4 + 2, none⟩ = some (.string x.s) := (hB0.cell hbB).trans (hu 2 _ rfl)
      have e3 : wr.cell? ⟨b, off + k * 4 + 3, none⟩ = some (.int .i64 x.v) := (hB0.cell hbB).trans (hu 3 _ rfl)
      have HX : Hid ((es.take (k + 1)).map (·.s) = (es.take k).map (·.s) ++ [x.s]) := by unfold Hid; rw [List.take_add_one, hx]; simp
      have HL : Hid (((es.take k).map (·.s)).length + [x.s].length ≤ Few) := by unfold Hid Few; simp; omega
      have HKY : Hid (StE x.s [.string x.s]) := ⟨rfl, hok.s⟩
      clear hu hc c3 hx hb0 hb1 b0 hok
      go_wp2_with (at_builtin; go_loud ((with_reducible refine wpList_few rfl (.tmp 15) (.tmp 18) _ rfl eiStr (by decide) (by decide) (fun _ _ h => StE.one h) rfl ((hown.alloc _).alloc _) rfl (SlP.oneN (x := x.s) HKY.out rfl _ rfl) HL.out (by simp only [World.size_alloc]; omega) ?_); intro v1 w2 hown1 hb2 _; have hb3 := (((Below.refl (w.heap.size + 1) wr).alloc (by omega) _).alloc (by simp only [World.size_alloc]; omega) _).trans hb2))
      go_roundw
      case rel => exact ⟨k + 1, by omega, by go_num, by rw [HX.out]; exact hown1, hb.trans hb3⟩
      case measure => simp [intOf]; omega
    · obtain rfl : k = es.length := by omega
      rw [List.take_of_length_le (Nat.le_refl _)] at hown
      have hLl : (es.map (·.s)).length ≤ 900000 := by simp; omega
      have HK := HK1
      clear HK1 HK0 c3
      generalize es.map (·.s) = L at *
      go_wp2_with fail
      refine (sortStr_any L _ wr (w.heap.size + 1) hown hLl (by omega)).mono ?_
      rintro e w2 ⟨rfl, ho2, hb2⟩
      have hs2 := hb2.size
      have hll := srtL_len L
      go_wp2_with fail
      refine (compactStr_any (srtL L) _ w2 (w.heap.size + 1) ho2 (by omega) (by omega)).mono ?_
      rintro e w3 ⟨v3, rfl, ho3, hb3⟩
      go_wp2_with fail
      go_ret
      exact ⟨_, rfl, by rw [HK.out]; exact ho3.mono (by omega), hB0.trans ((hb2.trans hb3).mono (by omega))⟩
end Go.Proofs.YtkjijbogbelilaaGreat

namespace Go.Proofs.YtkjijbogbelilaaGreat
open Go.RowKit
set_option maxRecDepth 100000

def okT : Option ByteArray → ByteArray → Bool
  | none, _ => true
  | some q, x => ltS q x
/-- Is a text the next one? -/
def pickC (last b : Option ByteArray) (x : ByteArray) : Bool := okT last x && (match b with | none => true | some c => ltS x c)
def pickS (last b : Option ByteArray) (x : ByteArray) : Option ByteArray := if pickC last b x then some x else b
def sdGo (l : List ByteArray) : Nat → List ByteArray → List ByteArray
  | 0, out => out
  | n + 1, out => match l.foldl (pickS out.getLast?) none with | none => out | some b => sdGo l n (out ++ [b])
/-- What tributaryref10.Sorted tells. -/
def sdL (l : List ByteArray) : List ByteArray := sdGo l (l.length + 1) []
def ahT (l : List ByteArray) (last : Option ByteArray) : Nat := (l.filter fun x => okT last x).length
theorem pick_take {l : List ByteArray} {k : Nat} {x : ByteArray} (h : l[k]? = some x) (last b : Option ByteArray) : (l.take (k + 1)).foldl (pickS last) b = pickS last ((l.take k).foldl (pickS last) b) x := by
  rw [List.take_add_one, h, List.foldl_append]; rfl
theorem pick_mem (l : List ByteArray) (last : Option ByteArray) : ∀ (b : Option ByteArray), (∀ e, b = some e → okT last e = true) → ∀ e, l.foldl (pickS last) b = some e → (b = some e ∨ e ∈ l) ∧ okT last e = true := by
  induction l with
  | nil => intro b hb e he; exact ⟨.inl he, hb e he⟩
  | cons x l ih =>
    intro b hb e he
    rw [List.foldl_cons] at he
    by_cases hc : pickC last b x = true
    · have e1 : pickS last b x = some x := by simp [pickS, hc]
      rw [e1] at he
      simp only [pickC, Bool.and_eq_true] at hc
      obtain ⟨h1, h2⟩ := ih (some x) (fun e he => by cases he; exact hc.1) e he
      refine ⟨.inr ?_, h2⟩
      rcases h1 with h1 | h1
      · cases h1; simp
      · exact List.mem_cons_of_mem _ h1
    · have e1 : pickS last b x = b := by simp [pickS, hc]
      rw [e1] at he
      obtain ⟨h1, h2⟩ := ih b hb e he
      refine ⟨?_, h2⟩
      rcases h1 with h1 | h1
      · exact .inl h1
      · exact .inr (List.mem_cons_of_mem _ h1)
theorem pick_min (l : List ByteArray) (last : Option ByteArray) : ∀ (b : Option ByteArray), (∀ c, b = some c → ∃ e, l.foldl (pickS last) b = some e ∧ ltS c e = false) ∧ ∀ x ∈ l, okT last x = true → ∃ e, l.foldl (pickS last) b = some e ∧ ltS x e = false := by
  induction l with
  | nil => intro b; exact ⟨fun c h => ⟨c, h, ltS_irrefl _⟩, fun _ h => by cases h⟩
  | cons y l ih =>
    intro b
    rw [List.foldl_cons]
    obtain ⟨i1, i2⟩ := ih (pickS last b y)
    refine ⟨fun c hc => ?_, fun x hx h2 => ?_⟩
    · subst hc
      by_cases hs : pickC last (some c) y = true
      · obtain ⟨e, he, hle⟩ := i1 y (by simp [pickS, hs])
        refine ⟨e, he, ?_⟩
        simp only [pickC, Bool.and_eq_true] at hs
        cases hce : ltS c e
        · rfl
        · rw [ltS_trans hs.2 hce] at hle; cases hle
      · exact i1 c (by simp [pickS, hs])
    · rcases List.mem_cons.1 hx with rfl | hx
      · cases b with
        | none =>
          have hs : pickC last none x = true := by simp [pickC, h2]
          exact i1 x (by simp [pickS, hs])
        | some c =>
          by_cases hs : pickC last (some c) x = true
          · exact i1 x (by simp [pickS, hs])
          · obtain ⟨e, he, hle⟩ := i1 c (by simp [pickS, hs])
            refine ⟨e, he, ?_⟩
            have hxc : ltS x c = false := by
              cases hxc : ltS x c
              · rfl
              · exact absurd (by simp [pickC, h2, hxc]) hs
            cases hxe : ltS x e
            · rfl
            · cases hec : ltS e c
              · have := ltS_total hec hle; rw [this] at hxe; rw [hxe] at hxc; cases hxc
              · rw [ltS_trans hxe hec] at hxc; cases hxc
      · exact i2 x hx h2
theorem okT_trans {last : Option ByteArray} {a b : ByteArray} (h : okT last a = true) (k : ltS a b = true) : okT last b = true := by
  cases last with
  | none => rfl
  | some q => exact ltS_trans h k
theorem ahT_lt {l : List ByteArray} {last : Option ByteArray} {e : ByteArray} (h : l.foldl (pickS last) none = some e) : ahT l (some e) < ahT l last := by
  obtain ⟨h1, h2⟩ := pick_mem l last none (fun _ h => by cases h) e h
  rcases h1 with h1 | h1
  · cases h1
  · exact filter_lt h1 (fun y hy => okT_trans h2 hy) h2 (ltS_irrefl _)
theorem ahT_le (l : List ByteArray) (last : Option ByteArray) : ahT l last ≤ l.length := List.length_filter_le _ _
theorem sdGo_spec (l : List ByteArray) : ∀ (n : Nat) (out : List ByteArray), ahT l out.getLast? < n → (out.Pairwise fun a b => ltS a b = true) → (∀ e ∈ out, e ∈ l) → (∀ x ∈ l, okT out.getLast? x = false → x ∈ out) →
    ((sdGo l n out).Pairwise fun a b => ltS a b = true) ∧ (∀ e ∈ sdGo l n out, e ∈ l) ∧ ∀ x ∈ l, x ∈ sdGo l n out
  | 0, _, h, _, _, _ => absurd h (Nat.not_lt_zero _)
  | n + 1, out, h, h1, h2, h3 => by
    rw [sdGo]
    cases hb : l.foldl (pickS out.getLast?) none with
    | none =>
      refine ⟨h1, h2, fun x hx => ?_⟩
      cases ho : okT out.getLast? x
      · exact h3 x hx ho
      · obtain ⟨e, he, _⟩ := (pick_min l out.getLast? none).2 x hx ho
        rw [hb] at he; cases he
    | some e =>
      obtain ⟨hm, hok⟩ := pick_mem l out.getLast? none (fun _ h => by cases h) e hb
      have hel : e ∈ l := by
        rcases hm with hm | hm
        · cases hm
        · exact hm
      have hle : (out ++ [e]).getLast? = some e := by simp
      refine sdGo_spec l n (out ++ [e]) ?_ ?_ ?_ ?_
      · rw [hle]; have := ahT_lt hb; omega
      · rw [List.pairwise_append]
        refine ⟨h1, List.pairwise_singleton _ _, fun a ha b hb' => ?_⟩
        rw [List.mem_singleton] at hb'; subst hb'
        rcases List.eq_nil_or_concat out with rfl | ⟨out', z, rfl⟩
        · cases ha
        · rw [List.concat_eq_append] at *
          rw [List.getLast?_append] at hok
          have hz : ltS z b = true := hok
          rcases List.mem_append.1 ha with ha | ha
          · exact ltS_trans ((List.pairwise_append.1 h1).2.2 a ha z (by simp)) hz
          · rw [List.mem_singleton] at ha; subst ha; exact hz
      · intro a ha
        rcases List.mem_append.1 ha with ha | ha
        · exact h2 a ha
        · rw [List.mem_singleton] at ha; subst ha; exact hel
      · intro x hx ho
        rw [hle] at ho
        have ho : ltS e x = false := ho
        cases ho' : okT out.getLast? x
        · exact List.mem_append_left _ (h3 x hx ho')
        · obtain ⟨e', he', hmn⟩ := (pick_min l out.getLast? none).2 x hx ho'
          rw [hb] at he'; cases he'
          rw [ltS_total ho hmn]; simp
theorem sdL_spec (l : List ByteArray) : ((sdL l).Pairwise fun a b => ltS a b = true) ∧ ∀ x, x ∈ sdL l ↔ x ∈ l := by
  obtain ⟨h1, h2, h3⟩ := sdGo_spec l (l.length + 1) [] (by have := ahT_le l ([] : List ByteArray).getLast?; omega) .nil (fun _ h => by cases h) (fun x _ h => by simp [okT] at h)
  exact ⟨h1, fun x => ⟨h2 x, h3 x⟩⟩

theorem ltS_to (a b : ByteArray) : ltS a b = decide (toBy a < toBy b) := by
  unfold ltS toBy
  rw [bytesLess_eq, ByteArray.toList_eq, ByteArray.toList_eq]
theorem compact_mem {zs : List (List UInt8)} (x : List UInt8) : x ∈ Lib.compact zs ↔ x ∈ zs := by
  unfold Lib.compact Lib.compactUpTo
  rw [List.mem_map]
  constructor
  · rintro ⟨j, hj, rfl⟩
    have hj' : j < zs.length := List.mem_range.1 (List.mem_filter.1 hj).1
    rw [getElem!_pos _ j (by simpa using hj')]
    simp
  · intro hx
    obtain ⟨i, hi, rfl⟩ := List.getElem_of_mem hx
    have key : ∀ i (hi : i < zs.length), ∃ j, j ∈ (List.range zs.length).filter (Lib.keeps zs.toArray) ∧ zs.toArray[j]! = zs[i] := by
      intro i
      induction i using Nat.strongRecOn with
      | ind i ih =>
        intro hi
        have hg : zs.toArray[i]! = zs[i] := by rw [getElem!_pos _ i (by simpa using hi)]; simp
        by_cases hk : Lib.keeps zs.toArray i = true
        · exact ⟨i, List.mem_filter.2 ⟨List.mem_range.2 hi, hk⟩, hg⟩
        · unfold Lib.keeps at hk
          simp only [decide_eq_true_eq, not_or, ne_eq, Decidable.not_not] at hk
          obtain ⟨j, hj, he⟩ := ih (i - 1) (by omega) (by omega)
          refine ⟨j, hj, ?_⟩
          rw [he, ← hg, hk.2, getElem!_pos _ (i - 1) (by simp; omega)]; simp
    obtain ⟨j, hj, he⟩ := key i hi
    exact ⟨j, hj, he⟩
theorem compact_sorted {zs : List (List UInt8)} (h : zs.Pairwise fun a b => a ≤ b) : (Lib.compact zs).Pairwise fun a b => a < b := by
  unfold Lib.compact Lib.compactUpTo
  rw [List.pairwise_map, List.pairwise_filter]
  have hr := List.pairwise_lt_range (n := zs.length)
  refine hr.imp_of_mem fun {i j} hi hj hij _ hk => ?_
  have hi' := List.mem_range.1 hi
  have hj' := List.mem_range.1 hj
  rw [List.pairwise_iff_getElem] at h
  unfold Lib.keeps at hk
  simp only [decide_eq_true_eq, ne_eq] at hk
  have hne : zs.toArray[j]! ≠ zs.toArray[j - 1]! := by
    rcases hk with hk | hk
    · omega
    · exact hk
  rw [getElem!_pos _ j (by simpa using hj'), getElem!_pos _ (j - 1) (by simp; omega)] at hne
  rw [getElem!_pos _ i (by simpa using hi'), getElem!_pos _ j (by simpa using hj')]
  simp only [List.getElem_toArray] at hne ⊢
  have h1 : zs[j - 1]'(by omega) ≤ zs[j] := h (j - 1) j (by omega) hj' (by omega)
  have h2 : zs[i] ≤ zs[j - 1]'(by omega) := by
    by_cases he : i = j - 1
    · subst he; exact List.le_refl _
    · exact h i (j - 1) hi' (by omega) (by omega)
  have h3 : zs[j - 1]'(by omega) < zs[j] := by
    rcases Decidable.em (zs[j - 1]'(by omega) < zs[j]) with h4 | h4
    · exact h4
    · exact absurd (List.le_antisymm (List.not_lt.1 h4) h1) hne
  rcases Decidable.em (zs[i] < zs[j]) with h4 | h4
  · exact h4
  · exact absurd h3 (List.not_lt.2 (List.le_trans (List.not_lt.1 h4) h2))
/-- The library's way and the reference's. -/
theorem sd_eq (l : List ByteArray) : cmpL (srtL l) = sdL l := by
  obtain ⟨h1, h2⟩ := sdL_spec l
  have hp : ((l.map toBy).mergeSort fun x y => decide (x ≤ y)).Perm (l.map toBy) := List.mergeSort_perm _ _
  have hs : ((l.map toBy).mergeSort fun x y => decide (x ≤ y)).Pairwise fun a b => a ≤ b := by
    have := List.pairwise_mergeSort (le := fun x y : List UInt8 => decide (x ≤ y)) (fun a b c h k => by simp only [decide_eq_true_eq] at *; exact List.le_trans h k) (fun a b => by
      simp only [Bool.or_eq_true, decide_eq_true_eq]; exact List.le_total a b) (l.map toBy)
    exact this.imp fun h => by simpa using h
  have hc : cmpL (srtL l) = (Lib.compact ((l.map toBy).mergeSort fun x y => decide (x ≤ y))).map ofBy := by
    unfold cmpL srtL; rw [map_to_of]
  rw [hc]
  refine sorted_ext (r := ltS) ltS_irrefl (fun _ _ _ => ltS_trans) ?_ h1 fun x => ?_
  · rw [List.pairwise_map]
    exact (compact_sorted hs).imp fun h => by rw [ltS_to, toBy_ofBy, toBy_ofBy]; simpa using h
  · rw [h2, List.mem_map]
    constructor
    · rintro ⟨y, hy, rfl⟩
      obtain ⟨z, hz, rfl⟩ := List.mem_map.1 (hp.subset ((compact_mem y).1 hy))
      exact hz
    · intro hx
      exact ⟨toBy x, (compact_mem _).2 (hp.symm.subset (List.mem_map.2 ⟨x, hx, rfl⟩)), rfl⟩
end Go.Proofs.YtkjijbogbelilaaGreat

namespace Go.Proofs
open Go.Shelf
def Tryz.sortRun_ren : Go.Shelf.Ren := ⟨fun | 6 => 174 | 15 => 149 | 14 => 204 | 28 => 187 | 29 => 188 | 20 => 216 | 21 => 217 | 22 => 218 | 23 => 219 | 24 => 220 | 25 => 221 | 26 => 222 | 27 => 223 | 46 => 226 | 47 => 207 | 48 => 208 | 49 => 227 | 50 => 228 | 57 => 229 | n => n, fun | 22 => 139 | 24 => 170 | 25 => 173 | 3 => 3 | 39 => 148 | 0 => 0 | 53 => 185 | 55 => 187 | 4 => 4 | 46 => 177 | 45 => 176 | 50 => 182 | 5 => 5 | 9 => 9 | 66 => 205 | 70 => 209 | 76 => 221 | 77 => 222 | n => n, fun | n => n⟩
theorem Tryz.sortRun : Go.Proofs.SlLaysF0.n6 Tryz.prog Tryz.sortRun_ren := {
  mixed := by kernel_rfl
  f6 := ⟨Tryz.f174.name, by decide, Tryz.func174.trans (congrArg some (by kernel_rfl))⟩
  f14 := ⟨Tryz.f204.name, by decide, Tryz.func204.trans (congrArg some (by kernel_rfl))⟩
  f15 := Tryz.func149.trans (congrArg some (by kernel_rfl))
  f20 := ⟨Tryz.f216.name, by decide, Tryz.func216.trans (congrArg some (by kernel_rfl))⟩
  f21 := ⟨Tryz.f217.name, by decide, Tryz.func217.trans (congrArg some (by kernel_rfl))⟩
  f22 := ⟨Tryz.f218.name, by decide, Tryz.func218.trans (congrArg some (by kernel_rfl))⟩
  f23 := ⟨Tryz.f219.name, by decide, Tryz.func219.trans (congrArg some (by kernel_rfl))⟩
  f24 := ⟨Tryz.f220.name, by decide, Tryz.func220.trans (congrArg some (by kernel_rfl))⟩
  f25 := ⟨Tryz.f221.name, by decide, Tryz.func221.trans (congrArg some (by kernel_rfl))⟩
  f26 := ⟨Tryz.f222.name, by decide, Tryz.func222.trans (congrArg some (by kernel_rfl))⟩
  f27 := ⟨Tryz.f223.name, by decide, Tryz.func223.trans (congrArg some (by kernel_rfl))⟩
  f28 := Tryz.func187.trans (congrArg some (by kernel_rfl))
  f29 := Tryz.func188.trans (congrArg some (by kernel_rfl))
  f46 := ⟨Tryz.f226.name, by decide, Tryz.func226.trans (congrArg some (by kernel_rfl))⟩
  f47 := Tryz.func207.trans (congrArg some (by kernel_rfl))
  f48 := Tryz.func208.trans (congrArg some (by kernel_rfl))
  f49 := ⟨Tryz.f227.name, by decide, Tryz.func227.trans (congrArg some (by kernel_rfl))⟩
  f50 := ⟨Tryz.f228.name, by decide, Tryz.func228.trans (congrArg some (by kernel_rfl))⟩
  f57 := ⟨Tryz.f229.name, by decide, Tryz.func229.trans (congrArg some (by kernel_rfl))⟩
  t0 := Tryz.underlying0
  a0 := Tryz.isAgg0
  z0 := Tryz.sizeOf0
  v0 := Tryz.zeroValue0
  t3 := Tryz.underlying3
  a3 := Tryz.isAgg3
  z3 := Tryz.sizeOf3
  v3 := Tryz.zeroValue3
  t4 := Tryz.underlying4
  a4 := Tryz.isAgg4
  z4 := Tryz.sizeOf4
  v4 := Tryz.zeroValue4
  t5 := Tryz.underlying5
  a5 := Tryz.isAgg5
  z5 := Tryz.sizeOf5
  v5 := Tryz.zeroValue5
  t9 := Tryz.underlying9
  a9 := Tryz.isAgg9
  z9 := Tryz.sizeOf9
  v9 := Tryz.zeroValue9
  t22 := Tryz.underlying139
  a22 := Tryz.isAgg139
  z22 := Tryz.sizeOf139
  v22 := Tryz.zeroValue139
  t25 := Tryz.underlying173
  a25 := Tryz.isAgg173
  z25 := Tryz.sizeOf173
  v25 := Tryz.zeroValue173
  t39 := Tryz.underlying148
  a39 := Tryz.isAgg148
  z39 := Tryz.sizeOf148
  v39 := Tryz.zeroValue148
  t45 := Tryz.underlying176
  a45 := Tryz.isAgg176
  z45 := Tryz.sizeOf176
  v45 := Tryz.zeroValue176
  t46 := Tryz.underlying177
  a46 := Tryz.isAgg177
  z46 := Tryz.sizeOf177
  v46 := Tryz.zeroValue177
  t50 := Tryz.underlying182
  a50 := Tryz.isAgg182
  z50 := Tryz.sizeOf182
  v50 := Tryz.zeroValue182
  t53 := Tryz.underlying185
  a53 := Tryz.isAgg185
  z53 := Tryz.sizeOf185
  v53 := Tryz.zeroValue185
  t55 := Tryz.underlying187
  a55 := Tryz.isAgg187
  z55 := Tryz.sizeOf187
  v55 := Tryz.zeroValue187
  t66 := Tryz.underlying205
  a66 := Tryz.isAgg205
  z66 := Tryz.sizeOf205
  v66 := Tryz.zeroValue205
  t70 := Tryz.underlying209
  a70 := Tryz.isAgg209
  z70 := Tryz.sizeOf209
  v70 := Tryz.zeroValue209
  t76 := Tryz.underlying221
  a76 := Tryz.isAgg221
  z76 := Tryz.sizeOf221
  v76 := Tryz.zeroValue221
  t77 := Tryz.underlying222
  a77 := Tryz.isAgg222
  z77 := Tryz.sizeOf222
  v77 := Tryz.zeroValue222 }
end Go.Proofs

namespace Go.Proofs.YtkjijbogbelilaaGreat
open Go.RowKit Go.Sort
set_option maxRecDepth 100000

theorem heap_rowK {w : World} {g n : Nat} {os : Array Obj} {cur : Array Value} {e : TypeId} {fr : Nat × Nat} (F : Array Value) (hb : w.heap[g]? = some (.cells cur e fr)) :
    (grow (putRow id (Sort.ahead w n) g 0 F) os).heap[g]? = some (.cells (putCells id 0 F cur) e fr) := by
  have hg : g < w.heap.size := (Array.getElem?_eq_some_iff.1 hb).1
  rw [heap_grow_old _ _ (by simpa using hg)]
  simp [putRow, mapBlock, Sort.ahead, Array.getElem?_modify, hb, onCells]
theorem grownBy_rowK {w : World} {g n : Nat} {os : Array Obj} (F : Array Value) : w.grownBy (grow (putRow id (Sort.ahead w n) g 0 F) os) (some g) := by
  refine ⟨rfl, rfl, rfl, by simp, fun k hk hne => ?_⟩
  rw [heap_grow_old _ _ (by simpa using hk)]
  have : g ≠ k := fun e => hne (by rw [e])
  simp [putRow, mapBlock, Sort.ahead, Array.getElem?_modify, this]

def encR {α : Type} (en : α → Int × Int) (x : α) : List Value := [.int .i64 (en x).1, .int .i64 (en x).2]
theorem flatten_two {α : Type} [Inhabited α] (en : α → Int × Int) (l : List α) (j : Nat) (hj : j < l.length * 2) : (l.map (encR en)).flatten[j]? = some ((encR en l[j / 2]!)[j % 2]!) := by
  have hm : j % 2 < 2 := Nat.mod_lt _ (by omega)
  have hd : j = j / 2 * 2 + j % 2 := by omega
  have hf := flat_at (sz := 2) (l.map (encR en)) (fun cs h => by obtain ⟨x, _, rfl⟩ := List.mem_map.1 h; rfl) (j / 2) (j % 2) hm
  rw [← hd] at hf
  have hlt : j / 2 < l.length := by omega
  rw [hf, List.getElem?_map, List.getElem?_eq_getElem hlt]
  simp only [Option.map_some, Option.bind_some]
  rw [getElem!_pos l (j / 2) hlt]
  rcases (show j % 2 = 0 ∨ j % 2 = 1 by omega) with e | e <;> rw [e] <;> rfl

theorem sortRun_any {α : Type} [Inhabited α] (en : α → Int × Int) (cf : α → α → Int) (hO : SWO (ltOf cf)) (g : Nat) (eg : ∀ args w, (callFunc g args).run Tryz.prog w = .ok (.enter g args) w)
    (hc : ∀ (x y : α) (W : World), Calls Tryz.prog g #[.agg #[.int .i64 (en x).1, .int .i64 (en x).2], .agg #[.int .i64 (en y).1, .int .i64 (en y).2]] W fun e w' => e = .returned (.int .i64 (cf x y)) ∧ ∃ q os', w' = grow (W.drewN q) os')
    (ds : List α) (v : Value) (w : World) (base : Nat) (h : OwnP w base 170 2 RuE v (ds.map en)) (hl : ds.length ≤ 900000) (hbase : base ≤ w.heap.size) :
    Calls Tryz.prog 174 #[v, .func (.func g) #[] #[]] w fun e w' => e = .returned (.tuple #[]) ∧
      ∃ ts : List α, ts.Perm ds ∧ ts.Pairwise (fun a b => 0 ≤ cf b a) ∧ OwnP w' base 170 2 RuE v (ts.map en) ∧ Below base w w' := by
  obtain ⟨css, h1, h2, h3⟩ := h
  rcases h3 with ⟨rfl, hn⟩ | ⟨b, cap, cur, rfl, hb, hg, hnc, hm, hcs, ht⟩
  · obtain rfl : ds = [] := by simpa using hn
    refine (AnyF.slices_SortFunc_none Tryz.sortRun none 0 (.func (.func g) #[] #[]) w).mono ?_
    rintro e w' ⟨rfl, rfl⟩
    exact ⟨rfl, [], List.Perm.refl _, List.Pairwise.nil, OwnP.nil, Below.refl _ _⟩
  · have hlt : b < w.heap.size := (Array.getElem?_eq_some_iff.1 hg).1
    have hlen : (ds.map en).length = ds.length := List.length_map ..
    rw [hlen] at h2 hnc ht ⊢
    have hcss : css = ds.map (encR en) := by
      apply List.ext_getElem?
      intro j
      by_cases hj : j < ds.length
      · obtain ⟨cs, hcs, ⟨hcv, _⟩, _⟩ := h1.2 j (en ds[j]) (by rw [List.getElem?_map, List.getElem?_eq_getElem hj]; rfl)
        rw [hcs, List.getElem?_map, List.getElem?_eq_getElem hj, hcv]; rfl
      · rw [List.getElem?_eq_none (by rw [h1.1, hlen]; omega), List.getElem?_eq_none (by simp; omega)]
    have hok : ∀ x ∈ ds, I64 (en x).1 ∧ I64 (en x).2 := fun x hx => by
      obtain ⟨j, hj⟩ := List.getElem?_of_mem hx
      obtain ⟨cs, _, ⟨_, hr⟩, _⟩ := h1.2 j (en x) (by rw [List.getElem?_map, hj]; rfl)
      exact hr
    have hH : HoldsK (encR en) 2 w b 0 ds.toArray := by
      intro j hj
      have hj : j < ds.length * 2 := by simpa using hj
      refine ⟨?_, by simp [World.frozen?, hg]⟩
      rw [get_flatK _ _ _ _ (by simpa using hj), Nat.zero_add, show (w.cell? ⟨b, j, none⟩) = cur[j]? from by simp [World.cell?, hg]]
      have hf := flatten_two en ds j hj
      rw [← hcss, ← ht, List.getElem?_take_of_lt hj, Array.getElem?_toList] at hf
      rw [hf]; simp
    have hcon := AnyQ.slices_SortFunc Tryz.sortRun 2 Tryz.isAgg170 Tryz.sizeOf170 (encR en) (fun _ => rfl) (fun x u hu => by simp [encR] at hu; rcases hu with rfl | rfl <;> rfl) cf hO g #[] b 0 cap ds.toArray w eg
      (fun m os dk _ x y => hc x y _) hH hlt (by simp; omega)
    have hcon' : Calls Tryz.prog 174 #[.slice (some ⟨b, 0, none⟩) ds.length cap, .func (.func g) #[] #[]] w _ := hcon
    refine hcon'.mono ?_
    rintro e w' ⟨rfl, d', n, os, hp, hs, rfl⟩
    have hsz : d'.size = ds.length := by simpa using hp.1
    have hperm : d'.toList.Perm ds := by
      have := hp.2.2
      rw [show ds.toArray.extract 0 ds.toArray.size = ds.toArray by simp, show d'.extract 0 ds.toArray.size = d' by rw [show ds.toArray.size = d'.size by simp [hsz]]; simp] at this
      simpa using this
    refine ⟨rfl, d'.toList, hperm, ?_, ⟨d'.toList.map (encR en), ⟨by simp, fun j x hx => ?_⟩, ?_⟩, ?_⟩
    · rw [List.pairwise_iff_getElem]
      intro i j hi hj hij
      have hj' : j < d'.size := by simpa using hj
      have h4 := hs i j (Nat.zero_le _) hij (by simp; omega)
      rw [getElem!_pos d' i (by omega), getElem!_pos d' j hj'] at h4
      simp only [ltOf, decide_eq_false_iff_not, Int.not_lt] at h4
      simpa using h4
    · rw [List.getElem?_map] at hx
      obtain ⟨y, hy, rfl⟩ := Option.map_eq_some_iff.1 hx
      refine ⟨encR en y, by rw [List.getElem?_map, hy]; rfl, ⟨rfl, hok y (hperm.subset (List.mem_of_getElem? hy))⟩, rfl⟩
    · have hlm : (d'.toList.map en).length = ds.length := by simp [hsz]
      rw [hlm]
      refine ⟨by rw [flat_len (sz := 2) _ (fun cs h => by obtain ⟨x, _, rfl⟩ := List.mem_map.1 h; rfl)]; simp [hsz], .inr ⟨b, cap, _, rfl, hb, heap_rowK _ hg, hnc, hm, by simp [putCells, hcs], ?_⟩⟩
      apply List.ext_getElem?
      intro j
      by_cases hj : j < ds.length * 2
      · have hjc : j < cur.size := by rw [hcs]; have := Nat.mul_le_mul_right 2 hnc; omega
        rw [List.getElem?_take_of_lt hj, Array.getElem?_toList, flatten_two en d'.toList j (by simp [hsz]; omega)]
        simp only [putCells, Array.getElem?_mapIdx, Array.getElem?_eq_getElem hjc, Option.map_some]
        rw [if_pos ⟨Nat.zero_le _, by simp [hsz]; omega⟩, Nat.sub_zero, id, get_flatK _ _ _ _ (by rw [hsz]; exact hj)]
        simp only [Array.getElem!_toList]
      · rw [List.getElem?_take_eq_none (by omega), List.getElem?_eq_none (by rw [flat_len (sz := 2) _ (fun cs h => by obtain ⟨x, _, rfl⟩ := List.mem_map.1 h; rfl)]; simp [hsz]; omega)]
    · exact (Below.refl base w).grown (grownBy_rowK _) hbase (fun g hg => by cases hg; exact hb)
end Go.Proofs.YtkjijbogbelilaaGreat

namespace Go.Proofs.YtkjijbogbelilaaGreat
open Go.RowKit Go.Sort
set_option maxRecDepth 100000

theorem cmpLo_lt (x y : Int) : ltOf cmpI x y = decide (x < y) := by
  unfold ltOf cmpI
  by_cases h1 : x < y
  · simp [h1]
  · by_cases h2 : y < x <;> simp [h1, h2]
theorem swoI : SWO (ltOf cmpI) where
  irrefl x := by rw [cmpLo_lt]; simp
  trans x y z h1 h2 := by rw [cmpLo_lt] at *; simp at *; omega
  ntrans x y z h1 h2 := by rw [cmpLo_lt] at *; simp at *; omega
theorem cmpI_nonneg (a b : Int) : 0 ≤ cmpI b a ↔ a ≤ b := by
  unfold cmpI; split <;> (try split) <;> omega

theorem ofClo_any (x y : Int × Int) (W : World) : Calls Tryz.prog 175 #[.agg #[.int .i64 x.1, .int .i64 x.2], .agg #[.int .i64 y.1, .int .i64 y.2]] W fun e w' => e = .returned (.int .i64 (cmpI x.1 y.1)) ∧ ∃ q os', w' = grow (W.drewN q) os' := by
  go_enter Tryz.func175, Tryz.ntmps175
  go_wp2_with (go_at_call 176; refine (cmp64_any _ _ _).mono ?_; rintro e w' ⟨rfl, rfl⟩)
  go_ret
  exact ⟨rfl, 0, _, by rw [alloc_eq_grow, alloc_eq_grow, grow_grow]; rfl⟩

def dup (n : Int) : Int × Int := (n, n)
/-- Sorted numbers, joined: the reference's set. -/
theorem join_of {ns ts : List Int} (hn : ∀ x ∈ ns, numB x = true) (hp : ts.Perm ns) (hs : ts.Pairwise fun a b => a ≤ b) : joinL (ts.map dup) = ofL ns := by
  have hn' : ∀ x ∈ ns, 1 ≤ x ∧ x ≤ 1099511627776 := fun x hx => by simpa [numB] using hn x hx
  obtain ⟨a1, a2⟩ := ofL_right hn'
  obtain ⟨b1, b2⟩ := joinL_right (l := ts.map dup) (fun r hr => by
    obtain ⟨x, hx, rfl⟩ := List.mem_map.1 hr
    have := hn' x (hp.subset hx)
    exact ⟨this.1, Int.le_refl _, this.2⟩) (List.pairwise_map.2 hs)
  refine runs_eq _ _ none none b1 a1 fun n => ?_
  rw [b2, Bool.eq_iff_iff, a2]
  unfold hasL
  rw [List.any_eq_true]
  constructor
  · rintro ⟨r, hr, h⟩
    obtain ⟨x, hx, rfl⟩ := List.mem_map.1 hr
    have h2 : x ≤ n ∧ n ≤ x := by
      have h3 : (decide (x ≤ n) && decide (n ≤ x)) = true := h
      simpa using h3
    obtain rfl : n = x := by omega
    exact hp.subset hx
  · intro h
    exact ⟨dup n, List.mem_map.2 ⟨n, hp.symm.subset h, rfl⟩, by simp [dup, inR]⟩

set_option maxHeartbeats 1000000 in
theorem sof_any (ns : List Int) (v : Value) (w : World) (h : SlP w w.heap.size 1 InE v ns) (hn : ∀ x ∈ ns, numB x = true) (hN : ns.length ≤ 400000) :
    Calls Tryz.prog 145 #[v] w fun e w' => ∃ v', e = .returned (.tuple #[v', .int .i64 0]) ∧ OwnP w' w.heap.size 170 2 RuE v' (ofL ns) ∧ Below w.heap.size w w' := by
  obtain ⟨A, c, rfl, b1, b2, b3⟩ := h
  unfold Big at b2
  go_enter Tryz.func145, Tryz.ntmps145
  go_wp2_with fail
  go_loopw [4, 9] (fun v i wr => ∃ k : Nat, k ≤ ns.length ∧ i = .int .i64 k ∧ OwnP wr w.heap.size 170 2 RuE v ((ns.take k).map dup) ∧ Below w.heap.size w wr) (fun _ i _ => ns.length - (intOf i).toNat)
  case atStart => exact ⟨0, Nat.zero_le _, rfl, OwnP.nil, Below.refl _ _⟩
  case round =>
    obtain ⟨k, hk, rfl, hown, hb⟩ := hrel
    have hsz := hb.size
    by_cases hlt : k < ns.length
    · obtain ⟨x, hx⟩ : ∃ x, ns[k]? = some x := ⟨_, List.getElem?_eq_getElem hlt⟩
      obtain ⟨b, off, rfl, hbB, hc⟩ := b3 (by rintro rfl; simp at hlt)
      obtain ⟨cs, ⟨rfl, hok⟩, _, hu⟩ := hc k _ hx
      have e0 : wr.cell? ⟨b, off + k, none⟩ = some (.int .i64 x) := (hb.cell hbB).trans (by simpa using hu 0 _ rfl)
      have HB := hid (hn x (List.mem_of_getElem? hx))
      have HX : Hid ((ns.take (k + 1)).map dup = (ns.take k).map dup ++ [dup x]) := by unfold Hid; rw [take_succ' hx, List.map_append]; rfl
      have HRE : Hid (RuE (dup x) [.int .i64 x, .int .i64 x]) := ⟨rfl, hok, hok⟩
      have HL : Hid (((ns.take k).map dup).length + [dup x].length ≤ Few) := by unfold Hid Few; simp; omega
      clear hu hx hc b3 hok
      go_wp2_with (first | (go_at_call 173; refine (snum_any _ _).mono ?_; rw [HB.out]; rintro e w' ⟨rfl, rfl⟩) | (at_builtin; with_reducible refine wpList_few rfl (.tmp 16) (.tmp 20) _ rfl eiRun (by decide) (by decide) (fun _ _ h => h.one) rfl (hown.alloc _) rfl (SlP.one (x := dup x) HRE.out rfl _ rfl) HL.out (by rw [World.size_alloc]; omega) ?_; intro v1 w1 hown1 hb1 _))
      go_roundw
      case rel => exact ⟨k + 1, by omega, by go_num, by rw [HX.out]; exact hown1, hb.trans (((Below.refl _ _).alloc (by omega) _).trans hb1)⟩
      case measure => simp [intOf]; omega
    · obtain rfl : k = ns.length := by omega
      rw [List.take_of_length_le (Nat.le_refl _)] at hown
      have HC : Hid (∀ W base v, OwnP W base 170 2 RuE v (ns.map dup) → base ≤ W.heap.size → Calls Tryz.prog 174 #[v, .func (.func 175) #[] #[]] W fun e w' => e = .returned (.tuple #[]) ∧
        ∃ ts : List Int, ts.Perm ns ∧ ts.Pairwise (fun a b => a ≤ b) ∧ OwnP w' base 170 2 RuE v (ts.map dup) ∧ Below base W w') := fun W base v ho hbs =>
          (sortRun_any dup cmpI swoI 175 (enters_of Tryz.func175 (by kernel_rfl) rfl) (fun x y W => ofClo_any (dup x) (dup y) W) ns v W base ho (by omega) hbs).mono fun e w' ⟨he, ts, h1, h2, h3, h4⟩ =>
            ⟨he, ts, h1, h2.imp fun h => (cmpI_nonneg _ _).1 h, h3, h4⟩
      have HN := hid hn
      clear hn b3
      go_wp2_with fail
      refine (HC.out _ _ _ hown hsz).mono ?_
      rintro e w1 ⟨rfl, ts, hp, hs, ho1, hb1⟩
      have HJ := hid (join_of HN.out hp hs)
      have hs1 := hb1.size
      have hlen : ts.length = ns.length := hp.length_eq
      have hsl := ho1.sl (by rw [List.length_map, hlen]; unfold Big; omega)
      have hro : RunsOk (ts.map dup) := fun r hr => by
        obtain ⟨x, hx, rfl⟩ := List.mem_map.1 hr
        have := HN.out x (hp.subset hx)
        simp [numB] at this
        simp [dup]; omega
      have HRO := hid hro
      have HL1 : Hid ((ts.map dup).length ≤ 900000) := by unfold Hid; rw [List.length_map, hlen]; omega
      clear hp hs hro hlen ho1 hown
      go_wp2_with fail
      refine (sjoined_any (ts.map dup) _ w1 hsl HL1.out HRO.out).mono ?_
      rintro e w2 ⟨v2, rfl, ho2, hb2⟩
      rw [HJ.out] at ho2
      go_wp2_with fail
      go_ret2
      exact ⟨_, rfl, ho2.mono (by omega), (hb.trans hb1).trans (hb2.mono (by omega))⟩
end Go.Proofs.YtkjijbogbelilaaGreat

namespace Go.Proofs.YtkjijbogbelilaaGreat
open Go.RowKit
set_option maxRecDepth 100000

/-- The state of the first loop. -/
def OfA (l : List Dt) (w : World) (k : Nat) (wr : World) : Prop :=
  ∃ vs : Nat → Value, Rows4 wr (w.heap.size + 1) w.heap.size 138 2 1 InE vs (fun i => numsL (l.take k) i) ∧ Below w.heap.size w wr

/-- The state of the second loop: array Bq holds the sets of the first k centers. -/
def OfB (l : List Dt) (w1 : World) (k : Nat) (wr : World) : Prop :=
  ∃ ps : Nat → Value, wr.heap[w1.heap.size]? = some (.cells #[ps 0, ps 1, ps 2, ps 3] 141 (0, 0)) ∧
    (∀ j, j < 4 → OwnP wr (w1.heap.size + 1) 170 2 RuE (ps j) (if j < k then ofL (numsL l (j : Int)) else [])) ∧ Below w1.heap.size w1 wr

set_option maxHeartbeats 4000000 in
theorem cof_any (l : List Dt) (vl : Value) (w : World) (h : SlP w w.heap.size 2 DtE vl l) (hR : ∀ d ∈ l, d.right = true) (hN : l.length ≤ 100000) :
    Calls Tryz.prog 107 #[vl] w fun e w' => ∃ v, e = .returned (.tuple #[v, .int .i64 0]) ∧ OwnP w' w.heap.size 55 3 SpE v (ctxOf l) ∧ Below w.heap.size w w' := by
  obtain ⟨A, n, rfl, b1, b2, b3⟩ := h
  unfold Big at b2
  go_enter Tryz.func107, Tryz.ntmps107
  go_wp2_with fail
  go_loopw [12] (fun i wr => ∃ k : Nat, k ≤ l.length ∧ i = .int .i64 k ∧ OfA l w k wr) (fun i _ => l.length - (intOf i).toNat)
  case atStart => exact ⟨0, Nat.zero_le _, rfl, fun _ => .slice none 0 0, Rows4.start (heap_new rfl) (by omega), (Below.refl _ w).alloc (Nat.le_refl _) _⟩
  case round =>
    obtain ⟨k, hk, rfl, vs, hr4, hb⟩ := hrel
    have hsz := hb.size
    have hsz2 : w.heap.size < wr.heap.size := (Array.getElem?_eq_some_iff.1 hr4.arr).1
    have hsz4 : w.heap.size ≠ wr.heap.size := by omega
    by_cases hlt : k < l.length
    · obtain ⟨⟨dc, num⟩, hx⟩ : ∃ x, l[k]? = some x := ⟨_, List.getElem?_eq_getElem hlt⟩
      obtain ⟨b, off, rfl, hbB, hc⟩ := b3 (by rintro rfl; simp at hlt)
      obtain ⟨cs, ⟨rfl, hok⟩, _, hu⟩ := hc k _ hx
      have e0 : wr.cell? ⟨b, off + k * 2, none⟩ = some (.int .i64 dc) := (hb.cell hbB).trans (hu 0 _ rfl)
      have e1 : wr.cell? ⟨b, off + k * 2 + 1, none⟩ = some (.int .i64 num) := (hb.cell hbB).trans (hu 1 _ rfl)
      have hri := hR _ (List.mem_of_getElem? hx)
      have hbd : (0 ≤ dc ∧ dc < 4) ∧ 1 ≤ num ∧ num ≤ 1099511627776 := by simpa [Dt.right, and_assoc] using hri
      have HRI := hid hri
      have HR4 := hid hr4
      obtain ⟨d, rfl⟩ : ∃ d : Nat, dc = (d : Int) := ⟨dc.toNat, by omega⟩
      have hd4 : d < 4 := by omega
      have hdi : (d : Int) < 4 := by omega
      have HPD : Hid ((fun i : Nat => numsL (l.take (k + 1)) i) = fun i => if i = d then numsL (l.take k) d ++ [num] else numsL (l.take k) i) := by
        unfold Hid; funext i
        rw [numsL_take hx]
        by_cases e : i = d
        · subst e; rw [if_pos rfl, if_pos rfl]
        · rw [if_neg e, if_neg (by show ¬ (d : Int) = (i : Int); omega), List.append_nil]
      have HL : Hid ((numsL (l.take k) d).length + [num].length ≤ Few) := by have := numsL_len (l.take k) d; rw [List.length_take] at this; unfold Hid Few; simp; omega
      have HRE : Hid (InE num [.int .i64 num]) := ⟨rfl, hok.n⟩
      have hbp : wr.cell? ⟨w.heap.size, d, none⟩ = some (vs d) := HR4.out.at hd4
      have HLT := hid ((HR4.out.own d hd4).lt)
      clear hu hx hc b3 hok hr4 hri hR
      go_upto_region 7 with (go_at_call 142; refine (dright_any ⟨d, num⟩ _).mono ?_; rw [HRI.out]; rintro e wd ⟨rfl, hbd'⟩; have hsd := hbd'.size; simp only [World.size_alloc] at hsd)
      have HB1 : Hid (Below wr.heap.size wr wd) := ((Below.refl _ wr).alloc (Nat.le_refl _) _).trans (hbd'.mono (by simp))
      have hx0 : wd.cell? ⟨wr.heap.size, 0, none⟩ = some (.int .i64 (d : Int)) := by rw [hbd'.cell (p := ⟨wr.heap.size, 0, none⟩) (by simp)]; simp
      have hx1 : wd.cell? ⟨wr.heap.size, 1, none⟩ = some (.int .i64 num) := by rw [hbd'.cell (p := ⟨wr.heap.size, 1, none⟩) (by simp)]; simp
      have hxb : wd.heap[wr.heap.size]? = some (.cells #[.int .i64 (d : Int), .int .i64 num] 42 (0, 0)) := (hbd'.block wr.heap.size (by simp)).trans (heap_new rfl)
      have HXB := hid hxb
      have hbp1 : wd.cell? ⟨w.heap.size, d, none⟩ = some (vs d) := (HB1.out.cell (p := ⟨w.heap.size, d, none⟩) hsz2).trans hbp
      have HR5 := hid (HR4.out.grow HB1.out)
      have hwd1 : w.heap.size < wd.heap.size := by omega
      have hwd2 : w.heap.size ≠ wd.heap.size := by omega
      have hwd3 : wr.heap.size < wd.heap.size := by omega
      have hwd4 : wr.heap.size ≠ wd.heap.size := by omega
      have HBW := hid (hb.trans (HB1.out.mono hsz))
      clear hbp hxb hbd' e0 e1
      go_wp2_with fail
      refine wp_region_pop_n (S := fun w' => w'.cell? ⟨wr.heap.size, 0, none⟩ = some (.int .i64 (d : Int)) ∧ w'.cell? ⟨wr.heap.size, 1, none⟩ = some (.int .i64 num) ∧ w'.cell? ⟨w.heap.size, d, none⟩ = some (vs d)) 11 (by kernel_rfl) (by kernel_rfl) ?_
      simp only [List.take_succ_cons, List.take_zero, List.drop_succ_cons, List.drop_zero]
      have hHeld : (fun w' : World => w'.cell? ⟨wr.heap.size, 0, none⟩ = some (.int .i64 (d : Int)) ∧ w'.cell? ⟨wr.heap.size, 1, none⟩ = some (.int .i64 num) ∧ w'.cell? ⟨w.heap.size, d, none⟩ = some (vs d)) wd.drew := by go_keep
      refine wpAnyH_take (i := 0) (oi := _) (v := ?v0) rfl (by kernel_rfl) (by kernel_rfl) (by kernel_rfl) (fun _ _ _ h => h) (Or.inl ⟨by rfl, ?h0⟩) (by assumption) ?_
      case h0 => (intro w hSw; (try dsimp only at hSw); go_simp; (try with_reducible rfl))
      simp only [Act.put, List.setIfInBounds_toArray]
      refine wpAnyH_take (i := 1) (oi := _) (v := ?v1) rfl (by kernel_rfl) (by kernel_rfl) (by kernel_rfl) (fun _ _ _ h => h) (Or.inl ⟨by rfl, ?h1⟩) (by assumption) ?_
      case h1 => (intro w hSw; (try dsimp only at hSw); go_simp; (try with_reducible rfl))
      simp only [Act.put, List.setIfInBounds_toArray]
      refine wpAnyH_take (i := 2) (oi := _) (v := ?v2) rfl (by kernel_rfl) (by kernel_rfl) (by kernel_rfl) (fun _ _ _ h => h) (Or.inl ⟨by rfl, ?h2⟩) (by assumption) ?_
      case h2 => (intro w hSw; (try dsimp only at hSw); go_simp; (try with_reducible rfl))
      simp only [Act.put, List.setIfInBounds_toArray]
      refine wpAnyH_take (i := 3) (oi := _) (v := ?v3) rfl (by kernel_rfl) (by kernel_rfl) (by kernel_rfl) (fun _ _ _ h => h) (Or.inl ⟨by rfl, ?h3⟩) (by assumption) ?_
      case h3 => (intro w hSw; (try dsimp only at hSw); go_simp; (try with_reducible rfl))
      simp only [Act.put, List.setIfInBounds_toArray]
      refine wpAnyH_take (i := 4) (oi := _) (v := ?v4) rfl (by kernel_rfl) (by kernel_rfl) (by kernel_rfl) (fun _ _ _ h => h) (Or.inl ⟨by rfl, ?h4⟩) (by assumption) ?_
      case h4 => (intro w hSw; (try dsimp only at hSw); go_simp; (try with_reducible rfl))
      simp only [Act.put, List.setIfInBounds_toArray]
      refine wpAnyH_take (i := 5) (oi := _) (v := ?v5) rfl (by kernel_rfl) (by kernel_rfl) (by kernel_rfl) (fun _ _ _ h => h) (Or.inl ⟨by rfl, ?h5⟩) (by assumption) ?_
      case h5 => (intro w hSw; (try dsimp only at hSw); go_simp; (try with_reducible rfl))
      simp only [Act.put, List.setIfInBounds_toArray]
      refine wpAnyH_take (i := 6) (oi := _) (v := ?v6) rfl (by kernel_rfl) (by kernel_rfl) (by kernel_rfl) (fun _ _ _ h => h) (Or.inl ⟨by rfl, ?h6⟩) (by assumption) ?_
      case h6 => (intro w hSw; (try dsimp only at hSw); go_simp; (try with_reducible rfl))
      simp only [Act.put, List.setIfInBounds_toArray]
      refine wpAnyH_take (i := 7) (oi := _) (v := ?v7) rfl (by kernel_rfl) (by kernel_rfl) (by kernel_rfl) (fun _ _ _ h => h) (Or.inl ⟨by rfl, ?h7⟩) (by assumption) ?_
      case h7 => (intro w hSw; (try dsimp only at hSw); go_simp; (try with_reducible rfl))
      simp only [Act.put, List.setIfInBounds_toArray]
      refine wpAnyH_ready (rs := [8]) (by kernel_rfl) (by simp) ?_
      refine AllReadyH.cons (o := _) rfl (fun K hK => ?_) AllReadyH.nil
      go_simp
      refine hK.out _ _ ?_ (fun hHeld8 => ?_)
      · go_keep
      clear hK K
      simp only [List.setIfInBounds_toArray]
      refine wpAnyH_ready (rs := [9]) (by kernel_rfl) (by simp) ?_
      refine AllReadyH.cons (o := _) rfl (fun K hK => ?_) AllReadyH.nil
      (refine step_few4 (v := vs d) rfl (.tmp 24) (.tmp 27) _ rfl eiInt64 (by decide) (by decide) (fun _ _ h => h.one) rfl (((HR5.out.own d hd4).grow ((Below.refl _ wd).alloc (Nat.le_refl _) _)).drew) rfl (SlP.one (x := num) HRE.out rfl _ (by simp)) HL.out (by simp; omega) ?_; intro v1 w4 hown4 hb4 hg4 hv4; have hsh4 := OwnP.shape hown4; simp only [List.length_append, List.length_singleton] at hsh4; obtain ⟨A1, c1, hv1⟩ := hsh4; subst hv1; have hg4h : Hid (w4.heap[w.heap.size]? = some (.cells #[vs 0, vs 1, vs 2, vs 3] 138 (0, 0))) := (hg4.block w.heap.size (by simp; omega) (fun e => by have := HLT.out _ e.symm; omega)).trans ((heap_old hwd1).trans HR5.out.arr); have hc4 : w4.cell? ⟨w.heap.size, d, none⟩ = some (vs d) := (cell_cells hg4h.out).trans (four_get vs hd4); have hf4 : w4.frozen? ⟨w.heap.size, d, none⟩ = false := cells_frz hg4h.out; have hx3 := (hg4.block wr.heap.size (by simp; omega) (fun e => by have := HLT.out _ e.symm; omega)).trans ((heap_old hwd3).trans HXB.out); have hx4 : Hid (w4.cell? ⟨wr.heap.size, 0, none⟩ = some (.int .i64 (d : Int)) ∧ w4.cell? ⟨wr.heap.size, 1, none⟩ = some (.int .i64 num) ∧ w4.cell? ⟨w.heap.size, d, none⟩ = some (vs d)) := ⟨(cell_cells (i := 0) hx3).trans rfl, (cell_cells (i := 1) hx3).trans rfl, hc4⟩; clear hx3)
      refine hK.out _ _ ?_ (fun hHeld9 => ?_)
      · exact hx4.out
      clear hK K
      simp only [Act.put, List.setIfInBounds_toArray]
      refine wpAnyH_take (i := 10) (oi := _) (v := ?v10) rfl (by kernel_rfl) (by kernel_rfl) (by kernel_rfl) (fun _ _ _ h => h) (Or.inl ⟨by rfl, ?h10⟩) (by assumption) ?_
      case h10 => (intro w hSw; (try dsimp only at hSw); go_simp; (try with_reducible rfl))
      simp only [Act.put, List.setIfInBounds_toArray]
      refine wpAnyH_done (by kernel_rfl) ?_ _
      change wpList _ _ _ _ _ _
      go_wp2_with fail
      go_roundw
      case rel =>
        refine ⟨k + 1, by omega, by go_num, fun i => if i = d then .slice A1 ((numsL (l.take k) d).length + 1) c1 else vs i, ?_, ?_⟩
        · rw [HPD.out]
          exact Rows4.put (w := (wd.alloc (.cells #[.int .i64 num] 2)).drew) ((HR5.out.grow ((Below.refl _ _).alloc (Nat.le_refl _) _)).same rfl) hd4 hown4 hg4 hv4
        · exact (((HBW.out.alloc (by omega) _).drew.trans (hb4.mono (by omega))).setCell (Nat.le_refl _) _)
      case measure => simp [intOf]; omega
    · obtain rfl : k = l.length := by omega
      rw [List.take_of_length_le (Nat.le_refl _)] at hr4
      have c0 : wr.cell? ⟨w.heap.size, 0, none⟩ = some (vs 0) := hr4.at (by omega)
      have c1 : wr.cell? ⟨w.heap.size, 1, none⟩ = some (vs 1) := hr4.at (by omega)
      have c2 : wr.cell? ⟨w.heap.size, 2, none⟩ = some (vs 2) := hr4.at (by omega)
      have c3 : wr.cell? ⟨w.heap.size, 3, none⟩ = some (vs 3) := hr4.at (by omega)
      have HR := hid hr4
      have HRR := hid hR
      clear hr4 b3 hR
      go_wp2_with fail
      obtain ⟨w1, rfl⟩ : ∃ w1 : World, w1 = wr := ⟨_, rfl⟩
      go_loopw [32] (fun i wr => ∃ k : Nat, k ≤ 4 ∧ i = .int .i64 k ∧ OfB l w1 k wr) (fun i _ => 4 - (intOf i).toNat)
      case atStart => exact ⟨0, by omega, rfl, fun _ => .slice none 0 0, heap_new rfl, fun j _ => by rw [if_neg (Nat.not_lt_zero _)]; exact OwnP.nil, (Below.refl _ _).alloc (Nat.le_refl _) _⟩
      case round =>
        obtain ⟨k, hk, rfl, ps, hpa, hpo, hbi⟩ := hrel
        have hsi := hbi.size
        have hsi2 : w1.heap.size < wr.heap.size := (Array.getElem?_eq_some_iff.1 hpa).1
        by_cases hk4 : k < 4
        · have hki : (k : Int) < 4 := by omega
          have hidx : ∀ w, (Instr.index 138 (.agg #[vs 0, vs 1, vs 2, vs 3]) (.int .i64 (k : Int))).run Tryz.prog w = .ok (vs k) w := fun w => by
            match k, hk4 with
            | 0, _ => rfl
            | 1, _ => rfl
            | 2, _ => rfl
            | 3, _ => rfl
          have hnl := numsL_len l k
          have HSL : Hid (SlP wr wr.heap.size 1 InE (vs k) (numsL l k)) := (HR.out.sl hk4 (by show (numsL l k).length ≤ Big; unfold Big; omega)).imp hbi hsi fun _ _ _ h => h
          have HNB : Hid (∀ x ∈ numsL l k, numB x = true) := fun x hx => by
            unfold numsL at hx
            obtain ⟨d, hd, rfl⟩ := List.mem_map.1 hx
            have h1 := HRR.out d (List.mem_filter.1 hd).1
            simp [Dt.right] at h1
            simp [numB]; omega
          have HPA := hid hpa
          have HPO := hid hpo
          have hpc : wr.cell? ⟨w1.heap.size, k, none⟩ = some (ps k) := (cell_cells hpa).trans (four_get ps hk4)
          clear hpa hpo
          go_wp2_with fail
          refine (sof_any (numsL l k) (vs k) wr HSL.out HNB.out (by omega)).mono ?_
          rintro e w2 ⟨v2, rfl, ho2, hb2⟩
          obtain ⟨A2, n2, rfl⟩ := ho2.shape
          have hp2 := (hb2.block w1.heap.size hsi2).trans HPA.out
          have hc2 : w2.cell? ⟨w1.heap.size, k, none⟩ = some (ps k) := (cell_cells hp2).trans (four_get ps hk4)
          have hf2 : w2.frozen? ⟨w1.heap.size, k, none⟩ = false := cells_frz hp2
          have HP2 := hid hp2
          have HO2 := hid ho2
          clear hp2 ho2 hpc hidx
          go_wp2_with fail
          go_roundw
          case rel =>
            refine ⟨k + 1, by omega, by go_num, fun j => if j = k then .slice A2 (ofL (numsL l k)).length n2 else ps j, ?_, fun j hj => ?_, (hbi.trans (hb2.mono hsi)).setCell (Nat.le_refl _) _⟩
            · rw [cells_set HP2.out, four_set ps hk4]
            · by_cases e : j = k
              · subst e
                simp only [if_true, if_pos (Nat.lt_succ_self j)]
                exact (HO2.out.mono (by omega)).setOther (by simp) _
              · have e2 : (if j < k + 1 then ofL (numsL l (j : Int)) else []) = (if j < k then ofL (numsL l (j : Int)) else []) := by
                  by_cases e3 : j < k
                  · rw [if_pos e3, if_pos (by omega)]
                  · rw [if_neg e3, if_neg (by omega)]
                simp only [if_neg e]
                rw [e2]
                exact ((HPO.out j hj).grow hb2).setOther (by simp) _
          case measure => simp [intOf]; omega
        · obtain rfl : k = 4 := by omega
          have d0 : wr.cell? ⟨w1.heap.size, 0, none⟩ = some (ps 0) := cell_cells (i := 0) hpa
          have d1 : wr.cell? ⟨w1.heap.size, 1, none⟩ = some (ps 1) := cell_cells (i := 1) hpa
          have d2 : wr.cell? ⟨w1.heap.size, 2, none⟩ = some (ps 2) := cell_cells (i := 2) hpa
          have d3 : wr.cell? ⟨w1.heap.size, 3, none⟩ = some (ps 3) := cell_cells (i := 3) hpa
          have HOL : ∀ j : Nat, (ofL (numsL l (j : Int))).length ≤ 100001 := fun j => by have := ofL_len (numsL l (j : Int)); have := numsL_len l (j : Int); omega
          have HSP : Hid (∀ j, j < 4 → SlP wr wr.heap.size 2 RuE (ps j) (ofL (numsL l (j : Int)))) := fun j hj => by
            have := hpo j hj
            rw [if_pos hj] at this
            exact this.sl (by have := HOL j; unfold Big; omega)
          have HOLH := hid HOL
          clear hpa hpo HOL
          go_wp2_with fail
          refine (whole_any (fun j => ofL (numsL l (j : Int))) ps wr HSP.out (fun j _ => by have := HOLH.out j; show (ofL _).length ≤ _; omega)).mono ?_
          rintro e w2 ⟨v2, rfl, ho2, hb2⟩
          go_wp2_with fail
          go_ret2
          exact ⟨_, rfl, ho2.mono (by omega), (hb.trans (hbi.mono hsz)).trans (hb2.mono (by omega))⟩
end Go.Proofs.YtkjijbogbelilaaGreat

namespace Go.Proofs.YtkjijbogbelilaaGreat
open Go.RowKit
set_option maxRecDepth 100000

/-- What tree.Dots hands back. -/
def RetDots (t : Tr) (w : World) (e : Ending) (w' : World) : Prop :=
  ∃ v n, e = .returned (.tuple #[v, .int .i64 n]) ∧ n = (if t.right 5 then 0 else 1) ∧ OwnP w' w.heap.size 55 3 SpE v (if t.right 5 then ctxOf t.dots else []) ∧ Below w.heap.size w w'
set_option maxHeartbeats 1000000 in
theorem tdots_any (t : Tr) (ve vk : Value) (w : World) (h : t.rd w w.heap.size ve vk) (hN : t.sz ≤ 90000) :
    Calls Tryz.prog 95 #[.agg #[ve, vk]] w (RetDots t w) := by
  have HC : Hid (∀ w', Below w.heap.size w w' → t.rd w' w'.heap.size ve vk) := fun w' hb => rd_below hb hb.size _ _ _ h
  have hdl := dots_len t
  obtain ⟨A3, n3, A4, n4, rfl, rfl⟩ := rd_shape h
  have hb0 := (Below.refl w.heap.size w).alloc (Nat.le_refl _) (.cells #[.slice A3 t.es.length n3, .slice A4 t.ks.length n4] 25)
  clear h
  go_enter Tryz.func95, Tryz.ntmps95
  go_wp2_with fail
  refine (tRight_any t _ _ _ (HC.out _ hb0)).mono ?_
  rintro e w1 ⟨rfl, hb1⟩
  have hs1 := hb1.size
  simp only [World.size_alloc] at hs1
  have hB1 : Below w.heap.size w w1 := hb0.trans (hb1.mono (by simp))
  have c0 : w1.cell? ⟨w.heap.size, 0, none⟩ = some (.slice A3 t.es.length n3) := by rw [hb1.cell (p := ⟨w.heap.size, 0, none⟩) (by simp)]; simp
  have c1 : w1.cell? ⟨w.heap.size, 1, none⟩ = some (.slice A4 t.ks.length n4) := by rw [hb1.cell (p := ⟨w.heap.size, 1, none⟩) (by simp)]; simp
  cases hr : t.right 5
  · have HR := hid hr
    clear hr
    go_wp2_with fail
    go_ret2
    exact ⟨_, _, rfl, by rw [HR.out]; rfl, by rw [HR.out]; exact OwnP.nil, hB1⟩
  · have HR := hid hr
    have HD := hid (right_dots t 5 hr)
    clear hr
    go_wp2_with fail
    refine (tall_any t _ _ _ (HC.out _ hB1) (by omega)).mono ?_
    rintro e w2 ⟨v2, rfl, ho2, hb2⟩
    have hs2 := hb2.size
    have hsl := ho2.sl (by unfold Big; omega)
    clear ho2
    go_wp2_with fail
    refine (cof_any t.dots v2 w2 hsl HD.out (by omega)).mono ?_
    rintro e w3 ⟨v3, rfl, ho3, hb3⟩
    go_wp2_with fail
    go_ret2
    exact ⟨_, _, rfl, by rw [HR.out]; rfl, by rw [HR.out]; exact ho3.mono (by omega), (hB1.trans (hb2.mono (by omega))).trans (hb3.mono (by omega))⟩

theorem chk_eq {t : Tr} (h : t.right 5 = true) (d : Dt) : cHas (ctxOf t.dots) d = hasC (ctxOf t.dots) d := cHas_eq (apart_ctxOf (right_dots t 5 h)) d

/-- flag.Check's answer: 0 where a change may be made, else 1. -/
def chkI (t : Tr) (d : Dt) : Int := if chkT t d then 0 else 1
set_option maxHeartbeats 2000000 in
theorem fcheck_any (t : Tr) (d : Dt) (ve vk : Value) (w : World) (h : t.rd w w.heap.size ve vk) (hN : t.sz ≤ 90000) :
    Calls Tryz.prog 104 #[.agg #[ve, vk], .agg #[.int .i64 d.dc, .int .i64 d.n]] w fun e w' => e = .returned (.int .i64 (chkI t d)) ∧ Below w.heap.size w w' := by
  have HC : Hid (∀ w', Below w.heap.size w w' → t.rd w' w'.heap.size ve vk) := fun w' hb => rd_below hb hb.size _ _ _ h
  have hcl : (ctxOf t.dots).length ≤ 900000 := by have := ctxOfK_len t.dots 4; have := dots_len t; unfold ctxOf; omega
  have HCL := hid hcl
  obtain ⟨A3, n3, A4, n4, rfl, rfl⟩ := rd_shape h
  have hb0 := ((Below.refl w.heap.size w).alloc (Nat.le_refl _) (.cells #[.slice A3 t.es.length n3, .slice A4 t.ks.length n4] 25)).alloc (by simp) (.cells #[.int .i64 d.dc, .int .i64 d.n] 42)
  clear h hcl
  go_enter Tryz.func104, Tryz.ntmps104
  go_wp2_with fail
  refine (tdots_any t _ _ _ (HC.out _ hb0) hN).mono ?_
  rintro e w1 ⟨v1, n1, rfl, hn1, ho1, hb1⟩
  have hs1 := hb1.size
  simp only [World.size_alloc] at hs1
  have hB1 : Below w.heap.size w w1 := hb0.trans (hb1.mono (by simp; omega))
  have c0 : w1.cell? ⟨w.heap.size + 1, 0, none⟩ = some (.int .i64 d.dc) := by rw [hb1.cell (p := ⟨w.heap.size + 1, 0, none⟩) (by simp)]; simp
  have c1 : w1.cell? ⟨w.heap.size + 1, 1, none⟩ = some (.int .i64 d.n) := by rw [hb1.cell (p := ⟨w.heap.size + 1, 1, none⟩) (by simp)]; simp
  cases hr : t.right 5
  · have HR : Hid (chkT t d = false) := by unfold Hid chkT; rw [hr]; rfl
    rw [hr] at hn1
    obtain rfl : n1 = 1 := hn1
    clear hr ho1
    go_wp2_with fail
    go_ret
    exact ⟨ret_int (by rw [chkI, HR.out]; rfl), hB1⟩
  rw [hr] at hn1 ho1
  obtain rfl : n1 = 0 := hn1
  simp only [if_true] at ho1
  have hsl := ho1.sl (by have := HCL.out; unfold Big; omega)
  have HSL := hid hsl
  cases hd : d.right
  · have HR : Hid (chkT t d = false) := by unfold Hid chkT; rw [hr, hd]; rfl
    have HD := hid hd
    clear hr ho1 hsl hd
    go_wp2_with (go_at_call 142; refine (dright_any d _).mono ?_; rw [HD.out]; rintro e w2 ⟨rfl, hb2⟩)
    go_ret
    exact ⟨ret_int (by rw [chkI, HR.out]; rfl), hB1.trans (hb2.mono (by omega))⟩
  · have HR : Hid (chkT t d = !cHas (ctxOf t.dots) d) := by unfold Hid chkT; rw [hr, hd, chk_eq hr]; rfl
    have HD := hid hd
    clear hr ho1 hsl hd
    go_wp2_with fail
    refine (dright_any d _).mono ?_
    rw [HD.out]
    rintro e w2 ⟨rfl, hb2⟩
    have hs2 := hb2.size
    have d0 : w2.cell? ⟨w.heap.size + 1, 0, none⟩ = some (.int .i64 d.dc) := (hb2.cell (p := ⟨w.heap.size + 1, 0, none⟩) (by show w.heap.size + 1 < _; omega)).trans c0
    have d1 : w2.cell? ⟨w.heap.size + 1, 1, none⟩ = some (.int .i64 d.n) := (hb2.cell (p := ⟨w.heap.size + 1, 1, none⟩) (by show w.heap.size + 1 < _; omega)).trans c1
    go_wp2_with fail
    refine (chas_any (ctxOf t.dots) d v1 w2 (HSL.out.imp hb2 hs2 fun _ _ _ h => h) HCL.out).mono ?_
    rintro e w3 ⟨rfl, hb3⟩
    have hB3 := (hB1.trans (hb2.mono (by omega))).trans (hb3.mono (show w.heap.size ≤ _ by omega))
    generalize cHas (ctxOf t.dots) d = q at *
    cases q
    all_goals
      go_wp2_with fail
      go_ret
      exact ⟨ret_int (by rw [chkI, HR.out]; rfl), hB3⟩
end Go.Proofs.YtkjijbogbelilaaGreat

namespace Go.Proofs.YtkjijbogbelilaaGreat
open Go.RowKit
set_option maxRecDepth 100000

/-- The call hands back what is known, in blocks of its own, and an error's number. -/
def RetCE (w : World) (t : Tr) (c : List Sp) (k : Int) (e : Ending) (w' : World) : Prop :=
  ∃ ve vk vc, e = .returned (.tuple #[.agg #[ve, vk, vc], .int .i64 k]) ∧ t.rda w' (fun b => w.heap.size ≤ b ∧ b < w'.heap.size) ve vk ∧ SlA w' (fun b => w.heap.size ≤ b ∧ b < w'.heap.size) 3 SpE vc c ∧ Below w.heap.size w w'
theorem chkT_right {t : Tr} {d : Dt} (h : chkT t d = true) : d.right = true := by
  unfold chkT at h; simp at h; exact h.1.2
theorem chkT_tree {t : Tr} {d : Dt} (h : chkT t d = true) : t.right 5 = true := by
  unfold chkT at h; simp at h; exact h.1.1
theorem SlA.one {α : Type} {w : World} {ok : Nat → Prop} {sz n : Nat} {E : α → List Value → Prop} {x : α} {cs : List Value} {e : TypeId} {z : Nat × Nat} (hE : E x cs) (hl : cs.length = sz) (h : w.heap[n]? = some (.cells cs.toArray e z)) (ho : ok n) :
    SlA w ok sz E (.slice (some ⟨n, 0, none⟩) 1 1) [x] := by
  refine ⟨_, 1, rfl, Nat.le_refl _, by simp [Big], fun _ => ⟨_, 0, rfl, ho, fun j y hy => ?_⟩⟩
  match j, hy with
  | 0, hy =>
    simp at hy; subst hy
    exact ⟨cs, hE, hl, fun i u hi => by rw [cell_cells h]; simpa using hi⟩
theorem En.Ok.mk' {d : Dt} {n : Int} (hd : d.Ok) (hn : I64 n) : En.Ok ⟨d.dc, d.n, ByteArray.empty, n⟩ := ⟨hd.dc, hd.n, hn, by simp [Big]⟩
end Go.Proofs.YtkjijbogbelilaaGreat

namespace Go.Proofs.YtkjijbogbelilaaGreat
open Go.RowKit
set_option maxRecDepth 100000

theorem wrapClo_any (s : ByteArray) (w : World) : Calls Tryz.prog 152 #[.string s] w fun e w' => e = .returned (.bool !keyB s) ∧ Below w.heap.size w w' := by
  go_enter Tryz.func152, Tryz.ntmps152
  go_wp2_with fail
  refine (tkey_any s _).mono ?_
  rintro e w1 ⟨rfl, hb1⟩
  go_wp2_with fail
  go_ret
  exact ⟨rfl, hb1⟩

theorem right_dep : ∀ (t : Tr) (d : Int), t.right d = true → (t.dep : Int) ≤ d := by
  intro t
  induction t using Tr.ind with
  | h es ks ih =>
  intro d h
  rw [Tr.right, Bool.and_eq_true, Bool.and_eq_true, decide_eq_true_eq] at h
  obtain ⟨⟨h1, _⟩, h2⟩ := h
  rw [Tr.dep]
  have : ∀ (p : Option ByteArray) (ks : List Kd), (∀ k t, (k, t) ∈ ks → ∀ d, t.right d = true → (t.dep : Int) ≤ d) → Tr.rightL p ks d = true → (Tr.depL ks : Int) ≤ d - 1 := by
    intro p ks
    induction ks generalizing p with
    | nil => intro _ _; simp [Tr.depL]; omega
    | cons x ks ih' =>
      obtain ⟨k, t⟩ := x
      intro hi h
      rw [rightL_cons, Bool.and_eq_true, Bool.and_eq_true] at h
      have a := hi k t (by simp) _ h.1.2
      have b := ih' (some k) (fun k t hm => hi k t (by simp [hm])) h.2
      rw [Tr.depL]; omega
  have := this none ks ih h2
  omega

/-- What tree.Wrap makes of a tree and a key: the error's number, the tree. -/
def wrapE (t : Tr) (s : ByteArray) : Int := if !(t.right 5) || !keyB s then 1 else if !empB t.es.length t.ks.length && decide (5 < t.dep + 1) then 10 else 0
def wrapT (t : Tr) (s : ByteArray) : Tr := if wrapE t s = 0 then (if empB t.es.length t.ks.length then t else .mk [] [(s, t)]) else .mk [] []
/-- The call hands back a tree in blocks of its own, and an error's number. -/
def RetTE (w : World) (t : Tr) (k : Int) (e : Ending) (w' : World) : Prop :=
  ∃ ve vk, e = .returned (.tuple #[.agg #[ve, vk], .int .i64 k]) ∧ t.rda w' (fun b => w.heap.size ≤ b ∧ b < w'.heap.size) ve vk ∧ Below w.heap.size w w'
theorem wrap_world {w w6 : World} {t : Tr} {s : ByteArray} {Ae Ak : Option Addr} {ne nk : Nat} {x0 x1 : Value} (hs : s.size ≤ Big) (g2 : w6.heap[w.heap.size]? = some (.cells #[x0, x1] 25 (0, 0)))
    (g4 : w6.heap[w.heap.size + 1]? = some (.cells #[.slice none 0 0, .slice none 0 0] 25 (0, 0))) (hsw : w.heap.size + 2 ≤ w6.heap.size) (hrd : t.rda w6 (fun b => w.heap.size + 2 ≤ b ∧ b < w6.heap.size) (.slice Ae t.es.length ne) (.slice Ak t.ks.length nk)) (hB : Below w.heap.size w w6) :
    ∃ W, W = ((((w6.setCell ⟨w.heap.size, 0, none⟩ (.slice none 0 0)).setCell ⟨w.heap.size, 1, none⟩ (.slice (some ⟨w6.heap.size, 0, none⟩) 1 1)).alloc (.cells #[.string s, .slice Ae t.es.length ne, .slice Ak t.ks.length nk] 109)).drew) ∧ W.heap[w.heap.size]? = some (.cells #[.slice none 0 0, .slice (some ⟨w6.heap.size, 0, none⟩) 1 1] 25 (0, 0)) ∧
      (Tr.mk [] [(s, t)]).rda W (fun b => w.heap.size + 2 ≤ b ∧ b < W.heap.size) (.slice none 0 0) (.slice (some ⟨w6.heap.size, 0, none⟩) 1 1) ∧
      W.heap[w.heap.size + 1]? = some (.cells #[.slice none 0 0, .slice none 0 0] 25 (0, 0)) ∧ Below w.heap.size w W ∧ w.heap.size + 2 ≤ W.heap.size := by
  have hS : ((w6.setCell ⟨w.heap.size, 0, none⟩ (.slice none 0 0)).setCell ⟨w.heap.size, 1, none⟩ (.slice (some ⟨w6.heap.size, 0, none⟩) 1 1)).heap.size = w6.heap.size := by simp [World.setCell]
  have hK : ∀ b, b ≠ w.heap.size → ((w6.setCell ⟨w.heap.size, 0, none⟩ (.slice none 0 0)).setCell ⟨w.heap.size, 1, none⟩ (.slice (some ⟨w6.heap.size, 0, none⟩) 1 1)).heap[b]? = w6.heap[b]? := fun b hb => (Below.heap_setCell _ _ _ _ hb).trans (Below.heap_setCell _ _ _ _ hb)
  have hC := cells_set (i := 1) (cells_set (i := 0) g2 (.slice none 0 0)) (.slice (some ⟨w6.heap.size, 0, none⟩) 1 1)
  have hBW := (hB.setCell (p := ⟨w.heap.size, 0, none⟩) (by simp) (.slice none 0 0)).setCell (p := ⟨w.heap.size, 1, none⟩) (by simp) (.slice (some ⟨w6.heap.size, 0, none⟩) 1 1)
  refine ⟨_, rfl, ?_⟩
  generalize ((w6.setCell ⟨w.heap.size, 0, none⟩ (.slice none 0 0)).setCell ⟨w.heap.size, 1, none⟩ (.slice (some ⟨w6.heap.size, 0, none⟩) 1 1)) = V at *
  refine ⟨(heap_old (by omega)).trans (by simpa using hC), ?_, (heap_old (by omega)).trans ((hK _ (by omega)).trans g4), (hBW.alloc (by omega) _).drew, by show _ ≤ (V.alloc _).heap.size; rw [World.size_alloc]; omega⟩
  rw [rda_iff]
  refine ⟨SlA.nil, ?_⟩
  have hZ : (V.alloc (.cells #[.string s, .slice Ae t.es.length ne, .slice Ak t.ks.length nk] 109)).drew.heap.size = V.heap.size + 1 := World.size_alloc _ _
  have hk2 : Keeps (fun b => w.heap.size + 2 ≤ b ∧ b < w6.heap.size) w6 (V.alloc (.cells #[.string s, .slice Ae t.es.length ne, .slice Ak t.ks.length nk] 109)).drew := fun b hb => show (V.alloc (.cells #[.string s, .slice Ae t.es.length ne, .slice Ak t.ks.length nk] 109)).heap[b]? = _ from (heap_old (by have := hb.2; omega)).trans (hK b (by have := hb.1; omega))
  have hrd2 : t.rda (V.alloc (.cells #[.string s, .slice Ae t.es.length ne, .slice Ak t.ks.length nk] 109)).drew (fun b => w.heap.size + 2 ≤ b ∧ b < (V.alloc (.cells #[.string s, .slice Ae t.es.length ne, .slice Ak t.ks.length nk] 109)).drew.heap.size) (.slice Ae t.es.length ne) (.slice Ak t.ks.length nk) := rda_up hk2 (fun b hb => ⟨hb.1, by rw [hZ]; have := hb.2; omega⟩) _ _ _ hrd
  have hnew : (V.alloc (.cells #[.string s, .slice Ae t.es.length ne, .slice Ak t.ks.length nk] 109)).drew.heap[w6.heap.size]? = some (.cells #[.string s, .slice Ae t.es.length ne, .slice Ak t.ks.length nk] 109 (0, 0)) := show (V.alloc (.cells #[.string s, .slice Ae t.es.length ne, .slice Ak t.ks.length nk] 109)).heap[w6.heap.size]? = _ from heap_new hS.symm
  exact SlA.one (x := (s, t)) (cs := [.string s, .slice Ae t.es.length ne, .slice Ak t.ks.length nk]) (e := 109) (z := (0, 0)) ⟨_, _, rfl, hs, hrd2⟩ rfl hnew ⟨hsw, by rw [hZ]; omega⟩
set_option maxHeartbeats 4000000 in
theorem twrap_any (t : Tr) (s : ByteArray) (ve vk vp : Value) (w : World) (h : t.rd w w.heap.size ve vk) (hp : SlP w w.heap.size 1 StE vp [s]) (hN : t.sz ≤ 900000) :
    Calls Tryz.prog 113 #[.agg #[ve, vk], vp] w (RetTE w (wrapT t s) (wrapE t s)) := by
  have HC : Hid (∀ w', Below w.heap.size w w' → t.rd w' w'.heap.size ve vk) := fun w' hb => rd_below hb hb.size _ _ _ h
  have HP : Hid (∀ w', Below w.heap.size w w' → SlP w' w'.heap.size 1 StE vp [s]) := fun w' hb => hp.imp hb hb.size fun _ _ _ h => h
  have hfit := fit_rd _ _ _ h
  obtain ⟨hel, hkl⟩ : t.es.length ≤ 140737488355328 ∧ t.ks.length ≤ 140737488355328 := by obtain ⟨es, ks⟩ := t; exact ⟨hfit.1, hfit.2.1⟩
  obtain ⟨A3, n3, A4, n4, rfl, rfl⟩ := rd_shape h
  obtain ⟨Ap, cp, rfl, p1, p2, p3⟩ := hp
  obtain ⟨bp, op, rfl, hbp, hcp⟩ := p3 (by simp)
  obtain ⟨cs, ⟨rfl, hsz⟩, _, hu⟩ := hcp 0 s rfl
  have hps : w.cell? ⟨bp, op, none⟩ = some (.string s) := by simpa using hu 0 _ rfl
  clear hcp hu p3 h hfit
  simp only [List.length_cons, List.length_nil] at *
  have hb0 : Below w.heap.size w ((w.alloc (.cells #[.slice A3 t.es.length n3, .slice A4 t.ks.length n4] 25)).alloc (.cells #[.slice none 0 0, .slice none 0 0] 25)) := ((Below.refl _ w).alloc (Nat.le_refl _) _).alloc (by simp) _
  have HT : Hid (∀ w, TestStr 152 #[] (fun s => !keyB s) w) := fun w => ⟨enters_of Tryz.func152 (by kernel_rfl) rfl, fun x W _ _ => wrapClo_any x W⟩
  go_enter Tryz.func113, Tryz.ntmps113
  have HW : Hid (∀ w', Below (w.heap.size + 2) ((w.alloc (.cells #[.slice A3 t.es.length n3, .slice A4 t.ks.length n4] 25)).alloc (.cells #[.slice none 0 0, .slice none 0 0] 25)) w' → Below w.heap.size w w' ∧ w.heap.size + 2 ≤ w'.heap.size ∧ w'.heap[w.heap.size]? = some (.cells #[.slice A3 t.es.length n3, .slice A4 t.ks.length n4] 25 (0, 0)) ∧ w'.heap[w.heap.size + 1]? = some (.cells #[.slice none 0 0, .slice none 0 0] 25 (0, 0)) ∧ w'.cell? ⟨bp, op, none⟩ = some (.string s)) := fun w' hb => by
    have hB : Below w.heap.size w w' := hb0.trans (hb.mono (by omega))
    refine ⟨hB, by have := hb.size; simpa using this, (hb.block _ (by omega)).trans ((heap_old (by simp)).trans (heap_new rfl)), (hb.block _ (by omega)).trans (heap_new (by simp)), (hB.cell hbp).trans hps⟩
  have HPS := hid hps
  clear hps
  go_wp2_with fail
  refine (tRight_any t _ _ _ (HC.out _ hb0)).mono ?_
  rintro e w1 ⟨rfl, hb1⟩
  have hb1' := hid (hb1.mono (show w.heap.size + 2 ≤ _ by simp))
  obtain ⟨hB1, hs1, g2, g4, hps⟩ := HW.out _ hb1'.out
  have HG2 := hid g2
  have HG4 := hid g4
  have c0 : w1.cell? ⟨w.heap.size, 0, none⟩ = some (.slice A3 t.es.length n3) := cell_cells (i := 0) g2
  have c1 : w1.cell? ⟨w.heap.size, 1, none⟩ = some (.slice A4 t.ks.length n4) := cell_cells (i := 1) g2
  have k0 : w1.cell? ⟨w.heap.size + 1, 0, none⟩ = some (.slice none 0 0) := cell_cells (i := 0) g4
  have k1 : w1.cell? ⟨w.heap.size + 1, 1, none⟩ = some (.slice none 0 0) := cell_cells (i := 1) g4
  have y0 := cells_frz (i := 0) g2
  have y1 := cells_frz (i := 1) g2
  have z0 := cells_frz (i := 0) g4
  have z1 := cells_frz (i := 1) g4
  clear g2 g4
  clear hb1
  cases hr : t.right 5
  · have HE : Hid (wrapE t s = 1) := by unfold Hid wrapE; rw [hr]; rfl
    have HTT : Hid (wrapT t s = .mk [] []) := by unfold Hid wrapT; rw [HE.out]; rfl
    clear hr
    go_wp2_with fail
    have hW0 := cells_set (i := 1) (cells_set (i := 0) HG4.out (.slice none 0 0)) (.slice none 0 0)
    have r0 := (cell_cells (i := 0) hW0).trans (show _ = some (.slice none 0 0) by simp)
    have r1 := (cell_cells (i := 1) hW0).trans (show _ = some (.slice none 0 0) by simp)
    refine bodyPost_ret (v := .tuple #[.agg #[.slice none 0 0, .slice none 0 0], .int .i64 1]) (by simp [results, Tryz.results113, go_sem, r0, r1]) rfl ⟨_, _, by rw [HE.out], by rw [HTT.out]; exact rda_nil _ _, (hB1.setCell (by simp) _).setCell (by simp) _⟩
  have hdep := right_dep t 5 hr
  go_wp2_with fail
  refine (conStr_any (fun s => !keyB s) _ _ [s] _ w1 (HP.out _ hB1) (HT.out w1)).mono ?_
  rintro e w2 ⟨rfl, hb2⟩
  rw [show List.any [s] (fun s => !keyB s) = !keyB s by simp]
  clear c0 c1 k0 k1 y0 y1 z0 z1 hps HG2 HG4
  have hb2' := hid (hb1'.out.trans (hb2.mono hs1))
  obtain ⟨hB2, hs2, g2, g4, hps⟩ := HW.out _ hb2'.out
  have HG2 := hid g2
  have HG4 := hid g4
  have c0 : w2.cell? ⟨w.heap.size, 0, none⟩ = some (.slice A3 t.es.length n3) := cell_cells (i := 0) g2
  have c1 : w2.cell? ⟨w.heap.size, 1, none⟩ = some (.slice A4 t.ks.length n4) := cell_cells (i := 1) g2
  have k0 : w2.cell? ⟨w.heap.size + 1, 0, none⟩ = some (.slice none 0 0) := cell_cells (i := 0) g4
  have k1 : w2.cell? ⟨w.heap.size + 1, 1, none⟩ = some (.slice none 0 0) := cell_cells (i := 1) g4
  have y0 := cells_frz (i := 0) g2
  have y1 := cells_frz (i := 1) g2
  have z0 := cells_frz (i := 0) g4
  have z1 := cells_frz (i := 1) g4
  clear g2 g4
  clear hb2
  cases hk : keyB s
  · have HE : Hid (wrapE t s = 1) := by unfold Hid wrapE; rw [hr, hk]; rfl
    have HTT : Hid (wrapT t s = .mk [] []) := by unfold Hid wrapT; rw [HE.out]; rfl
    clear hr hk
    go_wp2_with fail
    have hW0 := cells_set (i := 1) (cells_set (i := 0) HG4.out (.slice none 0 0)) (.slice none 0 0)
    have r0 := (cell_cells (i := 0) hW0).trans (show _ = some (.slice none 0 0) by simp)
    have r1 := (cell_cells (i := 1) hW0).trans (show _ = some (.slice none 0 0) by simp)
    refine bodyPost_ret (v := .tuple #[.agg #[.slice none 0 0, .slice none 0 0], .int .i64 1]) (by simp [results, Tryz.results113, go_sem, r0, r1]) rfl ⟨_, _, by rw [HE.out], by rw [HTT.out]; exact rda_nil _ _, (hB2.setCell (by simp) _).setCell (by simp) _⟩
  go_wp2_with fail
  refine (tempty_any t.es.length t.ks.length A3 A4 n3 n4 w2).mono ?_
  rintro e w3 ⟨rfl, hb3⟩
  clear c0 c1 k0 k1 y0 y1 z0 z1 hps HG2 HG4
  have hb3' := hid (hb2'.out.trans (hb3.mono hs2))
  obtain ⟨hB3, hs3, g2, g4, hps⟩ := HW.out _ hb3'.out
  have HG2 := hid g2
  have HG4 := hid g4
  have c0 : w3.cell? ⟨w.heap.size, 0, none⟩ = some (.slice A3 t.es.length n3) := cell_cells (i := 0) g2
  have c1 : w3.cell? ⟨w.heap.size, 1, none⟩ = some (.slice A4 t.ks.length n4) := cell_cells (i := 1) g2
  have k0 : w3.cell? ⟨w.heap.size + 1, 0, none⟩ = some (.slice none 0 0) := cell_cells (i := 0) g4
  have k1 : w3.cell? ⟨w.heap.size + 1, 1, none⟩ = some (.slice none 0 0) := cell_cells (i := 1) g4
  have y0 := cells_frz (i := 0) g2
  have y1 := cells_frz (i := 1) g2
  have z0 := cells_frz (i := 0) g4
  have z1 := cells_frz (i := 1) g4
  clear g2 g4
  clear hb3
  cases hm : empB t.es.length t.ks.length
  · go_wp2_with fail
    refine (tdeep_any t w3 _ _ (HC.out _ hB3) (by omega)).mono ?_
    rintro e w4 ⟨rfl, hb4⟩
    clear c0 c1 k0 k1 y0 y1 z0 z1 hps HG2 HG4
    have hb4' := hid (hb3'.out.trans (hb4.mono hs3))
    obtain ⟨hB4, hs4, g2, g4, hps⟩ := HW.out _ hb4'.out
    have HG2 := hid g2
    have HG4 := hid g4
    have c0 : w4.cell? ⟨w.heap.size, 0, none⟩ = some (.slice A3 t.es.length n3) := cell_cells (i := 0) g2
    have c1 : w4.cell? ⟨w.heap.size, 1, none⟩ = some (.slice A4 t.ks.length n4) := cell_cells (i := 1) g2
    have k0 : w4.cell? ⟨w.heap.size + 1, 0, none⟩ = some (.slice none 0 0) := cell_cells (i := 0) g4
    have k1 : w4.cell? ⟨w.heap.size + 1, 1, none⟩ = some (.slice none 0 0) := cell_cells (i := 1) g4
    have y0 := cells_frz (i := 0) g2
    have y1 := cells_frz (i := 1) g2
    have z0 := cells_frz (i := 0) g4
    have z1 := cells_frz (i := 1) g4
    clear g2 g4
    clear hb4
    cases hd : decide (5 < t.dep + 1)
    · have HE : Hid (wrapE t s = 0) := by unfold Hid wrapE; rw [hr, hk, hm, hd]; rfl
      have HTT : Hid (wrapT t s = .mk [] [(s, t)]) := by unfold Hid wrapT; rw [HE.out, hm]; rfl
      have hd1 : decide ((5 : Int) < (t.dep : Int) + 1) = false := by simp at hd ⊢; omega
      clear hr hk hd
      go_wp2_with fail
      refine (tclone_any t w4 _ _ (HC.out _ hB4) hN).mono ?_
      rintro e w5 ⟨vc, vd, rfl, hrd, hb5⟩
      obtain ⟨A5, n5, A6, n6, rfl, rfl⟩ := rda_shape hrd
      clear c0 c1 k0 k1 y0 y1 z0 z1 hps HG2 HG4
      have hb5' := hid (hb4'.out.trans (hb5.mono hs4))
      obtain ⟨hB5, hs5, g2, g4, hps⟩ := HW.out _ hb5'.out
      have HG2 := hid g2
      have HG4 := hid g4
      have c0 : w5.cell? ⟨w.heap.size, 0, none⟩ = some (.slice A3 t.es.length n3) := cell_cells (i := 0) g2
      have c1 : w5.cell? ⟨w.heap.size, 1, none⟩ = some (.slice A4 t.ks.length n4) := cell_cells (i := 1) g2
      have k0 : w5.cell? ⟨w.heap.size + 1, 0, none⟩ = some (.slice none 0 0) := cell_cells (i := 0) g4
      have k1 : w5.cell? ⟨w.heap.size + 1, 1, none⟩ = some (.slice none 0 0) := cell_cells (i := 1) g4
      have y0 := cells_frz (i := 0) g2
      have y1 := cells_frz (i := 1) g2
      have z0 := cells_frz (i := 0) g4
      have z1 := cells_frz (i := 1) g4
      clear g2 g4
      clear hb5
      have HRD : Hid (t.rda w5 (fun b => w.heap.size + 2 ≤ b ∧ b < w5.heap.size) (.slice A5 t.es.length n5) (.slice A6 t.ks.length n6)) := rda_up (fun _ _ => rfl) (fun b hb => ⟨by have := hb.1; omega, hb.2⟩) _ _ _ hrd
      clear hrd
      go_wp2_with fail
      obtain ⟨r0, r1, r2, r3⟩ := box_tree HG2.out HRD.out (fun b hb => by have := hb.1; omega)
      have r4 : ((w5.setCell ⟨w.heap.size, 0, none⟩ (.slice A5 t.es.length n5)).setCell ⟨w.heap.size, 1, none⟩ (.slice A6 t.ks.length n6)).heap[w.heap.size]? = some (.cells #[.slice A5 t.es.length n5, .slice A6 t.ks.length n6] 25 (0, 0)) := by simpa using cells_set (i := 1) (cells_set (i := 0) HG2.out (.slice A5 t.es.length n5)) (.slice A6 t.ks.length n6)
      have r5 : ((w5.setCell ⟨w.heap.size, 0, none⟩ (.slice A5 t.es.length n5)).setCell ⟨w.heap.size, 1, none⟩ (.slice A6 t.ks.length n6)).heap[w.heap.size + 1]? = some (.cells #[.slice none 0 0, .slice none 0 0] 25 (0, 0)) := (Below.heap_setCell _ _ _ _ (by simp)).trans ((Below.heap_setCell _ _ _ _ (by simp)).trans HG4.out)
      have r6 : Below w.heap.size w ((w5.setCell ⟨w.heap.size, 0, none⟩ (.slice A5 t.es.length n5)).setCell ⟨w.heap.size, 1, none⟩ (.slice A6 t.ks.length n6)) := (hB5.setCell (by simp) _).setCell (by simp) _
      clear c0 c1 k0 k1 y0 y1 z0 z1 hps HG2 HG4
      generalize ((w5.setCell ⟨w.heap.size, 0, none⟩ (.slice A5 t.es.length n5)).setCell ⟨w.heap.size, 1, none⟩ (.slice A6 t.ks.length n6)) = W5 at *
      go_loopw [6] (fun i wr => ∃ T Ae ne Ak nk, wr.heap[w.heap.size]? = some (.cells #[.slice Ae T.es.length ne, .slice Ak T.ks.length nk] 25 (0, 0)) ∧ T.rda wr (fun b => w.heap.size + 2 ≤ b ∧ b < wr.heap.size) (.slice Ae T.es.length ne) (.slice Ak T.ks.length nk) ∧
          wr.heap[w.heap.size + 1]? = some (.cells #[.slice none 0 0, .slice none 0 0] 25 (0, 0)) ∧ Below w.heap.size w wr ∧ w.heap.size + 2 ≤ wr.heap.size ∧ ((i = .int .i64 0 ∧ T = t) ∨ (i = .int .i64 (-1) ∧ Hid (empB t.es.length t.ks.length = false) ∧ T = .mk [] [(s, t)]))) (fun i _ => (intOf i + 1).toNat)
      case atStart => exact ⟨t, A5, n5, A6, n6, r4, by rw [r3]; exact r2, r5, r6, by omega, .inl ⟨rfl, rfl⟩⟩
      case round =>
        obtain ⟨T, Ae, ne, Ak, nk, hg2, hrd, hg4, hB, hsw, hT⟩ := hrel
        clear r0 r1 r2 r3 r4 r5 r6
        have c0 : wr.cell? ⟨w.heap.size, 0, none⟩ = some (.slice Ae T.es.length ne) := cell_cells (i := 0) hg2
        have c1 : wr.cell? ⟨w.heap.size, 1, none⟩ = some (.slice Ak T.ks.length nk) := cell_cells (i := 1) hg2
        have k0 : wr.cell? ⟨w.heap.size + 1, 0, none⟩ = some (.slice none 0 0) := cell_cells (i := 0) hg4
        have k1 : wr.cell? ⟨w.heap.size + 1, 1, none⟩ = some (.slice none 0 0) := cell_cells (i := 1) hg4
        have y0 := cells_frz (i := 0) hg2
        have y1 := cells_frz (i := 1) hg2
        have z0 := cells_frz (i := 0) hg4
        have z1 := cells_frz (i := 1) hg4
        have HG2 := hid hg2
        have HG4 := hid hg4
        have HRDW := hid hrd
        clear hg2 hg4 hrd
        rcases hT with ⟨rfl, hTt⟩ | ⟨rfl, hTt⟩
        · have hTt' := hTt.symm
          subst hTt'
          go_wp2_with fail
          refine (tempty_any t.es.length t.ks.length Ae Ak ne nk wr).mono ?_
          rw [hm]
          rintro e w6 ⟨rfl, hb6⟩
          have hs6 := hb6.size
          have hB6 : Below w.heap.size w w6 := hB.trans (hb6.mono (by omega))
          have g2 := (hb6.block _ (by omega)).trans HG2.out
          have g4 := (hb6.block _ (by omega)).trans HG4.out
          clear c0 c1 k0 k1 y0 y1 z0 z1
          have c0 : w6.cell? ⟨w.heap.size, 0, none⟩ = some (.slice Ae t.es.length ne) := cell_cells (i := 0) g2
          have c1 : w6.cell? ⟨w.heap.size, 1, none⟩ = some (.slice Ak t.ks.length nk) := cell_cells (i := 1) g2
          have y0 := cells_frz (i := 0) g2
          have y1 := cells_frz (i := 1) g2
          have hps6 : w6.cell? ⟨bp, op, none⟩ = some (.string s) := (hB6.cell hbp).trans HPS.out
          have HG2 := hid g2
          have HG4 := hid g4
          have hlt6 : w.heap.size < w6.heap.size := by omega
          have hne6 : w.heap.size ≠ w6.heap.size := by omega
          have HM := hid hm
          clear g2 g4 hm
          go_upto_region 9 with (fail)
          go_region_with (fail)
          all_goals (
            obtain ⟨W, hW, a1, a2, a3, a4, a5⟩ := wrap_world (s := s) hsz HG2.out HG4.out (by omega) (rda_up (fun b hb => hb6.block b hb.2) (fun b hb => ⟨hb.1, by have := hb.2; omega⟩) _ _ _ HRDW.out) hB6
            rw [← hW]
            clear hW c0 c1 y0 y1 hps6
            go_wp2_with fail
            go_roundw
            case rel => exact ⟨.mk [] [(s, t)], none, 0, some ⟨w6.heap.size, 0, none⟩, 1, a1, a2, a3, a4, a5, .inr ⟨by go_num, HM, rfl⟩⟩
            case measure => simp [intOf])
        · obtain ⟨_, hTt⟩ := hTt
          subst hTt
          go_wp2_with fail
          obtain ⟨r0, r1, r2, r3⟩ := box_tree HG4.out HRDW.out (fun b hb => by have := hb.1; omega)
          have hBW : Below w.heap.size w ((wr.setCell ⟨w.heap.size + 1, 0, none⟩ (.slice Ae (Tr.mk [] [(s, t)]).es.length ne)).setCell ⟨w.heap.size + 1, 1, none⟩ (.slice Ak (Tr.mk [] [(s, t)]).ks.length nk)) := (hB.setCell (by simp) _).setCell (by simp) _
          generalize ((wr.setCell ⟨w.heap.size + 1, 0, none⟩ (.slice Ae (Tr.mk [] [(s, t)]).es.length ne)).setCell ⟨w.heap.size + 1, 1, none⟩ (.slice Ak (Tr.mk [] [(s, t)]).ks.length nk)) = W at *
          refine bodyPost_ret (v := .tuple #[.agg #[.slice Ae (Tr.mk [] [(s, t)]).es.length ne, .slice Ak (Tr.mk [] [(s, t)]).ks.length nk], .int .i64 0]) (by simp [results, Tryz.results113, go_sem, r0, r1]) rfl ⟨_, _, by rw [HE.out], by rw [HTT.out]; exact rda_up (fun _ _ => rfl) (fun b hb => ⟨by have := hb.1; omega, by have := hb.2; omega⟩) _ _ _ r2, hBW⟩
    · have HE : Hid (wrapE t s = 10) := by unfold Hid wrapE; rw [hr, hk, hm, hd]; rfl
      have HTT : Hid (wrapT t s = .mk [] []) := by unfold Hid wrapT; rw [HE.out]; rfl
      have hd1 : decide ((5 : Int) < (t.dep : Int) + 1) = true := by simp at hd ⊢; omega
      clear hr hk hm hd
      go_wp2_with fail
      have hW0 := cells_set (i := 1) (cells_set (i := 0) HG4.out (.slice none 0 0)) (.slice none 0 0)
      have r0 := (cell_cells (i := 0) hW0).trans (show _ = some (.slice none 0 0) by simp)
      have r1 := (cell_cells (i := 1) hW0).trans (show _ = some (.slice none 0 0) by simp)
      refine bodyPost_ret (v := .tuple #[.agg #[.slice none 0 0, .slice none 0 0], .int .i64 10]) (by simp [results, Tryz.results113, go_sem, r0, r1]) rfl ⟨_, _, by rw [HE.out], by rw [HTT.out]; exact rda_nil _ _, (hB4.setCell (by simp) _).setCell (by simp) _⟩
  · have HE : Hid (wrapE t s = 0) := by unfold Hid wrapE; rw [hr, hk, hm]; rfl
    have HTT : Hid (wrapT t s = t) := by unfold Hid wrapT; rw [HE.out, hm]; rfl
    clear hr hk
    go_wp2_with fail
    refine (tclone_any t w3 _ _ (HC.out _ hB3) hN).mono ?_
    rintro e w5 ⟨vc, vd, rfl, hrd, hb5⟩
    obtain ⟨A5, n5, A6, n6, rfl, rfl⟩ := rda_shape hrd
    clear c0 c1 k0 k1 y0 y1 z0 z1 hps HG2 HG4
    have hb5' := hid (hb3'.out.trans (hb5.mono hs3))
    obtain ⟨hB5, hs5, g2, g4, hps⟩ := HW.out _ hb5'.out
    have HG2 := hid g2
    have HG4 := hid g4
    have c0 : w5.cell? ⟨w.heap.size, 0, none⟩ = some (.slice A3 t.es.length n3) := cell_cells (i := 0) g2
    have c1 : w5.cell? ⟨w.heap.size, 1, none⟩ = some (.slice A4 t.ks.length n4) := cell_cells (i := 1) g2
    have k0 : w5.cell? ⟨w.heap.size + 1, 0, none⟩ = some (.slice none 0 0) := cell_cells (i := 0) g4
    have k1 : w5.cell? ⟨w.heap.size + 1, 1, none⟩ = some (.slice none 0 0) := cell_cells (i := 1) g4
    have y0 := cells_frz (i := 0) g2
    have y1 := cells_frz (i := 1) g2
    have z0 := cells_frz (i := 0) g4
    have z1 := cells_frz (i := 1) g4
    clear g2 g4
    clear hb5
    have HRD : Hid (t.rda w5 (fun b => w.heap.size + 2 ≤ b ∧ b < w5.heap.size) (.slice A5 t.es.length n5) (.slice A6 t.ks.length n6)) := rda_up (fun _ _ => rfl) (fun b hb => ⟨by have := hb.1; omega, hb.2⟩) _ _ _ hrd
    clear hrd
    go_wp2_with fail
    obtain ⟨r0, r1, r2, r3⟩ := box_tree HG2.out HRD.out (fun b hb => by have := hb.1; omega)
    have r4 : ((w5.setCell ⟨w.heap.size, 0, none⟩ (.slice A5 t.es.length n5)).setCell ⟨w.heap.size, 1, none⟩ (.slice A6 t.ks.length n6)).heap[w.heap.size]? = some (.cells #[.slice A5 t.es.length n5, .slice A6 t.ks.length n6] 25 (0, 0)) := by simpa using cells_set (i := 1) (cells_set (i := 0) HG2.out (.slice A5 t.es.length n5)) (.slice A6 t.ks.length n6)
    have r5 : ((w5.setCell ⟨w.heap.size, 0, none⟩ (.slice A5 t.es.length n5)).setCell ⟨w.heap.size, 1, none⟩ (.slice A6 t.ks.length n6)).heap[w.heap.size + 1]? = some (.cells #[.slice none 0 0, .slice none 0 0] 25 (0, 0)) := (Below.heap_setCell _ _ _ _ (by simp)).trans ((Below.heap_setCell _ _ _ _ (by simp)).trans HG4.out)
    have r6 : Below w.heap.size w ((w5.setCell ⟨w.heap.size, 0, none⟩ (.slice A5 t.es.length n5)).setCell ⟨w.heap.size, 1, none⟩ (.slice A6 t.ks.length n6)) := (hB5.setCell (by simp) _).setCell (by simp) _
    clear c0 c1 k0 k1 y0 y1 z0 z1 hps HG2 HG4
    generalize ((w5.setCell ⟨w.heap.size, 0, none⟩ (.slice A5 t.es.length n5)).setCell ⟨w.heap.size, 1, none⟩ (.slice A6 t.ks.length n6)) = W5 at *
    go_loopw [6] (fun i wr => ∃ T Ae ne Ak nk, wr.heap[w.heap.size]? = some (.cells #[.slice Ae T.es.length ne, .slice Ak T.ks.length nk] 25 (0, 0)) ∧ T.rda wr (fun b => w.heap.size + 2 ≤ b ∧ b < wr.heap.size) (.slice Ae T.es.length ne) (.slice Ak T.ks.length nk) ∧
        wr.heap[w.heap.size + 1]? = some (.cells #[.slice none 0 0, .slice none 0 0] 25 (0, 0)) ∧ Below w.heap.size w wr ∧ w.heap.size + 2 ≤ wr.heap.size ∧ ((i = .int .i64 0 ∧ T = t) ∨ (i = .int .i64 (-1) ∧ Hid (empB t.es.length t.ks.length = false) ∧ T = .mk [] [(s, t)]))) (fun i _ => (intOf i + 1).toNat)
    case atStart => exact ⟨t, A5, n5, A6, n6, r4, by rw [r3]; exact r2, r5, r6, by omega, .inl ⟨rfl, rfl⟩⟩
    case round =>
      obtain ⟨T, Ae, ne, Ak, nk, hg2, hrd, hg4, hB, hsw, hT⟩ := hrel
      clear r0 r1 r2 r3 r4 r5 r6
      have c0 : wr.cell? ⟨w.heap.size, 0, none⟩ = some (.slice Ae T.es.length ne) := cell_cells (i := 0) hg2
      have c1 : wr.cell? ⟨w.heap.size, 1, none⟩ = some (.slice Ak T.ks.length nk) := cell_cells (i := 1) hg2
      have k0 : wr.cell? ⟨w.heap.size + 1, 0, none⟩ = some (.slice none 0 0) := cell_cells (i := 0) hg4
      have k1 : wr.cell? ⟨w.heap.size + 1, 1, none⟩ = some (.slice none 0 0) := cell_cells (i := 1) hg4
      have y0 := cells_frz (i := 0) hg2
      have y1 := cells_frz (i := 1) hg2
      have z0 := cells_frz (i := 0) hg4
      have z1 := cells_frz (i := 1) hg4
      have HG2 := hid hg2
      have HG4 := hid hg4
      have HRDW := hid hrd
      clear hg2 hg4 hrd
      rcases hT with ⟨rfl, hTt⟩ | ⟨rfl, hTt⟩
      · have hTt' := hTt.symm
        subst hTt'
        go_wp2_with fail
        refine (tempty_any t.es.length t.ks.length Ae Ak ne nk wr).mono ?_
        rw [hm]
        rintro e w6 ⟨rfl, hb6⟩
        have hs6 := hb6.size
        have hB6 : Below w.heap.size w w6 := hB.trans (hb6.mono (by omega))
        have g2 := (hb6.block _ (by omega)).trans HG2.out
        have g4 := (hb6.block _ (by omega)).trans HG4.out
        clear c0 c1 k0 k1 y0 y1 z0 z1
        have c0 : w6.cell? ⟨w.heap.size, 0, none⟩ = some (.slice Ae t.es.length ne) := cell_cells (i := 0) g2
        have c1 : w6.cell? ⟨w.heap.size, 1, none⟩ = some (.slice Ak t.ks.length nk) := cell_cells (i := 1) g2
        have k0 : w6.cell? ⟨w.heap.size + 1, 0, none⟩ = some (.slice none 0 0) := cell_cells (i := 0) g4
        have k1 : w6.cell? ⟨w.heap.size + 1, 1, none⟩ = some (.slice none 0 0) := cell_cells (i := 1) g4
        have z0 := cells_frz (i := 0) g4
        have z1 := cells_frz (i := 1) g4
        have HG4 := hid g4
        clear g2 g4 hm
        go_wp2_with fail
        obtain ⟨r0, r1, r2, r3⟩ := box_tree HG4.out (rda_up (fun b hb => hb6.block b hb.2) (fun b hb => (⟨hb.1, by have := hb.2; omega⟩ : w.heap.size + 2 ≤ b ∧ b < w6.heap.size)) _ _ _ HRDW.out) (fun b hb => by have := hb.1; omega)
        have hBW : Below w.heap.size w ((w6.setCell ⟨w.heap.size + 1, 0, none⟩ (.slice Ae t.es.length ne)).setCell ⟨w.heap.size + 1, 1, none⟩ (.slice Ak t.ks.length nk)) := (hB6.setCell (by simp) _).setCell (by simp) _
        generalize ((w6.setCell ⟨w.heap.size + 1, 0, none⟩ (.slice Ae t.es.length ne)).setCell ⟨w.heap.size + 1, 1, none⟩ (.slice Ak t.ks.length nk)) = W at *
        refine bodyPost_ret (v := .tuple #[.agg #[.slice Ae t.es.length ne, .slice Ak t.ks.length nk], .int .i64 0]) (by simp [results, Tryz.results113, go_sem, r0, r1]) rfl ⟨_, _, by rw [HE.out], by rw [HTT.out]; exact rda_up (fun _ _ => rfl) (fun b hb => ⟨by have := hb.1; omega, by have := hb.2; omega⟩) _ _ _ r2, hBW⟩
      · exact absurd (hTt.1.symm.trans hm) (by simp)
end Go.Proofs.YtkjijbogbelilaaGreat

namespace Go.Proofs.YtkjijbogbelilaaGreat
open Go.RowKit
set_option maxRecDepth 100000

/-- How deep leaves stand. -/
def deepLv : List Lf → Nat
  | [] => 0
  | x :: l => max (1 + x.1.length) (deepLv l)
theorem deepLv_le {n : Nat} : ∀ {l : List Lf}, deepLv l ≤ n ↔ ∀ x ∈ l, 1 + x.1.length ≤ n
  | [] => by simp [deepLv]
  | x :: l => by
    rw [deepLv, Nat.max_le, deepLv_le]; simp
theorem deepLv_take {l : List Lf} {k : Nat} {x : Lf} (h : l[k]? = some x) : deepLv (l.take (k + 1)) = max (deepLv (l.take k)) (1 + x.1.length) := by
  induction l generalizing k with
  | nil => simp at h
  | cons y l ih =>
    cases k with
    | zero => simp at h; subst h; simp [deepLv]
    | succ k =>
      simp only [List.take_succ_cons]
      rw [deepLv, deepLv, ih (by simpa using h)]; omega
theorem deepLv_take_le (l : List Lf) (k : Nat) : deepLv (l.take k) ≤ deepLv l :=
  deepLv_le.2 fun x hx => deepLv_le.1 (Nat.le_refl (deepLv l)) x (List.mem_of_mem_take hx)
theorem depL_le_iff {n : Nat} : ∀ {ks : List Kd}, Tr.depL ks ≤ n ↔ ∀ k t, (k, t) ∈ ks → t.dep ≤ n
  | [] => by simp [Tr.depL]
  | (k, t) :: ks => by
    rw [Tr.depL, Nat.max_le, depL_le_iff]
    constructor
    · rintro ⟨h1, h2⟩ k' t' hm
      rcases List.mem_cons.1 hm with e | hm
      · cases e; exact h1
      · exact h2 k' t' hm
    · intro h; exact ⟨h k t (by simp), fun k' t' hm => h k' t' (by simp [hm])⟩
theorem dep_iff : ∀ (t : Tr), t.Ord → t.empty = false → ∀ n : Nat, (∀ x ∈ t.lvs [], 1 + x.1.length ≤ n) ↔ t.dep ≤ n := by
  intro t
  induction t using Tr.ind with
  | h es ks ih =>
  intro h he n
  obtain ⟨_, _, h3⟩ := ord_iff.1 h
  rw [Tr.dep]
  constructor
  · intro hl
    obtain ⟨x, hx⟩ := ord_leaf _ h he
    have h0 := hl x hx
    have : Tr.depL ks ≤ n - 1 := depL_le_iff.2 fun k t hm => (ih k t hm (h3 k t hm).2.2 (h3 k t hm).2.1 (n - 1)).1 fun y hy => by
      have := hl (k :: y.1, y.2) (mem_cons'.2 ⟨t, hm, hy⟩)
      simp at this; omega
    omega
  · intro hd x hx
    have hd' : Tr.depL ks ≤ n - 1 := by omega
    rcases mem_lvs.1 hx with ⟨hn, _⟩ | ⟨k, t, qs, hm, hq, hl⟩
    · rw [hn]; simp; omega
    · have := (ih k t hm (h3 k t hm).2.2 (h3 k t hm).2.1 (n - 1)).2 (depL_le_iff.1 hd' k t hm) _ hl
      rw [hq]; simp at this ⊢; omega
theorem deep_dep {t : Tr} (h : t.Ord) (he : t.empty = false) : deepLv (t.lvs []) = t.dep :=
  Nat.le_antisymm (deepLv_le.2 ((dep_iff t h he _).2 (Nat.le_refl _))) ((dep_iff t h he _).1 (deepLv_le.1 (Nat.le_refl _)))
theorem empB_empty (t : Tr) : empB t.es.length t.ks.length = t.empty := by
  obtain ⟨es, ks⟩ := t
  rw [Bool.eq_iff_iff]; simp [empB, Tr.empty, Tr.es, Tr.ks]
theorem lvs_empty {t : Tr} (h : t.Ord) : (t.lvs []).isEmpty = t.empty := by
  cases he : t.empty
  · obtain ⟨x, hx⟩ := ord_leaf t h he
    cases hl : t.lvs []
    · rw [hl] at hx; cases hx
    · rfl
  · obtain ⟨es, ks⟩ := t
    simp [Tr.empty] at he
    obtain ⟨rfl, rfl⟩ := he
    rfl
theorem buildL_nil : buildL [] = .mk [] [] := by
  have := build_lvs (t := .mk [] []) (Ord.mk' .nil .nil fun _ _ h => by cases h)
  exact this

/-- What tributaryref08.Wrap tells: the error's number, the tree. -/
def wrapRE (t : Tr) (p : List ByteArray) : Int := if !(p.all keyB) then 1 else if decide (5 < p.length) || !(t.lvs []).isEmpty && decide (5 < deepLv (t.lvs []) + p.length) then 10 else 0
def wrapRT (t : Tr) (p : List ByteArray) : Tr := if wrapRE t p = 0 then buildL ((t.lvs []).map fun x => (p ++ x.1, x.2)) else .mk [] []
theorem wrapRE_one {t : Tr} (s : ByteArray) (h : t.right 5 = true) : wrapRE t [s] = wrapE t s := by
  have ho := right_ord t 5 h
  unfold wrapRE wrapE
  rw [h, lvs_empty ho, empB_empty]
  cases he : t.empty
  · rw [deep_dep ho he]; simp
  · simp
theorem wrapRT_one {t : Tr} (s : ByteArray) (h : t.right 5 = true) : wrapRT t [s] = wrapT t s := by
  have ho := right_ord t 5 h
  unfold wrapRT wrapT
  rw [wrapRE_one s h]
  by_cases hz : wrapE t s = 0
  · rw [if_pos hz, if_pos hz, empB_empty]
    have hk : keyB s = true := by
      unfold wrapE at hz
      cases hk : keyB s
      · rw [hk] at hz; simp at hz
      · rfl
    cases he : t.empty
    · rw [if_neg (by simp)]
      have hO : Tr.Ord (.mk [] [(s, t)]) := Ord.mk' .nil (List.pairwise_singleton _ _) fun k u hm => by
        rw [List.mem_singleton] at hm; cases hm; exact ⟨keyB_ne hk, he, ho⟩
      have := build_lvs hO
      rw [Tr.lvs, Tr.lvsL, Tr.lvsL, List.map_nil, List.nil_append, List.append_nil, List.nil_append, lvs_at] at this
      exact this
    · rw [if_pos rfl]
      obtain ⟨es, ks⟩ := t
      simp [Tr.empty] at he
      obtain ⟨rfl, rfl⟩ := he
      exact buildL_nil
  · rw [if_neg hz, if_neg hz]
end Go.Proofs.YtkjijbogbelilaaGreat

namespace Go.Proofs.YtkjijbogbelilaaGreat
open Go.RowKit
set_option maxRecDepth 100000

/-- The keys of two trees. -/
def joinK (a b : Tr) : List ByteArray := cmpL (srtL ((a.ks ++ b.ks).map (·.1)))
def joinF (f : ByteArray → Tr) (k : ByteArray) : List Kd := if (f k).empty then [] else [(k, f k)]
/-- Two trees joined. -/
def joinT : Nat → List Sp → List Sp → Tr → Tr → Tr
  | 0, _, _, _, _ => .mk [] []
  | n + 1, ca, cb, a, b => .mk (entL ca cb a.es b.es) ((joinK a b).flatMap (joinF fun k => joinT n ca cb (kidT a k) (kidT b k)))
theorem joinF_len (f : ByteArray → Tr) (k : ByteArray) : (joinF f k).length ≤ 1 := by unfold joinF; split <;> simp
theorem joinF_lens (f : ByteArray → Tr) : ∀ l : List ByteArray, (l.flatMap (joinF f)).length ≤ l.length
  | [] => by simp
  | k :: l => by
    have h1 := joinF_len f k
    have h2 := joinF_lens f l
    rw [List.flatMap_cons, List.length_append, List.length_cons]; omega
theorem joinF_take {l : List ByteArray} {k : Nat} {x : ByteArray} (h : l[k]? = some x) (f : ByteArray → Tr) : (l.take (k + 1)).flatMap (joinF f) = (l.take k).flatMap (joinF f) ++ joinF f x := by
  rw [List.take_add_one, h, List.flatMap_append]; simp
theorem cmpL_len (l : List ByteArray) : (cmpL l).length ≤ l.length := by
  unfold cmpL
  have := Lib.compact_length_le (l.map toBy)
  rw [List.length_map] at this ⊢; exact this
theorem cmpL_mem {l : List ByteArray} {x : ByteArray} (h : x ∈ cmpL l) : x ∈ l := by
  unfold cmpL at h
  obtain ⟨y, hy, rfl⟩ := List.mem_map.1 h
  unfold Lib.compact Lib.compactUpTo at hy
  obtain ⟨j, hj, rfl⟩ := List.mem_map.1 hy
  have hj' : j < (l.map toBy).length := List.mem_range.1 (List.mem_filter.1 hj).1
  rw [getElem!_pos _ j (by simpa using hj')]
  simp [ofBy_toBy]
theorem srtL_mem {l : List ByteArray} {x : ByteArray} (h : x ∈ srtL l) : x ∈ l := by
  unfold srtL at h
  obtain ⟨y, hy, rfl⟩ := List.mem_map.1 h
  obtain ⟨z, hz, rfl⟩ := List.mem_map.1 ((List.mergeSort_perm _ _).subset hy)
  exact hz
theorem joinK_mem {a b : Tr} {x : ByteArray} (h : x ∈ joinK a b) : ∃ t, (x, t) ∈ a.ks ∨ (x, t) ∈ b.ks := by
  have := srtL_mem (cmpL_mem h)
  obtain ⟨⟨k, t⟩, hm, rfl⟩ := List.mem_map.1 this
  rcases List.mem_append.1 hm with h | h
  · exact ⟨t, .inl h⟩
  · exact ⟨t, .inr h⟩
theorem joinK_len (a b : Tr) : (joinK a b).length ≤ a.ks.length + b.ks.length := by
  unfold joinK
  have h1 := cmpL_len (srtL ((a.ks ++ b.ks).map (·.1)))
  rw [srtL_len, List.length_map, List.length_append] at h1
  exact h1
theorem dep_pos (t : Tr) : 1 ≤ t.dep := by obtain ⟨es, ks⟩ := t; rw [Tr.dep]; omega
theorem kid_dep_of {t u : Tr} {k : ByteArray} (h : (k, u) ∈ t.ks) : u.dep + 1 ≤ t.dep := by
  obtain ⟨es, ks⟩ := t
  rw [Tr.dep]; have := depL_le (show (k, u) ∈ ks from h); omega
theorem kidT_dep {t : Tr} (ho : t.Ord) {n : Nat} (h : t.dep ≤ n + 1) (hn : 1 ≤ n) (k : ByteArray) : (kidT t k).dep ≤ n := by
  by_cases hm : ∃ u, (k, u) ∈ t.ks
  · obtain ⟨u, hm⟩ := hm
    rw [kidT_mem ho hm]; have := kid_dep_of hm; omega
  · rw [kidT_none fun u hu => hm ⟨u, hu⟩]; simp [Tr.dep, Tr.depL]; omega
theorem joinK_dep {a b : Tr} {n : Nat} (ha : a.dep ≤ n + 1) (hb : b.dep ≤ n + 1) {x : ByteArray} (h : x ∈ joinK a b) : 1 ≤ n := by
  obtain ⟨t, h | h⟩ := joinK_mem h
  · have := kid_dep_of h; have := dep_pos t; omega
  · have := kid_dep_of h; have := dep_pos t; omega
theorem es_sz (t : Tr) : t.es.length + t.ks.length ≤ t.sz := by
  obtain ⟨es, ks⟩ := t
  have := szL_len ks
  rw [Tr.sz]; simp only [Tr.es, Tr.ks]; omega
theorem es_slp {t : Tr} {w : World} {B : Nat} {ve vk : Value} (h : t.rd w B ve vk) : SlP w B 4 EnE ve t.es := by
  obtain ⟨es, ks⟩ := t; exact (rd_iff.1 h).1

theorem below_via {w w' : World} {o : Obj} (h : Below (w.alloc o).heap.size (w.alloc o) w') : Below w.heap.size w w' := ((Below.refl _ w).alloc (Nat.le_refl _) o).trans (h.mono (by simp))
theorem fin_set {wr w7 : World} {n N : Nat} {x y u v : Value} {e : TypeId} {t : Tr} (hbox : w7.heap[n]? = some (.cells #[x, y] e (0, 0))) (hn : wr.heap.size ≤ n) (hb : Below wr.heap.size wr w7) (hr : t.rda w7 (fun b => N ≤ b ∧ b < w7.heap.size) u v) (hnN : n < N) :
    ∀ W, Below ((w7.setCell ⟨n, 0, none⟩ u).setCell ⟨n, 1, none⟩ v).heap.size ((w7.setCell ⟨n, 0, none⟩ u).setCell ⟨n, 1, none⟩ v) W → W.cell? ⟨n, 0, none⟩ = some u ∧ W.cell? ⟨n, 1, none⟩ = some v ∧ Below wr.heap.size wr W ∧ t.rda W (fun b => wr.heap.size ≤ b ∧ b < W.heap.size) u v := by
  intro W hW
  have hsz : ((w7.setCell ⟨n, 0, none⟩ u).setCell ⟨n, 1, none⟩ v).heap.size = w7.heap.size := by simp [World.setCell]
  rw [hsz] at hW
  have hlt := lt_of_block hbox
  have hg : W.heap[n]? = some (.cells #[u, v] e (0, 0)) := (hW.block n hlt).trans (by simpa using cells_set (i := 1) (cells_set (i := 0) hbox u) v)
  have hs := hW.size
  rw [hsz] at hs
  refine ⟨cell_cells (i := 0) hg, cell_cells (i := 1) hg, ((hb.setCell hn _).setCell hn _).trans (hW.mono hb.size), rda_up (fun b hb' => ?_) (fun b hb' => ⟨by omega, by omega⟩) _ _ _ hr⟩
  rw [hW.block b hb'.2]
  exact (Below.heap_setCell _ _ _ _ (by simp; omega)).trans (Below.heap_setCell _ _ _ _ (by simp; omega))
theorem fin_new {wr w7 : World} {N : Nat} {u v : Value} {e : TypeId} {t : Tr} (hb : Below wr.heap.size wr w7) (hr : t.rda w7 (fun b => N ≤ b ∧ b < w7.heap.size) u v) (hN : wr.heap.size ≤ N) :
    ∀ W, Below (w7.alloc (.cells #[u, v] e)).heap.size (w7.alloc (.cells #[u, v] e)) W → W.cell? ⟨w7.heap.size, 0, none⟩ = some u ∧ W.cell? ⟨w7.heap.size, 1, none⟩ = some v ∧ Below wr.heap.size wr W ∧ t.rda W (fun b => wr.heap.size ≤ b ∧ b < W.heap.size) u v := by
  intro W hW
  have hg : W.heap[w7.heap.size]? = some (.cells #[u, v] e (0, 0)) := (hW.block _ (by simp)).trans (heap_new rfl)
  have hs := hW.size
  rw [World.size_alloc] at hs
  refine ⟨cell_cells (i := 0) hg, cell_cells (i := 1) hg, (hb.alloc hb.size _).trans (hW.mono (by have := hb.size; simp; omega)), rda_up (fun b hb' => ?_) (fun b hb' => ⟨by omega, by omega⟩) _ _ _ hr⟩
  rw [hW.block b (by rw [World.size_alloc]; omega)]
  exact heap_old hb'.2
set_option maxHeartbeats 4000000 in
theorem ctrees_any (ca cb : List Sp) (hN1 : ca.length ≤ 900000) (hN2 : cb.length ≤ 900000) : ∀ (n : Nat) (a b : Tr) (va ka vb kb vca vcb : Value) (w : World), a.rd w w.heap.size va ka → b.rd w w.heap.size vb kb → SlP w w.heap.size 3 SpE vca ca → SlP w w.heap.size 3 SpE vcb cb → a.Ord → b.Ord → a.dep ≤ n → b.dep ≤ n → a.sz ≤ 100000 → b.sz ≤ 100000 →
    Calls Tryz.prog 127 #[.agg #[va, ka], .agg #[vb, kb], vca, vcb] w (RetT w (joinT n ca cb a b)) := by
  intro n
  induction n with
  | zero => intro a b _ _ _ _ _ _ w _ _ _ _ _ _ h _ _ _; have := dep_pos a; omega
  | succ n ih =>
  intro a b va ka vb kb vca vcb w ha hb hca hcb hoa hob hda hdb hza hzb
  have HA := hid ha
  have HB := hid hb
  have HCA : Hid (∀ w', Below w.heap.size w w' → SlP w' w'.heap.size 3 SpE vca ca) := fun w' hb => hca.imp hb hb.size fun _ _ _ h => h
  have HCB : Hid (∀ w', Below w.heap.size w w' → SlP w' w'.heap.size 3 SpE vcb cb) := fun w' hb => hcb.imp hb hb.size fun _ _ _ h => h
  have hea := es_sz a
  have heb := es_sz b
  have hel := entL_len ca cb _ a.es b.es (Nat.le_refl _)
  obtain ⟨A1, n1, A2, n2, rfl, rfl⟩ := rd_shape ha
  obtain ⟨A3, n3, A4, n4, rfl, rfl⟩ := rd_shape hb
  obtain ⟨A5, n5, rfl, _⟩ := hca
  obtain ⟨A6, n6, rfl, _⟩ := hcb
  have hb0 : Below w.heap.size w (((w.alloc (.cells #[.slice A1 a.es.length n1, .slice A2 a.ks.length n2] 25)).alloc (.cells #[.slice A3 b.es.length n3, .slice A4 b.ks.length n4] 25)).alloc (.cells #[.slice none 0 0, .slice none 0 0] 25)) := (((Below.refl _ w).alloc (Nat.le_refl _) _).alloc (by simp) _).alloc (by simp; omega) _
  have HW : Hid (∀ w', Below (w.heap.size + 3) (((w.alloc (.cells #[.slice A1 a.es.length n1, .slice A2 a.ks.length n2] 25)).alloc (.cells #[.slice A3 b.es.length n3, .slice A4 b.ks.length n4] 25)).alloc (.cells #[.slice none 0 0, .slice none 0 0] 25)) w' → Below w.heap.size w w' ∧ w.heap.size + 3 ≤ w'.heap.size ∧ w'.heap[w.heap.size]? = some (.cells #[.slice A1 a.es.length n1, .slice A2 a.ks.length n2] 25 (0, 0)) ∧ w'.heap[w.heap.size + 1]? = some (.cells #[.slice A3 b.es.length n3, .slice A4 b.ks.length n4] 25 (0, 0)) ∧ w'.heap[w.heap.size + 2]? = some (.cells #[.slice none 0 0, .slice none 0 0] 25 (0, 0))) := fun w' hb =>
    ⟨hb0.trans (hb.mono (by omega)), by have := hb.size; simpa using this, (hb.block _ (by omega)).trans ((heap_old (by simp <;> omega)).trans ((heap_old (by simp)).trans (heap_new rfl))), (hb.block _ (by omega)).trans ((heap_old (by simp)).trans (heap_new (by simp))), (hb.block _ (by omega)).trans (heap_new (by simp))⟩
  have HOA := hid hoa
  have HOB := hid hob
  clear ha hb hoa hob
  go_enter Tryz.func127, Tryz.ntmps127
  go_wp2_with fail
  refine (centries_any a.es b.es ca cb _ _ _ _ _ ((es_slp HA.out).imp hb0 hb0.size fun _ _ _ h => h) ((es_slp HB.out).imp hb0 hb0.size fun _ _ _ h => h) (HCA.out _ hb0) (HCB.out _ hb0) (by omega) hN1 hN2).mono ?_
  rintro e w1 ⟨v1, rfl, ho1, hb1⟩
  obtain ⟨Ae, ce, rfl⟩ := OwnP.shape ho1
  have HO1 := hid ho1
  have hJ : joinT (n + 1) ca cb a b = .mk (entL ca cb a.es b.es) ((joinK a b).flatMap (joinF fun k => joinT n ca cb (kidT a k) (kidT b k))) := rfl
  have HJ := hid hJ
  generalize entL ca cb a.es b.es = E at *
  have hb1' := hid (hb1.mono (show w.heap.size + 3 ≤ _ by simp))
  obtain ⟨hB1, hs1, g0, g1, g2⟩ := HW.out _ hb1'.out
  have a1 : w1.cell? ⟨w.heap.size, 1, none⟩ = some (.slice A2 a.ks.length n2) := cell_cells (i := 1) g0
  have b1 : w1.cell? ⟨w.heap.size + 1, 1, none⟩ = some (.slice A4 b.ks.length n4) := cell_cells (i := 1) g1
  have hlt0 : w.heap.size < w1.heap.size := by omega
  have hlt1 : w.heap.size + 1 < w1.heap.size := by omega
  have hne0 : w.heap.size ≠ w1.heap.size := by omega
  have hne1 : w.heap.size + 1 ≠ w1.heap.size := by omega
  clear ho1 hJ g0 g1 g2 hb1
  have hb2 : Below w.heap.size w ((w1.alloc (.cells #[.slice Ae E.length ce, .slice none 0 0] 25)).alloc (.cells #[.slice A2 a.ks.length n2, .slice A4 b.ks.length n4] 23)) := (hB1.alloc (by omega) _).alloc (by simp; omega) _
  go_wp2_with fail
  refine (concatK_any w w.heap.size a.ks b.ks _ _ (w1.heap.size + 1) _ (by simp) (by simp) (by simp) ((kids_slp HA.out).imp hb2 hb2.size fun _ _ _ h => h) ((kids_slp HB.out).imp hb2 hb2.size fun _ _ _ h => h) (by omega) (by omega)).mono ?_
  rintro e w2 ⟨v2, rfl, ho2, hb3⟩
  have hs2 := hb3.size
  simp only [World.size_alloc] at hs2
  have hb12 : Below (w1.heap.size + 1) (w1.alloc (.cells #[.slice Ae E.length ce, .slice none 0 0] 25)) w2 := ((Below.refl _ _).alloc (by simp) _).trans (hb3.mono (by simp))
  obtain ⟨Ac, cc, rfl⟩ := OwnP.shape ho2
  have HSL := hid (ho2.sl (by unfold Big; simp; omega))
  have HB12 := hid hb12
  clear ho2 hb3 hb12 a1 b1 hb2
  obtain ⟨KS, hKS⟩ : ∃ KS, KS = a.ks ++ b.ks := ⟨_, rfl⟩
  have hKl : KS.length ≤ 200000 := by rw [hKS, List.length_append]; omega
  rw [← hKS] at HSL ⊢
  have HKS := hid hKS
  clear hKS
  go_wp2_with fail
  go_loopw [10, 31] (fun v i wr => ∃ k : Nat, k ≤ KS.length ∧ i = .int .i64 k ∧ OwnP wr w2.heap.size 9 1 StE v ((KS.take k).map (·.1)) ∧ Below w2.heap.size w2 wr) (fun _ i _ => KS.length - (intOf i).toNat)
  case atStart => exact ⟨0, Nat.zero_le _, rfl, OwnP.nil, Below.refl _ _⟩
  case round =>
    obtain ⟨k, hk, rfl, hown, hb⟩ := hrel
    have hsz := hb.size
    by_cases hlt : k < KS.length
    · obtain ⟨⟨key, t⟩, hx⟩ : ∃ x, KS[k]? = some x := ⟨_, List.getElem?_eq_getElem hlt⟩
      obtain ⟨A, m, hv, c1, c2, c3⟩ := HSL.out
      cases hv
      obtain ⟨b, off, rfl, hbB, hc⟩ := c3 (by rintro rfl; simp at hlt)
      obtain ⟨cs, ⟨ve', vk', rfl, hkb, hrd⟩, _, hu⟩ := hc k _ hx
      obtain ⟨A5, n5, A6, n6, rfl, rfl⟩ := rd_shape hrd
      have e0 : wr.cell? ⟨b, off + k * 3, none⟩ = some (.string key) := (hb.cell hbB).trans (hu 0 _ rfl)
      have e1 : wr.cell? ⟨b, off + k * 3 + 1, none⟩ = some (.slice A5 t.es.length n5) := (hb.cell hbB).trans (hu 1 _ rfl)
      have e2 : wr.cell? ⟨b, off + k * 3 + 2, none⟩ = some (.slice A6 t.ks.length n6) := (hb.cell hbB).trans (hu 2 _ rfl)
      have HX : Hid ((KS.take (k + 1)).map (·.1) = (KS.take k).map (·.1) ++ [key]) := by unfold Hid; rw [List.take_add_one, hx]; simp
      have HL : Hid (((KS.take k).map (·.1)).length + [key].length ≤ Few) := by unfold Hid Few; simp; omega
      have HKY : Hid (StE key [.string key]) := ⟨rfl, hkb⟩
      clear hu hc c3 hx hrd
      go_wp2_with (at_builtin; go_loud ((with_reducible refine wpList_few rfl (.tmp 35) (.tmp 38) _ rfl eiStr (by decide) (by decide) (fun _ _ h => StE.one h) rfl ((hown.alloc _).alloc _) rfl (SlP.oneN (x := key) HKY.out rfl _ rfl) HL.out (by simp only [World.size_alloc]; omega) ?_); intro v1 w3 hown1 hb2 _; have hb3 := (((Below.refl w2.heap.size wr).alloc (by omega) _).alloc (by simp only [World.size_alloc]; omega) _).trans hb2))
      go_roundw
      case rel => exact ⟨k + 1, by omega, by go_num, by rw [HX.out]; exact hown1, hb.trans hb3⟩
      case measure => simp [intOf]; omega
    · obtain rfl : k = KS.length := by omega
      rw [List.take_of_length_le (Nat.le_refl _)] at hown
      go_wp2_with fail
      refine (sortStr_any _ _ _ _ hown (by simp; omega) hsz).mono ?_
      rintro e w3 ⟨rfl, ho3, hb3⟩
      have hs3 : w2.heap.size ≤ w3.heap.size := Nat.le_trans hsz hb3.size
      go_wp2_with fail
      refine (compactStr_any _ _ _ _ ho3 (by rw [srtL_len]; simp; omega) hs3).mono ?_
      rintro e w4 ⟨v4, rfl, ho4, hb4⟩
      have hs4 : w2.heap.size ≤ w4.heap.size := Nat.le_trans hs3 hb4.size
      have hKK : cmpL (srtL (KS.map (·.1))) = joinK a b := by unfold joinK; rw [HKS.out]
      rw [hKK] at ho4
      have hkl := joinK_len a b
      have hB24 : Below w2.heap.size w2 w4 := (hb.trans hb3).trans hb4
      have HKM : Hid (∀ x ∈ joinK a b, 1 ≤ n) := fun x hx => joinK_dep hda hdb hx
      clear hKK hown ho3 hb hb3 hb4 hsz hs3 hlt hk
      have hB14 : Below (w1.heap.size + 1) (w1.alloc (.cells #[.slice Ae E.length ce, .slice none 0 0] 25)) w4 := HB12.out.trans (hB24.mono (by omega))
      have HG4 : Hid (w4.heap[w1.heap.size]? = some (.cells #[.slice Ae E.length ce, .slice none 0 0] 25 (0, 0))) := (hB14.block _ (by omega)).trans (heap_new rfl)
      have HB14 : Hid (Below w1.heap.size w1 w4) := ((Below.refl _ w1).alloc (Nat.le_refl _) _).trans (hB14.mono (by omega))
      have HSLA := hid (ho4.sla (by unfold Big; omega))
      obtain ⟨A9, c9, hv4⟩ := OwnP.shape ho4
      subst hv4
      clear ho4 hB14 hB24 wr
      have hJK : Hid ((joinK a b).flatMap (joinF fun k => joinT n ca cb (kidT a k) (kidT b k)) = (joinK a b).flatMap (joinF fun k => joinT n ca cb (kidT a k) (kidT b k))) := rfl
      generalize hKKe : joinK a b = KK at *
      have HKKe := hid hKKe
      clear hKKe
      generalize hFF : (fun k => joinT n ca cb (kidT a k) (kidT b k)) = F at *
      have HF : Hid (∀ k, F k = joinT n ca cb (kidT a k) (kidT b k)) := fun k => by rw [← hFF]
      clear hFF hJK
      have hlt4 : w1.heap.size < w4.heap.size := by omega
      go_wp2_with fail
      go_loopw [46] (fun i wr => ∃ k : Nat, k ≤ KK.length ∧ i = .int .i64 k ∧ ∃ Ak ck, wr.heap[w1.heap.size]? = some (.cells #[.slice Ae E.length ce, .slice Ak ((KK.take k).flatMap (joinF F)).length ck] 25 (0, 0)) ∧
          OwnD wr w4.heap.size 109 3 KdA (fun b => w4.heap.size ≤ b) (.slice Ak ((KK.take k).flatMap (joinF F)).length ck) ((KK.take k).flatMap (joinF F)) ∧ w4.heap.size ≤ wr.heap.size ∧ Below w1.heap.size w1 wr ∧ ∀ b, w1.heap.size < b → b < w4.heap.size → wr.heap[b]? = w4.heap[b]?) (fun i _ => KK.length - (intOf i).toNat)
      case atStart => exact ⟨0, Nat.zero_le _, rfl, none, 0, HG4.out, OwnP.nil, Nat.le_refl _, HB14.out, fun _ _ _ => rfl⟩
      case round =>
        obtain ⟨k, hk, rfl, Ak, ck, hg, hown, hsz, hb, hkp⟩ := hrel
        have hB0 : Below w.heap.size w wr := hB1.trans (hb.mono (by omega))
        have hszk := hown.lt
        by_cases hlt : k < KK.length
        · obtain ⟨key, hx⟩ : ∃ x, KK[k]? = some x := ⟨_, List.getElem?_eq_getElem hlt⟩
          obtain ⟨A, m, hv, c1, c2, c3⟩ := HSLA.out
          cases hv
          obtain ⟨b', off, rfl, hbB, hc⟩ := c3 (by rintro rfl; simp at hlt)
          obtain ⟨cs, ⟨rfl, hkb⟩, _, hu⟩ := hc k _ hx
          have e0 : wr.cell? ⟨b', off + k, none⟩ = some (.string key) := (by unfold World.cell?; rw [hkp b' (by have := hbB.1; omega) hbB.2.1] : wr.cell? ⟨b', off + k, none⟩ = w4.cell? ⟨b', off + k, none⟩).trans (by simpa using hu 0 _ rfl)
          have hn1 := HKM.out key (List.mem_of_getElem? hx)
          have HX := hid (joinF_take hx F)
          have HJL := joinF_lens F (KK.take k)
          rw [List.length_take] at HJL
          generalize (KK.take k).flatMap (joinF F) = js at *
          have HL : Hid (js.length + [(key, F key)].length ≤ Few) := by unfold Hid Few; simp; omega
          have HKB := hid hkb
          have HC8 : Hid (∀ W, Below wr.heap.size wr W → (W.cell? ⟨w.heap.size, 0, none⟩ = some (.slice A1 a.es.length n1) ∧ W.cell? ⟨w.heap.size, 1, none⟩ = some (.slice A2 a.ks.length n2) ∧ W.cell? ⟨w.heap.size + 1, 0, none⟩ = some (.slice A3 b.es.length n3) ∧ W.cell? ⟨w.heap.size + 1, 1, none⟩ = some (.slice A4 b.ks.length n4)) ∧ Below w.heap.size w W) := fun W hW => by
            obtain ⟨q0, _, q1, q2, _⟩ := HW.out W (hb1'.out.trans ((hb.mono (by omega)).trans (hW.mono (by omega))))
            exact ⟨⟨cell_cells (i := 0) q1, cell_cells (i := 1) q1, cell_cells (i := 0) q2, cell_cells (i := 1) q2⟩, q0⟩
          have HRA : Hid (∀ W, Below wr.heap.size wr W → a.rd W W.heap.size (.slice A1 a.es.length n1) (.slice A2 a.ks.length n2)) := fun W hW => rd_below (HC8.out W hW).2 (HC8.out W hW).2.size _ _ _ HA.out
          have HRB : Hid (∀ W, Below wr.heap.size wr W → b.rd W W.heap.size (.slice A3 b.es.length n3) (.slice A4 b.ks.length n4)) := fun W hW => rd_below (HC8.out W hW).2 (HC8.out W hW).2.size _ _ _ HB.out
          obtain ⟨⟨q0, q1, q2, q3⟩, _⟩ := HC8.out wr (Below.refl _ _)
          have HIH := hid (ih (kidT a key) (kidT b key))
          have HDA := hid (kidT_dep HOA.out hda hn1 key)
          have HDB := hid (kidT_dep HOB.out hdb hn1 key)
          have HZA := hid (Nat.le_trans (kidT_sz a key) hza)
          have HZB := hid (Nat.le_trans (kidT_sz b key) hzb)
          have hFk := HF.out key
          have HFK := hid hFk
          clear hu hc c3 hx hkb hn1 hFk ih
          go_upto_region 12 with (fail)
          go_region_held3 (fun w' => w'.cell? ⟨w.heap.size, 0, none⟩ = some (.slice A1 a.es.length n1) ∧ w'.cell? ⟨w.heap.size, 1, none⟩ = some (.slice A2 a.ks.length n2) ∧ w'.cell? ⟨w.heap.size + 1, 0, none⟩ = some (.slice A3 b.es.length n3) ∧ w'.cell? ⟨w.heap.size + 1, 1, none⟩ = some (.slice A4 b.ks.length n4))
            (first | go_keep | exact (HC8.out _ hbk3.out).1 | exact (HC8.out _ (hbk3.out.alloc hbk3.out.size _)).1 | exact (HC8.out _ hbk2.out).1 | exact (HC8.out _ (hbk2.out.alloc hbk2.out.size _)).1 | exact (HC8.out _ hbk1.out).1 | exact (HC8.out _ (hbk1.out.alloc hbk1.out.size _)).1 | exact (HC8.out _ ((hbk3.out.setCell hge.out _).setCell hge.out _)).1)
            (first | (have hq := hbk2; go_at_call 127; go_loud ((refine (HIH.out _ _ _ _ _ _ _ (by first | exact HQA2.out | exact rd_below (below_via (Below.refl _ _)) (by simp) _ _ _ HQA2.out) (by first | exact HQB.out | exact rd_below (below_via (Below.refl _ _)) (by simp) _ _ _ HQB.out) (HCA.out _ (HC8.out _ (by first | exact hbk2.out | exact hbk2.out.alloc hbk2.out.size _)).2) (HCB.out _ (HC8.out _ (by first | exact hbk2.out | exact hbk2.out.alloc hbk2.out.size _)).2) (kidT_ord HOA.out key) (kidT_ord HOB.out key) HDA.out HDB.out HZA.out HZB.out).mono ?_); rw [← HFK.out]; rintro e w7 ⟨ve7, vk7, rfl, hrd7, hb⟩; obtain ⟨Av, nv, Aw, nw, rfl, rfl⟩ := rda_shape hrd7; have HR7 := hid hrd7; have hb' : Below w6.heap.size w6 w7 := (by first | exact hb | exact below_via hb); have hbk3 : Hid (Below wr.heap.size wr w7) := hbk2.out.trans (hb'.mono (by have := hbk2.out.size; simpa using this)); (try (have hnN := hid (lt_of_block hbox.out); have hbox := hid ((hb.block _ hnN.out).trans hbox.out))); (try (have hbox : Hid (w7.heap[w6.heap.size]? = some (.cells #[.slice none 0 0, .slice none 0 0] 25 (0, 0))) := (hb.block _ (by simp; done)).trans (heap_new rfl); have hnN : Hid (w6.heap.size < (w6.alloc (.cells #[.slice none 0 0, .slice none 0 0] 25)).heap.size) := (by unfold Hid; simp); have hge := hid hs6)); (try (have z0 := cells_frz (i := 0) hbox.out; have z1 := cells_frz (i := 1) hbox.out; have y0 := cell_cells (i := 0) hbox.out; have y1 := cell_cells (i := 1) hbox.out)); clear hrd7 hb hb'))
                   | (have hq := hbk1; go_at_call 164; go_loud ((refine (ckid_any b key _ _ _ (HRB.out _ (by first | exact hbk1.out | exact hbk1.out.alloc hbk1.out.size _)) HOB.out).mono ?_); rintro e w6 ⟨ve6, vk6, rfl, hrd6, hb⟩; have hb' : Below w5.heap.size w5 w6 := (by first | exact hb | exact below_via hb); have HQB := hid (rd_below hb hb.size _ _ _ hrd6); have HQA2 := hid (rd_below hb' hb'.size _ _ _ HQA.out); have hbk2 : Hid (Below wr.heap.size wr w6) := hbk1.out.trans (hb'.mono (by have := hbk1.out.size; simpa using this)); have hs6 := hbk2.out.size; (try (have hbox := hid ((hb.block _ (lt_of_block hbox.out)).trans hbox.out))); (try (have hbox : Hid (w6.heap[w5.heap.size]? = some (.cells #[.slice none 0 0, .slice none 0 0] 25 (0, 0))) := (hb.block _ (by simp; done)).trans (heap_new rfl); have hge := hid hs5)); clear hrd6 hb hb'))
                   | (go_at_call 164; go_loud ((refine (ckid_any a key _ _ _ (HRA.out _ (by go_grown)) HOA.out).mono ?_); rintro e w5 ⟨ve5, vk5, rfl, hrd5, hb⟩; have HQA := hid (rd_below hb hb.size _ _ _ hrd5); have hbk1 : Hid (Below wr.heap.size wr w5) := (Below.trans (by go_grown) (hb.mono (by simp))); have hs5 := hbk1.out.size; (try (have hbox : Hid (w5.heap[wr.heap.size]? = some (.cells #[.slice none 0 0, .slice none 0 0] 25 (0, 0))) := (hb.block _ (by simp; done)).trans (heap_new (by simp)); have hge := hid (Nat.le_refl wr.heap.size))); clear hrd5 hb)))
          all_goals (
            first
              | have hFIN := hid (fin_set hbox.out hge.out hbk3.out HR7.out hnN.out)
              | have hFIN := hid (fin_new (e := 25) hbk3.out HR7.out (by have := hbk2.out.size; simp; omega))
            have hge4 := hbk3.out.size
            obtain ⟨q4, q5, _, _⟩ := hFIN.out _ (Below.refl _ _)
            go_wp2_with fail
            refine (tempty_any _ _ _ _ _ _ _).mono ?_
            rintro e w8 ⟨rfl, hb8⟩
            obtain ⟨q6, q7, hb9, hrd9⟩ := hFIN.out _ hb8
            have hs9 := hb9.size
            have hg8 := (hb9.block w1.heap.size (by omega)).trans hg
            have hkp8 : ∀ b, w1.heap.size < b → b < w4.heap.size → w8.heap[b]? = w4.heap[b]? := fun b h1 h2 => (hb9.block b (by omega)).trans (hkp b h1 h2)
            have hown8 := hown.grow KdA.mon hb9
            clear q0 q1 q2 q3 q4 q5
            cases he : empB (F key).es.length (F key).ks.length
            · have HX2 : Hid ((KK.take (k + 1)).flatMap (joinF F) = js ++ [(key, F key)]) := by
                unfold Hid; rw [HX.out]; unfold joinF; rw [← empB_empty, he]; rfl
              have c9 : w8.cell? ⟨w1.heap.size, 1, none⟩ = some (.slice Ak js.length ck) := cell_cells (i := 1) hg8
              have hlt8 : w1.heap.size < w8.heap.size := by omega
              clear he
              go_wp2_with (at_builtin; go_loud ((with_reducible refine wpList_d (v := .slice Ak js.length ck) rfl (.tmp 63) (.tmp 67) _ rfl KdA.mon eiKid (by decide) (by decide) rfl (hown8.grow KdA.mon ((Below.refl _ w8).alloc (Nat.le_refl _) (.cells #[.string key, .slice Av (F key).es.length nv, .slice Aw (F key).ks.length nw] 109))) rfl (kid_one hrd9 HKB.out (fun b hb => ⟨hb.2, by have := hb.1; omega, by rw [World.size_alloc]; have := hb.2; omega, fun e => by have := hszk b e; have := hb.1; omega⟩) _ (by rw [World.size_alloc]; omega)) HL.out (by rw [World.size_alloc]; omega) ?_); intro v1 w9 hown9 hb10 _ _; have hsh9 : ∃ A c, v1 = .slice A (js ++ [(key, F key)]).length c := OwnP.shape hown9; obtain ⟨A1', c1', hv1⟩ := hsh9; subst hv1; have hg9 := hid ((hb10.block _ hlt4).trans ((heap_old hlt8).trans hg8)); have hc9 : w9.cell? ⟨w1.heap.size, 1, none⟩ = some (.slice Ak js.length ck) := cell_cells (i := 1) hg9.out; have hf9 := cells_frz (i := 1) hg9.out))
              have hb11 := ((hb9.mono (show w4.heap.size ≤ _ from hsz)).alloc (show w4.heap.size ≤ w8.heap.size by omega) _).trans hb10
              have hs11 := hb11.size
              go_roundw
              case rel =>
                refine ⟨k + 1, by omega, by go_num, A1', c1', ?_, ?_, ?_, ?_, ?_⟩
                · rw [HX2.out]; simpa using cells_set (i := 1) hg9.out (.slice A1' (js.length + 1) c1')
                · rw [HX2.out]; exact OwnD.setOther hown9 KdA.mon hlt4 (by simp; omega) _
                · simp [World.setCell]; omega
                · exact (hb.trans (hb11.mono (by omega))).setCell (by simp) _
                · intro b h1 h2
                  exact (Below.heap_setCell _ _ _ _ (by simp; omega)).trans ((hb11.block b h2).trans (hkp b h1 h2))
              case measure => simp [intOf]; omega
            · have HX2 : Hid ((KK.take (k + 1)).flatMap (joinF F) = js) := by
                unfold Hid; rw [HX.out]; unfold joinF; rw [← empB_empty, he]; simp
              clear he
              go_wp2_with fail
              go_roundw
              case rel => exact ⟨k + 1, by omega, by go_num, Ak, ck, by rw [HX2.out]; exact hg8, by rw [HX2.out]; exact hown8, by omega, hb.trans (hb9.mono (by omega)), hkp8⟩
              case measure => simp [intOf]; omega)
        · obtain rfl : k = KK.length := by omega
          rw [List.take_of_length_le (Nat.le_refl _)] at hg hown hszk
          have hJe : joinT (n + 1) ca cb a b = .mk E (KK.flatMap (joinF F)) := by
            rw [HJ.out, ← HKKe.out]
          have hjl := joinF_lens F KK
          generalize KK.flatMap (joinF F) = JS at *
          have c0 : wr.cell? ⟨w1.heap.size, 0, none⟩ = some (.slice Ae E.length ce) := cell_cells (i := 0) hg
          have c1 : wr.cell? ⟨w1.heap.size, 1, none⟩ = some (.slice Ak JS.length ck) := cell_cells (i := 1) hg
          have hg2 := (HW.out wr (hb1'.out.trans (hb.mono (by omega)))).2.2.2.2
          have d0 : wr.cell? ⟨w.heap.size + 2, 0, none⟩ = some (.slice none 0 0) := cell_cells (i := 0) hg2
          have d1 : wr.cell? ⟨w.heap.size + 2, 1, none⟩ = some (.slice none 0 0) := cell_cells (i := 1) hg2
          have z0 := cells_frz (i := 0) hg2
          have z1 := cells_frz (i := 1) hg2
          go_wp2_with fail
          have hW0 := cells_set (i := 1) (cells_set (i := 0) hg2 (.slice Ae E.length ce)) (.slice Ak JS.length ck)
          have hKW : ∀ b, w.heap.size + 3 ≤ b → ((wr.setCell ⟨w.heap.size + 2, 0, none⟩ (.slice Ae E.length ce)).setCell ⟨w.heap.size + 2, 1, none⟩ (.slice Ak JS.length ck)).heap[b]? = wr.heap[b]? := fun b hb => (Below.heap_setCell _ _ _ _ (by simp; omega)).trans (Below.heap_setCell _ _ _ _ (by simp; omega))
          have hSW : ((wr.setCell ⟨w.heap.size + 2, 0, none⟩ (.slice Ae E.length ce)).setCell ⟨w.heap.size + 2, 1, none⟩ (.slice Ak JS.length ck)).heap.size = wr.heap.size := by simp [World.setCell]
          have hBW : Below w.heap.size w ((wr.setCell ⟨w.heap.size + 2, 0, none⟩ (.slice Ae E.length ce)).setCell ⟨w.heap.size + 2, 1, none⟩ (.slice Ak JS.length ck)) := (hB0.setCell (by simp) _).setCell (by simp) _
          clear c0 c1 d0 d1 z0 z1
          generalize ((wr.setCell ⟨w.heap.size + 2, 0, none⟩ (.slice Ae E.length ce)).setCell ⟨w.heap.size + 2, 1, none⟩ (.slice Ak JS.length ck)) = W at *
          have r0 : W.cell? ⟨w.heap.size + 2, 0, none⟩ = some (.slice Ae E.length ce) := (cell_cells (i := 0) hW0).trans (by simp)
          have r1 : W.cell? ⟨w.heap.size + 2, 1, none⟩ = some (.slice Ak JS.length ck) := (cell_cells (i := 1) hW0).trans (by simp)
          refine bodyPost_ret (v := .agg #[.slice Ae E.length ce, .slice Ak JS.length ck]) (by simp [results, Tryz.results127, go_sem, r0, r1]) rfl ⟨_, _, rfl, ?_, hBW⟩
          rw [hJe, rda_iff]
          refine ⟨(HO1.out.sla (by unfold Big; omega)).up (fun b hb' => (hKW b (by have := hb'.1; simp only [World.size_alloc] at this; omega)).trans (hb.block b hb'.2.1)) (fun b hb' => ⟨by have := hb'.1; simp only [World.size_alloc] at this; omega, by have := hb'.2.1; omega⟩) (fun _ _ _ h => h), (OwnP.sla hown (by unfold Big; omega)).up (fun b hb' => hKW b (by have := hb'.1; omega)) (fun b hb' => ⟨by have := hb'.1; omega, by have := hb'.2.1; omega⟩) ?_⟩
          intro x _ cs hx
          exact KdA.mon.up (fun b hb' => hKW b (by have := hb'.1; omega)) (fun b hb' => ⟨by have := hb'.1; omega, by have := hb'.2.1; omega⟩) hx
end Go.Proofs.YtkjijbogbelilaaGreat

namespace Go.Proofs.YtkjijbogbelilaaGreat
open Go.RowKit
set_option maxRecDepth 100000

theorem ltD_irrefl (a : Dt) : a.lt a = false := by unfold Dt.lt; simp
theorem ltD_tr {a b c : Dt} (h : a.lt b = true) (k : b.lt c = true) : a.lt c = true := by
  unfold Dt.lt at *; split at h <;> split at k <;> split <;> simp at * <;> omega
theorem ltD_ne {a b : Dt} (h : a.lt b = true) : a ≠ b := fun e => by rw [e, ltD_irrefl] at h; cases h
theorem grtE_dot {x y : En} (h : x.dot = y.dot) : (grtE x y).dot = x.dot := by unfold grtE; split <;> simp [h]
theorem stayL_mem {c : List Sp} {x e : En} : e ∈ stayL c x ↔ e = x ∧ cHas c x.dot = false := by
  unfold stayL; cases cHas c x.dot <;> simp
/-- One entry of two lists joined. -/
def EntJ (ca cb : List Sp) (a b : En → Prop) (e : En) : Prop :=
  (∃ x y, a x ∧ b y ∧ x.dot = y.dot ∧ e = grtE x y) ∨ (a e ∧ (∀ y, b y → y.dot ≠ e.dot) ∧ cHas cb e.dot = false) ∨ (b e ∧ (∀ x, a x → x.dot ≠ e.dot) ∧ cHas ca e.dot = false)
theorem entL_mem (ca cb : List Sp) : ∀ (n : Nat) (a b : List En), a.length + b.length ≤ n → (a.Pairwise fun x y => x.dot.lt y.dot = true) → (b.Pairwise fun x y => x.dot.lt y.dot = true) → ∀ e, e ∈ entL ca cb a b ↔ EntJ ca cb (· ∈ a) (· ∈ b) e
  | n, [], [], _, _, _, e => by rw [entL]; simp [EntJ]
  | 0, x :: a, _, h, _, _, _ => by simp at h
  | 0, [], y :: b, h, _, _, _ => by simp at h
  | n + 1, x :: a, [], h, ha, hb, e => by
    have h2 := entL_mem ca cb n a [] (by simp at h ⊢; omega) ha.of_cons hb e
    rw [entL, List.mem_append, stayL_mem, h2]
    unfold EntJ
    simp only [List.not_mem_nil, List.mem_cons]
    grind
  | n + 1, [], y :: b, h, ha, hb, e => by
    have h2 := entL_mem ca cb n [] b (by simp at h ⊢; omega) ha hb.of_cons e
    rw [entL, List.mem_append, stayL_mem, h2]
    unfold EntJ
    simp only [List.not_mem_nil, List.mem_cons]
    grind
  | n + 1, x :: a, y :: b, h, ha, hb, e => by
    have hxa := (List.pairwise_cons.1 ha).1
    have hyb := (List.pairwise_cons.1 hb).1
    rw [entL]
    cases h1 : x.dot.lt y.dot
    · cases h2 : y.dot.lt x.dot
      · have hxy := ltD_total h1 h2
        have h3 := entL_mem ca cb n a b (by simp at h ⊢; omega) ha.of_cons hb.of_cons e
        have n1 : ∀ z ∈ a, z.dot ≠ x.dot := fun z hz => (ltD_ne (hxa z hz)).symm
        have n2 : ∀ z ∈ b, z.dot ≠ y.dot := fun z hz => (ltD_ne (hyb z hz)).symm
        have hg := grtE_dot hxy
        rw [if_neg (by simp), if_neg (by simp), List.mem_cons, h3]
        unfold EntJ
        simp only [List.mem_cons]
        grind
      · have h3 := entL_mem ca cb n (x :: a) b (by simp at h ⊢; omega) ha hb.of_cons e
        have n1 : ∀ z ∈ a, z.dot ≠ y.dot := fun z hz => (ltD_ne (ltD_tr h2 (hxa z hz))).symm
        have n2 : ∀ z ∈ b, z.dot ≠ y.dot := fun z hz => (ltD_ne (hyb z hz)).symm
        have n3 : x.dot ≠ y.dot := (ltD_ne h2).symm
        rw [if_neg (by simp), if_pos rfl, List.mem_append, stayL_mem, h3]
        unfold EntJ
        simp only [List.mem_cons]
        grind
    · have h3 := entL_mem ca cb n a (y :: b) (by simp at h ⊢; omega) ha.of_cons hb e
      have n1 : ∀ z ∈ a, z.dot ≠ x.dot := fun z hz => (ltD_ne (hxa z hz)).symm
      have n2 : ∀ z ∈ b, z.dot ≠ x.dot := fun z hz => (ltD_ne (ltD_tr h1 (hyb z hz))).symm
      have n3 : x.dot ≠ y.dot := ltD_ne h1
      rw [if_pos rfl, List.mem_append, stayL_mem, h3]
      unfold EntJ
      simp only [List.mem_cons]
      grind
theorem EntJ.dot {ca cb : List Sp} {a b : En → Prop} {e : En} (h : EntJ ca cb a b e) : ∃ z, (a z ∨ b z) ∧ z.dot = e.dot := by
  rcases h with ⟨x, y, hx, hy, hd, rfl⟩ | ⟨hx, _, _⟩ | ⟨hx, _, _⟩
  · exact ⟨x, .inl hx, (grtE_dot hd).symm⟩
  · exact ⟨e, .inl hx, rfl⟩
  · exact ⟨e, .inr hx, rfl⟩
theorem EntJ.congr {ca cb : List Sp} {a b a' b' : En → Prop} (ha : ∀ e, a e ↔ a' e) (hb : ∀ e, b e ↔ b' e) (e : En) : EntJ ca cb a b e ↔ EntJ ca cb a' b' e := by
  have h1 : a = a' := funext fun e => propext (ha e)
  have h2 : b = b' := funext fun e => propext (hb e)
  rw [h1, h2]
theorem entL_ord (ca cb : List Sp) : ∀ (n : Nat) (a b : List En), a.length + b.length ≤ n → (a.Pairwise fun x y => x.dot.lt y.dot = true) → (b.Pairwise fun x y => x.dot.lt y.dot = true) → (entL ca cb a b).Pairwise fun x y => x.dot.lt y.dot = true
  | n, [], [], _, _, _ => by rw [entL]; exact .nil
  | 0, x :: a, _, h, _, _ => by simp at h
  | 0, [], y :: b, h, _, _ => by simp at h
  | n + 1, x :: a, [], h, ha, hb => by
    have h2 := entL_ord ca cb n a [] (by simp at h ⊢; omega) ha.of_cons hb
    have hm := entL_mem ca cb _ a [] (Nat.le_refl _) ha.of_cons hb
    have hxa := (List.pairwise_cons.1 ha).1
    rw [entL, List.pairwise_append]
    refine ⟨by unfold stayL; split <;> simp, h2, fun u hu v hv => ?_⟩
    obtain ⟨z, hz, hd⟩ := ((hm v).1 hv).dot
    rw [(stayL_mem.1 hu).1, ← hd]
    simp at hz
    exact hxa z hz
  | n + 1, [], y :: b, h, ha, hb => by
    have h2 := entL_ord ca cb n [] b (by simp at h ⊢; omega) ha hb.of_cons
    have hm := entL_mem ca cb _ [] b (Nat.le_refl _) ha hb.of_cons
    have hxa := (List.pairwise_cons.1 hb).1
    rw [entL, List.pairwise_append]
    refine ⟨by unfold stayL; split <;> simp, h2, fun u hu v hv => ?_⟩
    obtain ⟨z, hz, hd⟩ := ((hm v).1 hv).dot
    rw [(stayL_mem.1 hu).1, ← hd]
    simp at hz
    exact hxa z hz
  | n + 1, x :: a, y :: b, h, ha, hb => by
    have hxa := (List.pairwise_cons.1 ha).1
    have hyb := (List.pairwise_cons.1 hb).1
    rw [entL]
    cases h1 : x.dot.lt y.dot
    · cases h2 : y.dot.lt x.dot
      · have hxy := ltD_total h1 h2
        have h3 := entL_ord ca cb n a b (by simp at h ⊢; omega) ha.of_cons hb.of_cons
        have hm := entL_mem ca cb _ a b (Nat.le_refl _) ha.of_cons hb.of_cons
        rw [if_neg (by simp), if_neg (by simp), List.pairwise_cons]
        refine ⟨fun v hv => ?_, h3⟩
        obtain ⟨z, hz, hd⟩ := ((hm v).1 hv).dot
        rw [grtE_dot hxy, ← hd]
        rcases hz with hz | hz
        · exact hxa z hz
        · rw [hxy]; exact hyb z hz
      · have h3 := entL_ord ca cb n (x :: a) b (by simp at h ⊢; omega) ha hb.of_cons
        have hm := entL_mem ca cb _ (x :: a) b (Nat.le_refl _) ha hb.of_cons
        rw [if_neg (by simp), if_pos rfl, List.pairwise_append]
        refine ⟨by unfold stayL; split <;> simp, h3, fun u hu v hv => ?_⟩
        obtain ⟨z, hz, hd⟩ := ((hm v).1 hv).dot
        rw [(stayL_mem.1 hu).1, ← hd]
        rcases hz with hz | hz
        · rcases List.mem_cons.1 hz with rfl | hz
          · exact h2
          · exact ltD_tr h2 (hxa z hz)
        · exact hyb z hz
    · have h3 := entL_ord ca cb n a (y :: b) (by simp at h ⊢; omega) ha.of_cons hb
      have hm := entL_mem ca cb _ a (y :: b) (Nat.le_refl _) ha.of_cons hb
      rw [if_pos rfl, List.pairwise_append]
      refine ⟨by unfold stayL; split <;> simp, h3, fun u hu v hv => ?_⟩
      obtain ⟨z, hz, hd⟩ := ((hm v).1 hv).dot
      rw [(stayL_mem.1 hu).1, ← hd]
      rcases hz with hz | hz
      · exact hxa z hz
      · rcases List.mem_cons.1 hz with rfl | hz
        · exact h1
        · exact ltD_tr h1 (hyb z hz)
theorem joinF_mem {f : ByteArray → Tr} {l : List ByteArray} {k : ByteArray} {t : Tr} : (k, t) ∈ l.flatMap (joinF f) ↔ k ∈ l ∧ (f k).empty = false ∧ t = f k := by
  rw [List.mem_flatMap]
  constructor
  · rintro ⟨q, hq, h⟩
    unfold joinF at h
    split at h
    · cases h
    · rename_i hn
      simp at h
      obtain ⟨rfl, rfl⟩ := h
      exact ⟨hq, by simpa using hn, rfl⟩
  · rintro ⟨hk, he, rfl⟩
    exact ⟨k, hk, by unfold joinF; rw [he]; simp⟩
theorem joinF_pair {f : ByteArray → Tr} : ∀ {l : List ByteArray}, (l.Pairwise fun a b => ltS a b = true) → (l.flatMap (joinF f)).Pairwise fun a b => ltS a.1 b.1 = true
  | [], _ => .nil
  | k :: l, h => by
    obtain ⟨h1, h2⟩ := List.pairwise_cons.1 h
    rw [List.flatMap_cons, List.pairwise_append]
    refine ⟨by unfold joinF; split <;> simp, joinF_pair h2, fun u hu v hv => ?_⟩
    have hu1 : u.1 = k := by unfold joinF at hu; split at hu <;> simp at hu; rw [hu]
    rw [hu1]
    obtain ⟨v1, v2⟩ := v
    exact h1 v1 (joinF_mem.1 hv).1
theorem joinK_spec (a b : Tr) : ((joinK a b).Pairwise fun x y => ltS x y = true) ∧ ∀ k, k ∈ joinK a b ↔ ∃ t, (k, t) ∈ a.ks ∨ (k, t) ∈ b.ks := by
  unfold joinK
  rw [sd_eq]
  obtain ⟨h1, h2⟩ := sdL_spec ((a.ks ++ b.ks).map (·.1))
  refine ⟨h1, fun k => (h2 k).trans ?_⟩
  rw [List.mem_map]
  constructor
  · rintro ⟨⟨q, t⟩, hm, rfl⟩; exact ⟨t, List.mem_append.1 hm⟩
  · rintro ⟨t, hm⟩; exact ⟨(k, t), List.mem_append.2 hm, rfl⟩
theorem lvs_key {t : Tr} {k : ByteArray} {qs : List ByteArray} {e : En} (h : ((k :: qs, e) : Lf) ∈ t.lvs []) : ∃ u, (k, u) ∈ t.ks := by
  obtain ⟨es, ks⟩ := t
  obtain ⟨u, hu, _⟩ := mem_cons'.1 h
  exact ⟨u, hu⟩
theorem lvs_full {t : Tr} {x : Lf} (h : x ∈ t.lvs []) : t.empty = false := by
  obtain ⟨es, ks⟩ := t
  cases he : (Tr.mk es ks).empty
  · rfl
  · simp [Tr.empty] at he
    obtain ⟨rfl, rfl⟩ := he
    simp [Tr.lvs, Tr.lvsL] at h
theorem mem_es {t : Tr} {e : En} : (([], e) : Lf) ∈ t.lvs [] ↔ e ∈ t.es := by obtain ⟨es, ks⟩ := t; exact mem_nil
theorem joinT_spec (ca cb : List Sp) : ∀ (n : Nat) (a b : Tr), a.Ord → b.Ord → a.dep ≤ n → b.dep ≤ n → (joinT n ca cb a b).Ord ∧ ∀ p e, ((p, e) : Lf) ∈ (joinT n ca cb a b).lvs [] ↔ EntJ ca cb (fun x => ((p, x) : Lf) ∈ a.lvs []) (fun y => ((p, y) : Lf) ∈ b.lvs []) e := by
  intro n
  induction n with
  | zero => intro a b _ _ h _; have := dep_pos a; omega
  | succ n ih =>
  intro a b ha hb hda hdb
  have hih : ∀ k ∈ joinK a b, _ := fun k hk => ih (kidT a k) (kidT b k) (kidT_ord ha k) (kidT_ord hb k) (kidT_dep ha hda (joinK_dep hda hdb hk) k) (kidT_dep hb hdb (joinK_dep hda hdb hk) k)
  obtain ⟨hk1, hk2⟩ := joinK_spec a b
  have hsa : a.es.Pairwise fun x y => x.dot.lt y.dot = true := by obtain ⟨es, ks⟩ := a; exact (ord_iff.1 ha).1
  have hsb : b.es.Pairwise fun x y => x.dot.lt y.dot = true := by obtain ⟨es, ks⟩ := b; exact (ord_iff.1 hb).1
  rw [joinT]
  refine ⟨Ord.mk' (entL_ord ca cb _ _ _ (Nat.le_refl _) hsa hsb) (joinF_pair hk1) fun k t hm => ?_, ?_⟩
  · obtain ⟨hk, he, rfl⟩ := joinF_mem.1 hm
    refine ⟨?_, he, (hih k hk).1⟩
    obtain ⟨u, h | h⟩ := (hk2 k).1 hk
    · obtain ⟨es, ks⟩ := a; exact ((ord_iff.1 ha).2.2 k u h).1
    · obtain ⟨es, ks⟩ := b; exact ((ord_iff.1 hb).2.2 k u h).1
  · intro p e
    match p with
    | [] =>
      rw [mem_nil, entL_mem ca cb _ _ _ (Nat.le_refl _) hsa hsb]
      exact EntJ.congr (fun x => mem_es.symm) (fun x => mem_es.symm) e
    | k :: qs =>
      rw [mem_cons']
      have hc : EntJ ca cb (fun x => ((k :: qs, x) : Lf) ∈ a.lvs []) (fun y => ((k :: qs, y) : Lf) ∈ b.lvs []) e ↔ EntJ ca cb (fun x => ((qs, x) : Lf) ∈ (kidT a k).lvs []) (fun y => ((qs, y) : Lf) ∈ (kidT b k).lvs []) e := EntJ.congr (fun x => (mem_kidT ha).symm) (fun x => (mem_kidT hb).symm) e
      constructor
      · rintro ⟨t, hm, hx⟩
        obtain ⟨hk, he, rfl⟩ := joinF_mem.1 hm
        exact hc.2 (((hih k hk).2 qs e).1 hx)
      · intro hx
        have hk : k ∈ joinK a b := by
          obtain ⟨z, hz, _⟩ := hx.dot
          rcases hz with hz | hz
          · obtain ⟨u, hu⟩ := lvs_key hz; exact (hk2 k).2 ⟨u, .inl hu⟩
          · obtain ⟨u, hu⟩ := lvs_key hz; exact (hk2 k).2 ⟨u, .inr hu⟩
        have hy := ((hih k hk).2 qs e).2 (hc.1 hx)
        exact ⟨_, joinF_mem.2 ⟨hk, lvs_full hy, rfl⟩, hy⟩
end Go.Proofs.YtkjijbogbelilaaGreat

namespace Go.Proofs.YtkjijbogbelilaaGreat
open Go.RowKit
set_option maxRecDepth 100000

/-- Are two leaves of one dot, at one place? -/
def placeB (a b : Lf) : Bool := decide (a.2.dot = b.2.dot) && decide (a.1 = b.1)
def findL (l : List Lf) (x : Lf) : Option Lf := l.find? fun y => placeB y x
def gtE (y x : En) : Bool := decide (x.v < y.v) || (decide (y.v = x.v) && ltS x.s y.s)
def outP (q : List Lf) (cb : List Sp) (x : Lf) : List Lf := match findL q x with | some y => if gtE y.2 x.2 then [y] else [x] | none => if hasC cb x.2.dot then [] else [x]
def outQ (p : List Lf) (ca : List Sp) (y : Lf) : List Lf := match findL p y with | some _ => [] | none => if hasC ca y.2.dot then [] else [y]
/-- The leaves that the reference's Join builds its tree of. -/
def r9L (p q : List Lf) (ca cb : List Sp) : List Lf := p.flatMap (outP q cb) ++ q.flatMap (outQ p ca)
theorem grtE_gt (x y : En) : grtE x y = if gtE y x then y else x := by
  unfold grtE gtE
  rcases Int.lt_trichotomy x.v y.v with h | h | h
  · have e1 : cmpI x.v y.v = -1 := if_pos h
    rw [e1]; simp [orI, h]
  · have e1 : cmpI x.v y.v = 0 := by unfold cmpI; rw [if_neg (by omega), if_neg (by omega)]
    rw [e1]
    unfold orI cmpS
    cases h1 : ltS x.s y.s
    · cases h2 : ltS y.s x.s <;> simp [h]
    · simp [h]
  · have e1 : cmpI x.v y.v = 1 := by unfold cmpI; rw [if_neg (by omega), if_pos h]
    rw [e1]
    have h1 : ¬ x.v < y.v := by omega
    have h3 : ¬ y.v = x.v := by omega
    simp [orI, h1, h3]
theorem cHas_hasC {c : List Sp} (h : apartB c = true) (d : Dt) : cHas c d = hasC c d := by
  unfold cHas hasC sHas
  rw [h, Bool.true_and]
  cases hd : d.right
  · rfl
  · have hdc : 0 ≤ d.dc ∧ d.dc < 4 := by unfold Dt.right at hd; simp at hd; omega
    obtain ⟨i, hi⟩ : ∃ i : Nat, (i : Int) = d.dc := ⟨d.dc.toNat, by omega⟩
    have := apart_part h (i := i) (by omega)
    rw [hi] at this
    rw [this]; rfl
theorem findL_some {l : List Lf} {x y : Lf} (h : findL l x = some y) : y ∈ l ∧ y.2.dot = x.2.dot ∧ y.1 = x.1 := by
  have h1 := List.mem_of_find?_eq_some h
  have h2 := List.find?_some h
  unfold placeB at h2
  simp at h2
  exact ⟨h1, h2⟩
theorem findL_none {l : List Lf} {x : Lf} (h : findL l x = none) : ∀ y ∈ l, y.1 = x.1 → y.2.dot ≠ x.2.dot := by
  intro y hy h1 h2
  have := List.find?_eq_none.1 h y hy
  unfold placeB at this
  simp [h1, h2] at this
theorem r9L_mem {a b : Tr} (ha : a.Ord) (hb : b.Ord) {ca cb : List Sp} (hca : apartB ca = true) (hcb : apartB cb = true) (p : List ByteArray) (e : En) :
    ((p, e) : Lf) ∈ r9L (a.lvs []) (b.lvs []) ca cb ↔ EntJ ca cb (fun x => ((p, x) : Lf) ∈ a.lvs []) (fun y => ((p, y) : Lf) ∈ b.lvs []) e := by
  have h1 := (ord_lvOk a ha).one
  have h2 := (ord_lvOk b hb).one
  unfold r9L EntJ
  rw [List.mem_append, List.mem_flatMap, List.mem_flatMap, cHas_hasC hca, cHas_hasC hcb]
  constructor
  · rintro (⟨⟨p', x⟩, hx, h⟩ | ⟨⟨p', y⟩, hy, h⟩)
    · unfold outP at h
      cases hf : findL (b.lvs []) (p', x) with
      | none =>
        have hn := findL_none hf
        rw [hf] at h
        simp only at h
        split at h
        · cases h
        · rename_i hh
          simp at h
          obtain ⟨rfl, rfl⟩ := h
          exact .inr (.inl ⟨hx, fun y hy => hn (p, y) hy rfl, by simpa using hh⟩)
      | some y =>
        obtain ⟨q, y⟩ := y
        obtain ⟨hy, hd, hp⟩ := findL_some hf
        simp only at hd hp
        subst hp
        rw [hf] at h
        simp only at h
        refine .inl ⟨x, y, ?_, ?_, hd.symm, ?_⟩
        · split at h <;> simp at h <;> obtain ⟨rfl, rfl⟩ := h <;> exact hx
        · split at h <;> simp at h <;> obtain ⟨rfl, rfl⟩ := h <;> exact hy
        · rw [grtE_gt]; split at h <;> simp at h <;> simp [*]
    · unfold outQ at h
      cases hf : findL (a.lvs []) (p', y) with
      | some x => rw [hf] at h; cases h
      | none =>
        have hn := findL_none hf
        rw [hf] at h
        simp only at h
        split at h
        · cases h
        · rename_i hh
          simp at h
          obtain ⟨rfl, rfl⟩ := h
          exact .inr (.inr ⟨hy, fun x hx => hn (p, x) hx rfl, by simpa using hh⟩)
  · rintro (⟨x, y, hx, hy, hd, rfl⟩ | ⟨hx, hn, hh⟩ | ⟨hy, hn, hh⟩)
    · refine .inl ⟨(p, x), hx, ?_⟩
      unfold outP
      cases hf : findL (b.lvs []) (p, x) with
      | none => exact absurd hd.symm (findL_none hf (p, y) hy rfl)
      | some z =>
        obtain ⟨hz, hd', hp⟩ := findL_some hf
        have := h2 z hz (p, y) hy hp (hd'.trans hd)
        subst this
        simp only
        rw [grtE_gt]
        cases gtE y x <;> simp
    · refine .inl ⟨(p, e), hx, ?_⟩
      unfold outP
      cases hf : findL (b.lvs []) (p, e) with
      | none => simp [hh]
      | some z =>
        obtain ⟨q, z⟩ := z
        obtain ⟨hz, hd', hp⟩ := findL_some hf
        simp only at hp hd'
        subst hp
        exact absurd hd' (hn z hz)
    · refine .inr ⟨(p, e), hy, ?_⟩
      unfold outQ
      cases hf : findL (a.lvs []) (p, e) with
      | none => simp [hh]
      | some z =>
        obtain ⟨q, z⟩ := z
        obtain ⟨hz, hd', hp⟩ := findL_some hf
        simp only at hp hd'
        subst hp
        exact absurd hd' (hn z hz)
theorem r9L_build {a b : Tr} (ha : a.Ord) (hb : b.Ord) {ca cb : List Sp} (hca : apartB ca = true) (hcb : apartB cb = true) {n : Nat} (hda : a.dep ≤ n) (hdb : b.dep ≤ n) :
    buildL (r9L (a.lvs []) (b.lvs []) ca cb) = joinT n ca cb a b := by
  obtain ⟨h1, h2⟩ := joinT_spec ca cb n a b ha hb hda hdb
  have he : ∀ x, x ∈ r9L (a.lvs []) (b.lvs []) ca cb ↔ x ∈ (joinT n ca cb a b).lvs [] := fun ⟨p, e⟩ => (r9L_mem ha hb hca hcb p e).trans (h2 p e).symm
  have h3 := ord_lvOk _ h1
  exact build_of h1 ⟨fun x hx => h3.key x ((he x).1 hx), fun x hx y hy => h3.one x ((he x).1 hx) y ((he y).1 hy)⟩ he
theorem outP_len (q : List Lf) (cb : List Sp) (x : Lf) : (outP q cb x).length ≤ 1 := by
  unfold outP; split <;> split <;> simp
theorem outQ_len (q : List Lf) (cb : List Sp) (x : Lf) : (outQ q cb x).length ≤ 1 := by
  unfold outQ; split <;> (try split) <;> simp
end Go.Proofs.YtkjijbogbelilaaGreat

namespace Go.Proofs.YtkjijbogbelilaaGreat
open Go.RowKit Go.Sort
set_option maxRecDepth 100000

def cmpR (x y : Int × Int) : Int := cmpI x.1 y.1
theorem cmpR_lt (x y : Int × Int) : ltOf cmpR x y = decide (x.1 < y.1) := cmpLo_lt x.1 y.1
theorem swoR : SWO (ltOf cmpR) where
  irrefl x := by rw [cmpR_lt]; simp
  trans x y z h1 h2 := by rw [cmpR_lt] at *; simp at *; omega
  ntrans x y z h1 h2 := by rw [cmpR_lt] at *; simp at *; omega
theorem unionClo_any (x y : Int × Int) (W : World) : Calls Tryz.prog 192 #[.agg #[.int .i64 x.1, .int .i64 x.2], .agg #[.int .i64 y.1, .int .i64 y.2]] W fun e w' => e = .returned (.int .i64 (cmpR x y)) ∧ ∃ q os', w' = grow (W.drewN q) os' := by
  go_enter Tryz.func192, Tryz.ntmps192
  go_wp2_with (go_at_call 176; refine (cmp64_any _ _ _).mono ?_; rintro e w' ⟨rfl, rfl⟩)
  go_ret
  exact ⟨rfl, 0, _, by rw [alloc_eq_grow, alloc_eq_grow, grow_grow]; rfl⟩

theorem runsOk_of {l : List (Int × Int)} (h : ∀ r ∈ l, runOk r) : RunsOk l := fun r hr => by
  have := h r hr; unfold runOk at this; omega
theorem runs_ok' : ∀ (l : List (Int × Int)) (p : Option Int), runsR p l = true → ∀ r ∈ l, runOk r
  | x :: l, p, h, r, hr => by
    rw [runsR_iff] at h
    rcases List.mem_cons.1 hr with rfl | hr
    · exact h.1
    · exact runs_ok' l _ h.2.2 r hr
/-- Runs of both, sorted and joined: the reference's union. -/
theorem join_union {a b ts : List (Int × Int)} (ha : runsR none a = true) (hb : runsR none b = true) (hp : ts.Perm (a ++ b)) (hs : ts.Pairwise fun x y => x.1 ≤ y.1) : joinL ts = byL a b 0 := by
  have oa := runs_ok' a none ha
  have ob := runs_ok' b none hb
  have ot : ∀ r ∈ ts, runOk r := fun r hr => by
    rcases List.mem_append.1 (hp.subset hr) with h | h
    · exact oa r h
    · exact ob r h
  obtain ⟨a1, a2⟩ := joinL_right ot hs
  obtain ⟨b1, b2⟩ := byL_right 0 oa ob
  refine runs_eq _ _ none none a1 b1 fun n => ?_
  rw [a2, b2]
  have : hasL ts n = hasL (a ++ b) n := by
    unfold hasL
    rw [Bool.eq_iff_iff, List.any_eq_true, List.any_eq_true]
    exact ⟨fun ⟨r, h1, h2⟩ => ⟨r, hp.subset h1, h2⟩, fun ⟨r, h1, h2⟩ => ⟨r, hp.symm.subset h1, h2⟩⟩
  rw [this, hasL_app]
  simp [inn]

theorem sboth_any (a b : List (Int × Int)) (va vb : Value) (w : World) (ha : SlP w w.heap.size 2 RuE va a) (hb : SlP w w.heap.size 2 RuE vb b) :
    Calls Tryz.prog 190 #[va, vb] w fun e w' => e = .returned (.bool (runsR none a && runsR none b)) ∧ Below w.heap.size w w' := by
  have HB := hid hb
  go_enter Tryz.func190, Tryz.ntmps190
  go_wp2_with fail
  refine (sright_any a va w ha).mono ?_
  rintro e w1 ⟨rfl, hb1⟩
  have hs1 := hb1.size
  cases hr : runsR none a
  · have HR := hid hr
    clear hr
    go_wp2_with fail
    go_ret
    exact ⟨ret_bool (by rw [HR.out]; rfl), hb1⟩
  · have HR := hid hr
    clear hr
    go_wp2_with fail
    refine (sright_any b vb w1 (HB.out.imp hb1 hs1 fun _ _ _ h => h)).mono ?_
    rintro e w2 ⟨rfl, hb2⟩
    go_wp2_with fail
    go_ret
    exact ⟨ret_bool (by rw [HR.out]; rfl), hb1.trans (hb2.mono hs1)⟩

set_option maxHeartbeats 2000000 in
theorem sunion_any (a b : List (Int × Int)) (va vb : Value) (w : World) (ha : SlP w w.heap.size 2 RuE va a) (hb : SlP w w.heap.size 2 RuE vb b) (hra : runsR none a = true) (hrb : runsR none b = true) (hN : a.length ≤ 300000) (hN' : b.length ≤ 300000) :
    Calls Tryz.prog 161 #[va, vb] w (RetO w 170 2 (fun _ => RuE) (byL a b 0)) := by
  have HA := hid ha
  have HB := hid hb
  have HRA := hid hra
  have HRB := hid hrb
  have hor : RunsOk (a ++ b) := runsOk_of fun r hr => by
    rcases List.mem_append.1 hr with h | h
    · exact runs_ok' a none hra r h
    · exact runs_ok' b none hrb r h
  have HOR := hid hor
  obtain ⟨A1, c1, rfl, _⟩ := ha
  obtain ⟨A2, c2, rfl, _⟩ := hb
  clear hra hrb hor
  go_enter Tryz.func161, Tryz.ntmps161
  go_wp2_with fail
  refine (sboth_any a b _ _ w HA.out HB.out).mono ?_
  rw [HRA.out, HRB.out]
  rintro e w1 ⟨rfl, hb1⟩
  have hs1 := hb1.size
  go_wp2_with fail
  refine (concat_any a b (.slice A1 a.length c1) (.slice A2 b.length c2) w1.heap.size _ (by simp) (by simp) (by simp) (HA.out.imp (hb1.alloc hs1 _) (by simp; omega) fun _ _ _ h => h) (HB.out.imp (hb1.alloc hs1 _) (by simp; omega) fun _ _ _ h => h) hN hN').mono ?_
  rintro e w2 ⟨v2, rfl, ho2, hb2⟩
  have hs2 := hb2.size
  simp only [World.size_alloc] at hs2
  have hB2 : Below w.heap.size w w2 := (hb1.alloc hs1 _).trans (hb2.mono (by simp; omega))
  have ho2' : OwnP w2 (w1.heap.size + 1) 170 2 RuE v2 ((a ++ b).map id) := by rw [List.map_id]; exact ho2.mono (by simp)
  go_wp2_with fail
  refine (sortRun_any id cmpR swoR 192 (enters_of Tryz.func192 (by kernel_rfl) rfl) (fun x y W => unionClo_any x y W) (a ++ b) v2 w2 _ ho2' (by simp; omega) hs2).mono ?_
  rintro e w3 ⟨rfl, ts, hp, hs, ho3, hb3⟩
  rw [List.map_id] at ho3
  have hs3 := hb3.size
  have hJ := join_union HRA.out HRB.out hp (hs.imp fun h => (cmpI_nonneg _ _).1 h)
  have HJ := hid hJ
  have hlen : ts.length = a.length + b.length := by rw [hp.length_eq, List.length_append]
  have hsl := ho3.sl (by rw [hlen]; unfold Big; omega)
  have HSL := hid hsl
  have HTR : Hid (RunsOk ts) := fun r hr => HOR.out r (hp.subset hr)
  have hl3 : ts.length ≤ 900000 := by omega
  clear hp hs ho3 hJ hsl ho2 ho2' hlen
  go_wp2_with fail
  refine (sjoined_any ts _ w3 HSL.out hl3 HTR.out).mono ?_
  rintro e w4 ⟨v4, rfl, ho4, hb4⟩
  rw [HJ.out] at ho4
  go_wp2_with fail
  go_ret
  exact ⟨_, rfl, ho4.mono (by omega), (hB2.trans (hb3.mono (by omega))).trans (hb4.mono (by omega))⟩
end Go.Proofs.YtkjijbogbelilaaGreat

namespace Go.Proofs.YtkjijbogbelilaaGreat
open Go.RowKit
set_option maxRecDepth 100000

/-- A rule on sets: it hands back the reference's set. -/
def RuleRun (g : Nat) (how : Int) : Prop :=
  (∀ args W, (callFunc g args).run Tryz.prog W = .ok (.enter g args) W) ∧
  ∀ (a b : List (Int × Int)) (va vb : Value) (W : World), SlP W W.heap.size 2 RuE va a → SlP W W.heap.size 2 RuE vb b → runsR none a = true → runsR none b = true → a.length ≤ 100000 → b.length ≤ 100000 →
    Calls Tryz.prog g #[va, vb] W (RetO W 170 2 (fun _ => RuE) (byL a b how))

/-- The state of the loop: array p0 holds what was made of the first k centers, and the rest of the first context. -/
def ByA (a b : List Sp) (how : Int) (vs us : Nat → Value) (w1 w2 : World) (k : Nat) (wr : World) : Prop :=
  ∃ ps : Nat → Value, wr.heap[w1.heap.size]? = some (.cells #[ps 0, ps 1, ps 2, ps 3] 141 (0, 0)) ∧ wr.heap[w2.heap.size]? = some (.cells #[us 0, us 1, us 2, us 3] 141 (0, 0)) ∧
    (∀ j, j < k → OwnP wr (w2.heap.size + 1) 170 2 RuE (ps j) (byL (partL a (j : Int)) (partL b (j : Int)) how)) ∧ (∀ j, k ≤ j → ps j = vs j) ∧ (∀ blk, w1.heap.size < blk → blk < w2.heap.size → wr.heap[blk]? = w2.heap[blk]?) ∧ Below w1.heap.size w1 wr

set_option maxHeartbeats 4000000 in
theorem cby_any (a b : List Sp) (how : Int) (g : Nat) (hf : RuleRun g how) (va vb : Value) (w : World) (ha : SlP w w.heap.size 3 SpE va a) (hb : SlP w w.heap.size 3 SpE vb b) (hra : apartB a = true) (hrb : apartB b = true) (hN : a.length ≤ 20000) (hN' : b.length ≤ 20000) :
    Calls Tryz.prog 160 #[va, vb, .func (.func g) #[] #[]] w (RetO w 55 3 (fun _ => SpE) (ctxBy a b how)) := by
  obtain ⟨eg, hf⟩ := hf
  have HA := hid ha
  have HB := hid hb
  obtain ⟨A1, c1, rfl, _⟩ := ha
  obtain ⟨A2, c2, rfl, _⟩ := hb
  go_enter Tryz.func160, Tryz.ntmps160
  go_wp2_with fail
  refine (apart_any a _ w HA.out (by omega)).mono ?_
  rintro e w1 ⟨vs, rfl, hsl, hb1⟩
  have hs1 := hb1.size
  rw [hra]
  simp only [hra, if_true] at hsl
  obtain ⟨B0, m0, g0, _⟩ := hsl 0 (by omega)
  obtain ⟨B1, m1, g1, _⟩ := hsl 1 (by omega)
  obtain ⟨B2, m2, g2, _⟩ := hsl 2 (by omega)
  obtain ⟨B3, m3, g3, _⟩ := hsl 3 (by omega)
  have HVS := hid (fun i (hi : i < 4) => (hsl i hi).slp (fun b hb => hb.2) (Below.refl _ w1))
  have G0 := hid g0
  have G1 := hid g1
  have G2 := hid g2
  have G3 := hid g3
  simp only [g0, g1, g2, g3]
  clear hsl g0 g1 g2 g3
  go_wp2_with fail
  refine (apart_any b _ _ (HB.out.imp (hb1.alloc hs1 _) (by simp; omega) fun _ _ _ h => h) (by omega)).mono ?_
  rintro e w2 ⟨us, rfl, hsl, hb2⟩
  have hs2 := hb2.size
  simp only [World.size_alloc] at hs2
  rw [hrb]
  simp only [hrb, if_true] at hsl
  obtain ⟨D0, n0, k0, _⟩ := hsl 0 (by omega)
  obtain ⟨D1, n1, k1, _⟩ := hsl 1 (by omega)
  obtain ⟨D2, n2, k2, _⟩ := hsl 2 (by omega)
  obtain ⟨D3, n3, k3, _⟩ := hsl 3 (by omega)
  have HUS := hid hsl
  have K0 := hid k0
  have K1 := hid k1
  have K2 := hid k2
  have K3 := hid k3
  simp only [k0, k1, k2, k3]
  clear hsl k0 k1 k2 k3
  have hp2 := hid ((hb2.block w1.heap.size (by simp)).trans (heap_new rfl))
  have hB2 : Below w1.heap.size w1 w2 := ((Below.refl _ w1).alloc (Nat.le_refl _) _).trans (hb2.mono (by simp))
  go_wp2_with fail
  go_loopw [28] (fun i wr => ∃ k : Nat, k ≤ 4 ∧ i = .int .i64 k ∧ ByA a b how vs us w1 w2 k wr) (fun i _ => 4 - (intOf i).toNat)
  case atStart =>
    refine ⟨0, by omega, rfl, vs, ?_, ?_, fun j hj => absurd hj (Nat.not_lt_zero _), fun _ _ => rfl, fun blk _ hb => heap_old hb, hB2.alloc (by omega) _⟩
    · rw [heap_old (by omega), G0.out, G1.out, G2.out, G3.out]; exact hp2.out
    · rw [heap_new rfl, K0.out, K1.out, K2.out, K3.out]; rfl
  case round =>
    obtain ⟨k, hk, rfl, ps, hpa, hqa, hpo, hpv, hkp, hbr⟩ := hrel
    have hsz := hbr.size
    have hp3 : w1.heap.size < wr.heap.size := (Array.getElem?_eq_some_iff.1 hpa).1
    have hq3 : w2.heap.size < wr.heap.size := (Array.getElem?_eq_some_iff.1 hqa).1
    by_cases hk4 : k < 4
    · have hki : (k : Int) < 4 := by omega
      have hla := partL_len a k
      have hlb := partL_len b k
      have hq2 : w2.heap.size + 1 ≤ wr.heap.size := by omega
      have HSA : Hid (SlP wr.drew wr.drew.heap.size 2 RuE (vs k) (partL a k)) := (HVS.out k hk4).imp hbr.drew hsz fun _ _ _ h => h
      have HSB : Hid (SlP wr.drew wr.drew.heap.size 2 RuE (us k) (partL b k)) := SlP_iff.2 ((HUS.out k hk4).up (w' := wr.drew) (fun blk hb => hkp blk (by have := hb.1; simp only [World.size_alloc] at this; omega) hb.2) (fun blk hb => by have := hb.2; show blk < wr.heap.size; omega) (fun _ _ _ h => h))
      have hcall := hf (partL a k) (partL b k) (vs k) (us k) wr.drew HSA.out HSB.out (apart_part hra hk4) (apart_part hrb hk4) (by omega) (by omega)
      have hpc : wr.cell? ⟨w1.heap.size, k, none⟩ = some (vs k) := by rw [cell_cells hpa, four_get ps hk4, hpv k (Nat.le_refl _)]
      have hqc : wr.cell? ⟨w2.heap.size, k, none⟩ = some (us k) := (cell_cells hqa).trans (four_get us hk4)
      have HPA := hid hpa
      have HQA := hid hqa
      have HPO := hid hpo
      have HPV := hid hpv
      have HKP := hid hkp
      have HCALL := hid hcall
      clear hpa hqa hpo hpv hkp hf hcall
      go_wp2_with fail
      refine wp_region_pop_n (S := fun w' => w'.cell? ⟨w1.heap.size, k, none⟩ = some (vs k) ∧ w'.cell? ⟨w2.heap.size, k, none⟩ = some (us k)) 10 (by kernel_rfl) (by kernel_rfl) ?_
      simp only [List.take_succ_cons, List.take_zero, List.drop_succ_cons, List.drop_zero]
      have hHeld : (fun w' : World => w'.cell? ⟨w1.heap.size, k, none⟩ = some (vs k) ∧ w'.cell? ⟨w2.heap.size, k, none⟩ = some (us k)) wr.drew := by go_keep
      refine wpAnyH_take (i := 0) (oi := _) (v := ?v0) rfl (by kernel_rfl) (by kernel_rfl) (by kernel_rfl) (fun _ _ _ h => h) (Or.inl ⟨by rfl, ?h0⟩) (by assumption) ?_
      case h0 => (intro w hSw; (try dsimp only at hSw); go_simp; (try with_reducible rfl))
      simp only [Act.put, List.setIfInBounds_toArray]
      refine wpAnyH_take (i := 1) (oi := _) (v := ?v1) rfl (by kernel_rfl) (by kernel_rfl) (by kernel_rfl) (fun _ _ _ h => h) (Or.inl ⟨by rfl, ?h1⟩) (by assumption) ?_
      case h1 => (intro w hSw; (try dsimp only at hSw); go_simp; (try with_reducible rfl))
      simp only [Act.put, List.setIfInBounds_toArray]
      refine wpAnyH_take (i := 2) (oi := _) (v := ?v2) rfl (by kernel_rfl) (by kernel_rfl) (by kernel_rfl) (fun _ _ _ h => h) (Or.inl ⟨by rfl, ?h2⟩) (by assumption) ?_
      case h2 => (intro w hSw; (try dsimp only at hSw); go_simp; (try with_reducible rfl))
      simp only [Act.put, List.setIfInBounds_toArray]
      refine wpAnyH_take (i := 3) (oi := _) (v := ?v3) rfl (by kernel_rfl) (by kernel_rfl) (by kernel_rfl) (fun _ _ _ h => h) (Or.inl ⟨by rfl, ?h3⟩) (by assumption) ?_
      case h3 => (intro w hSw; (try dsimp only at hSw); go_simp; (try with_reducible rfl))
      simp only [Act.put, List.setIfInBounds_toArray]
      refine wpAnyH_take (i := 4) (oi := _) (v := ?v4) rfl (by kernel_rfl) (by kernel_rfl) (by kernel_rfl) (fun _ _ _ h => h) (Or.inl ⟨by rfl, ?h4⟩) (by assumption) ?_
      case h4 => (intro w hSw; (try dsimp only at hSw); go_simp; (try with_reducible rfl))
      simp only [Act.put, List.setIfInBounds_toArray]
      refine wpAnyH_take (i := 5) (oi := _) (v := ?v5) rfl (by kernel_rfl) (by kernel_rfl) (by kernel_rfl) (fun _ _ _ h => h) (Or.inl ⟨by rfl, ?h5⟩) (by assumption) ?_
      case h5 => (intro w hSw; (try dsimp only at hSw); go_simp; (try with_reducible rfl))
      simp only [Act.put, List.setIfInBounds_toArray]
      refine wpAnyH_take (i := 6) (oi := _) (v := ?v6) rfl (by kernel_rfl) (by kernel_rfl) (by kernel_rfl) (fun _ _ _ h => h) (Or.inl ⟨by rfl, ?h6⟩) (by assumption) ?_
      case h6 => (intro w hSw; (try dsimp only at hSw); go_simp; (try with_reducible rfl))
      simp only [Act.put, List.setIfInBounds_toArray]
      refine wpAnyH_take (i := 7) (oi := _) (v := ?v7) rfl (by kernel_rfl) (by kernel_rfl) (by kernel_rfl) (fun _ _ _ h => h) (Or.inl ⟨by rfl, ?h7⟩) (by assumption) ?_
      case h7 => (intro w hSw; (try dsimp only at hSw); go_simp; (try with_reducible rfl))
      simp only [Act.put, List.setIfInBounds_toArray]
      refine wpAnyH_ready (rs := [8]) (by kernel_rfl) (by simp) ?_
      refine AllReadyH.cons (o := _) rfl (fun K hK => ?_) AllReadyH.nil
      go_simp
      refine HCALL.out.mono ?_
      rintro e w3 ⟨v3, rfl, ho3, hb3⟩
      obtain ⟨A3, c3, rfl⟩ := ho3.shape
      have hb3' : Below wr.heap.size wr w3 := (Below.refl _ wr).drew.trans hb3
      have hp4 := (hb3'.block w1.heap.size hp3).trans HPA.out
      have hq4 := (hb3'.block w2.heap.size hq3).trans HQA.out
      have hpc3 : w3.cell? ⟨w1.heap.size, k, none⟩ = some (vs k) := by rw [cell_cells hp4, four_get ps hk4, HPV.out k (Nat.le_refl _)]
      have hqc3 : w3.cell? ⟨w2.heap.size, k, none⟩ = some (us k) := (cell_cells hq4).trans (four_get us hk4)
      have hf3 : w3.frozen? ⟨w1.heap.size, k, none⟩ = false := cells_frz hp4
      have HP4 := hid hp4
      have HQ4 := hid hq4
      have HO3 := hid ho3
      have HB3 := hid hb3'
      clear hp4 hq4 ho3 hb3 hb3'
      dsimp only
      refine hK.out _ _ ⟨hpc3, hqc3⟩ (fun hHeld8 => ?_)
      clear hK K
      simp only [List.setIfInBounds_toArray]
      refine wpAnyH_take (i := 9) (oi := _) (v := ?v9) rfl (by kernel_rfl) (by kernel_rfl) (by kernel_rfl) (fun _ _ _ h => h) (Or.inl ⟨by rfl, ?h9⟩) (by assumption) ?_
      case h9 => (intro w hSw; (try dsimp only at hSw); go_simp; (try with_reducible rfl))
      simp only [Act.put, List.setIfInBounds_toArray]
      refine wpAnyH_done (by kernel_rfl) ?_ _
      change wpList _ _ _ _ _ _
      go_wp2_with fail
      go_roundw
      case rel =>
        have hs3 := HB3.out.size
        refine ⟨k + 1, by omega, by go_num, fun j => if j = k then .slice A3 (byL (partL a k) (partL b k) how).length c3 else ps j, ?_, ?_, fun j hj => ?_, fun j hj => ?_, fun blk h1 h2 => ?_, (hbr.trans (HB3.out.mono hsz)).setCell (Nat.le_refl _) _⟩
        · rw [cells_set HP4.out, four_set ps hk4]
        · exact (Below.heap_setCell _ _ _ _ (by show w2.heap.size ≠ w1.heap.size; omega)).trans HQ4.out
        · by_cases e : j = k
          · subst e
            simp only [if_true]
            exact (HO3.out.mono (by show _ ≤ wr.heap.size; omega)).setOther (by show w1.heap.size < _; omega) _
          · simp only [if_neg e]
            exact ((HPO.out j (by omega)).grow HB3.out).setOther (by show w1.heap.size < _; omega) _
        · show (if j = k then _ else ps j) = vs j
          rw [if_neg (show ¬ j = k by omega)]; exact HPV.out j (by omega)
        · exact (Below.heap_setCell _ _ _ _ (by show blk ≠ w1.heap.size; omega)).trans ((HB3.out.block blk (by omega)).trans (HKP.out blk h1 h2))
      case measure => simp [intOf]; omega
    · obtain rfl : k = 4 := by omega
      have d0 : wr.cell? ⟨w1.heap.size, 0, none⟩ = some (ps 0) := cell_cells (i := 0) hpa
      have d1 : wr.cell? ⟨w1.heap.size, 1, none⟩ = some (ps 1) := cell_cells (i := 1) hpa
      have d2 : wr.cell? ⟨w1.heap.size, 2, none⟩ = some (ps 2) := cell_cells (i := 2) hpa
      have d3 : wr.cell? ⟨w1.heap.size, 3, none⟩ = some (ps 3) := cell_cells (i := 3) hpa
      have HOL : ∀ j : Nat, (byL (partL a (j : Int)) (partL b (j : Int)) how).length ≤ 80001 := fun j => by
        have := byL_len (partL a (j : Int)) (partL b (j : Int)) how; have := partL_len a (j : Int); have := partL_len b (j : Int); omega
      have HSP : Hid (∀ j, j < 4 → SlP wr wr.heap.size 2 RuE (ps j) (byL (partL a (j : Int)) (partL b (j : Int)) how)) := fun j hj => (hpo j hj).sl (by have := HOL j; unfold Big; omega)
      have HOLH := hid HOL
      clear hpa hqa hpo hpv hkp HOL
      go_wp2_with fail
      refine (whole_any (fun j => byL (partL a (j : Int)) (partL b (j : Int)) how) ps wr HSP.out (fun j _ => by have := HOLH.out j; show (byL _ _ _).length ≤ _; omega)).mono ?_
      rintro e w4 ⟨v4, rfl, ho4, hb4⟩
      go_wp2_with fail
      go_ret
      exact ⟨_, rfl, ho4.mono (by omega), (hb1.trans (hbr.mono hs1)).trans (hb4.mono (by omega))⟩

theorem union_rule : RuleRun 161 0 :=
  ⟨enters_of Tryz.func161 (by kernel_rfl) rfl, fun a b va vb W ha hb hra hrb hN hN' => sunion_any a b va vb W ha hb hra hrb (by omega) (by omega)⟩
theorem cunion_any (a b : List Sp) (va vb : Value) (w : World) (ha : SlP w w.heap.size 3 SpE va a) (hb : SlP w w.heap.size 3 SpE vb b) (hra : apartB a = true) (hrb : apartB b = true) (hN : a.length ≤ 20000) (hN' : b.length ≤ 20000) :
    Calls Tryz.prog 125 #[va, vb] w (RetO w 55 3 (fun _ => SpE) (ctxBy a b 0)) := by
  go_enter Tryz.func125, Tryz.ntmps125
  go_wp2_with fail
  refine (cby_any a b 0 _ union_rule va vb w ha hb hra hrb hN hN').mono ?_
  rintro e w1 ⟨v, rfl, h⟩
  go_wp2_with fail
  go_ret
  exact ⟨v, rfl, h⟩
end Go.Proofs.YtkjijbogbelilaaGreat

namespace Go.Proofs.YtkjijbogbelilaaGreat
open Go.RowKit
set_option maxRecDepth 100000

/-- What of the numbers lo to hi is in none of the runs. -/
def cutL : List (Int × Int) → Int → Int → List (Int × Int)
  | [], lo, hi => if lo ≤ hi then [(lo, hi)] else []
  | x :: b, lo, hi => if x.2 < lo ∨ hi < x.1 then cutL b lo hi else if lo < x.1 then (lo, x.1 - 1) :: cutL b (x.2 + 1) hi else cutL b (x.2 + 1) hi
def minusL (a b : List (Int × Int)) : List (Int × Int) := a.flatMap fun r => cutL b r.1 r.2
theorem cutL_len : ∀ (b : List (Int × Int)) (lo hi : Int), (cutL b lo hi).length ≤ b.length + 1
  | [], lo, hi => by rw [cutL]; split <;> simp
  | x :: b, lo, hi => by
    rw [cutL]
    have h1 := cutL_len b lo hi
    have h2 := cutL_len b (x.2 + 1) hi
    split
    · simp; omega
    · split <;> simp <;> omega
theorem minusL_take {a b : List (Int × Int)} {k : Nat} {r : Int × Int} (h : a[k]? = some r) : minusL (a.take (k + 1)) b = minusL (a.take k) b ++ cutL b r.1 r.2 := by
  unfold minusL; rw [List.take_add_one, h]; simp
theorem cutL_drop {b : List (Int × Int)} {k : Nat} {x : Int × Int} (h : b[k]? = some x) (lo hi : Int) : cutL (b.drop k) lo hi = (if x.2 < lo ∨ hi < x.1 then cutL (b.drop (k + 1)) lo hi else if lo < x.1 then (lo, x.1 - 1) :: cutL (b.drop (k + 1)) (x.2 + 1) hi else cutL (b.drop (k + 1)) (x.2 + 1) hi) := by
  have hlt := (List.getElem?_eq_some_iff.1 h).1
  rw [List.drop_eq_getElem_cons hlt, (List.getElem?_eq_some_iff.1 h).2, cutL]

theorem hasL_cons (x : Int × Int) (l : List (Int × Int)) (n : Int) : hasL (x :: l) n = (inR x n || hasL l n) := rfl
theorem runs_gt' : ∀ (l : List (Int × Int)) (q n : Int), runsR (some q) l = true → hasL l n = true → q + 1 < n
  | x :: l, q, n, h, hn => by
    rw [runsR_iff] at h
    obtain ⟨h1, h2, h3⟩ := h
    unfold runOk at h1
    simp only [okR, decide_eq_true_eq] at h2
    rw [hasL_cons, Bool.or_eq_true] at hn
    rcases hn with hn | hn
    · simp [inR] at hn; omega
    · have := runs_gt' l x.2 n h3 hn; omega
  | [], q, n, _, hn => by simp [hasL] at hn
theorem runs_wk {l : List (Int × Int)} {q : Int} (h : runsR (some q) l = true) : ∀ p : Option Int, (∀ q', p = some q' → q' ≤ q) → runsR p l = true := by
  intro p hp
  cases l with
  | nil => cases p <;> rfl
  | cons x l =>
    rw [runsR_iff] at h ⊢
    refine ⟨h.1, ?_, h.2.2⟩
    cases p with
    | none => rfl
    | some q' =>
      have := hp q' rfl
      have h2 := h.2.1
      simp only [okR, decide_eq_true_eq] at h2 ⊢
      omega
theorem cut_runs : ∀ (b : List (Int × Int)) (p0 p : Option Int) (lo hi : Int) (rest : List (Int × Int)), runsR p0 b = true → okR p lo = true → 1 ≤ lo → hi ≤ 1099511627776 → (∀ q, p = some q → q ≤ hi) → runsR (some hi) rest = true → runsR p (cutL b lo hi ++ rest) = true
  | [], p0, p, lo, hi, rest, _, hp, h1, h2, hq, hr => by
    rw [cutL]
    split
    · rename_i hle
      rw [List.singleton_append, runsR_iff]
      exact ⟨⟨h1, hle, h2⟩, hp, hr⟩
    · exact runs_wk hr p hq
  | x :: b, p0, p, lo, hi, rest, h, hp, h1, h2, hq, hr => by
    rw [runsR_iff] at h
    obtain ⟨hx, _, hb⟩ := h
    unfold runOk at hx
    rw [cutL]
    split
    · exact cut_runs b _ p lo hi rest hb hp h1 h2 hq hr
    · rename_i hc
      split
      · rename_i hl
        rw [List.cons_append, runsR_iff]
        exact ⟨⟨h1, by show lo ≤ x.1 - 1; omega, by show x.1 - 1 ≤ _; omega⟩, hp, cut_runs b _ _ (x.2 + 1) hi rest hb (by simp only [okR, decide_eq_true_eq]; omega) (by omega) h2 (fun q e => by cases e; omega) hr⟩
      · refine cut_runs b _ p (x.2 + 1) hi rest hb ?_ (by omega) h2 hq hr
        cases p with
        | none => rfl
        | some q => simp only [okR, decide_eq_true_eq] at hp ⊢; omega
theorem minus_runs (b : List (Int × Int)) (hb : runsR none b = true) : ∀ (a : List (Int × Int)) (p : Option Int), runsR p a = true → runsR p (minusL a b) = true
  | [], p, _ => by cases p <;> rfl
  | r :: a, p, h => by
    rw [runsR_iff] at h
    obtain ⟨h1, h2, h3⟩ := h
    unfold runOk at h1
    show runsR p (cutL b r.1 r.2 ++ minusL a b) = true
    refine cut_runs b none p r.1 r.2 _ hb h2 h1.1 h1.2.2 (fun q e => ?_) (minus_runs b hb a _ h3)
    subst e
    simp only [okR, decide_eq_true_eq] at h2
    omega
theorem has_cut : ∀ (b : List (Int × Int)) (p : Option Int) (lo hi n : Int), runsR p b = true → hasL (cutL b lo hi) n = (decide (lo ≤ n) && decide (n ≤ hi) && !hasL b n)
  | [], p, lo, hi, n, _ => by
    rw [cutL]
    split
    · simp [hasL, inR]
    · rw [Bool.eq_iff_iff]; simp [hasL]; omega
  | x :: b, p, lo, hi, n, h => by
    rw [runsR_iff] at h
    obtain ⟨hx, _, hb⟩ := h
    unfold runOk at hx
    have hgt := runs_gt' b x.2 n hb
    have e1 := has_cut b _ lo hi n hb
    have e2 := has_cut b _ (x.2 + 1) hi n hb
    rw [cutL, hasL_cons]
    have hin : inR x n = (decide (x.1 ≤ n) && decide (n ≤ x.2)) := rfl
    split
    · rw [e1, hin]
      cases hbn : hasL b n <;> rw [Bool.eq_iff_iff] <;> simp <;> omega
    · split
      · rw [hasL_cons, e2, Bool.eq_iff_iff]
        simp [inR]
        cases hbn : hasL b n <;> simp [hbn] at hgt ⊢ <;> omega
      · rw [e2, hin]
        cases hbn : hasL b n <;> simp [hbn] at hgt <;> rw [Bool.eq_iff_iff] <;> simp <;> omega
theorem hasL_app' (a b : List (Int × Int)) (n : Int) : hasL (a ++ b) n = (hasL a n || hasL b n) := by unfold hasL; rw [List.any_append]
theorem has_minus (b : List (Int × Int)) (hb : runsR none b = true) (n : Int) : ∀ (a : List (Int × Int)), hasL (minusL a b) n = (hasL a n && !hasL b n)
  | [] => by simp [minusL, hasL]
  | r :: a => by
    show hasL (cutL b r.1 r.2 ++ minusL a b) n = _
    rw [hasL_app', has_cut b none _ _ n hb, has_minus b hb n a, hasL_cons, Bool.and_or_distrib_right]; rfl
/-- Runs taken away, one behind the other: the reference's difference. -/
theorem minus_by {a b : List (Int × Int)} (ha : runsR none a = true) (hb : runsR none b = true) : minusL a b = byL a b 2 := by
  have h := byL_right (a := a) (b := b) 2 (runs_ok' a none ha) (runs_ok' b none hb)
  refine runs_eq _ _ none none (minus_runs b hb a none ha) h.1 fun n => ?_
  rw [has_minus b hb n a, h.2 n]
  simp [inn]
end Go.Proofs.YtkjijbogbelilaaGreat
