/- What the laws need, part 3: Contexts put together of sets, in plain Lean: they may be taken apart, into those sets; what context.Has tells of them. No condition. Small facts in plain Lean for the laws: a tree of one entry, a context of one dot. No condition. slices.Sort and slices.Compact at a list of texts of the call's own. No condition but that there are not too many. register.Values. No condition but that there are not too many. Plain law: texts sorted and each once, as the library does it and as the reference does it. No condition. tributaryref10.Sorted, Texts. No condition but that there are not too many. slices.SortFunc at runs: the library's contract laid at this program. No condition. slices.SortFunc at a list of runs of the call's own. No condition but that there are not too many. span.Of is the reference's set of the same numbers. No condition but that the numbers are right, and not too many. span.Union is the reference's union. No condition but that both are sets, and not too many. context.by at two right contexts, whatever rule; context.Union. No condition but that there are not too many. context.Of is the reference's context of the same dots. No condition but that the dots are right, and not too many. tree.Dots and flag.Check are what the reference says. No condition but that there are not too many entries. What a change hands back: what is known, and an error's number. No condition. flag.seen, flag.Disable, flag.On. No condition but that there are not too many entries. Small facts on contexts of dots. No condition. register.Write. No condition but that there are not too many entries. tributarylaw13.awake answers true. No condition. The law RegisterValues answers true. No condition. The data that a law is given, read as the plain types: dots, entries, trees. No condition. The frame of a law: its answer is true, and its arguments read as before. No condition. -/
import Derived.Deep.Slices
import Derived.Lib.RowBridge
import Derived.ProofKit
import Derived.Shelf.SlSortCmp.NoneTotal
import Derived.Shelf.Slices.CompactS
import Derived.Shelf.Slices.In.SortNone
import Derived.Shelf.Sort.Plain
import Derived.SizedLaws
import Derived.Sort.OwnSorted
import Derived.Test.YtdmhfiofgioihaaProg
import Derived.Test.YtdmhfiofgioihaaRows
import Derived.Test.YtdmhfiofgioihaaRv2
namespace Go.Proofs.Ytdmhfiofgioihaa
open Go.RowKit

theorem dcsOk_of : ∀ (c : List Sp) (L : Int), c.Pairwise (fun a b => a.dc ≤ b.dc) → (∀ s ∈ c, L ≤ s.dc ∧ s.dc < 4) → dcsOk L c = true
  | [], _, _, _ => rfl
  | s :: c, L, hp, ha => by
    rw [List.pairwise_cons] at hp
    rw [dcsOk, dcsOk_of c s.dc hp.2 (fun x hx => ⟨hp.1 x hx, (ha x (by simp [hx])).2⟩)]
    have := ha s (by simp)
    simp [this]
theorem wholeK_dc (ls : Nat → List (Int × Int)) : ∀ k, ∀ s ∈ wholeK ls k, 0 ≤ s.dc ∧ s.dc < k
  | 0, s, h => by simp [wholeK] at h
  | k + 1, s, h => by
    rw [wholeK_succ] at h
    rcases List.mem_append.1 h with h | h
    · have := wholeK_dc ls k s h; omega
    · obtain ⟨r, _, rfl⟩ := List.mem_map.1 h
      show 0 ≤ (k : Int) ∧ (k : Int) < _
      omega
theorem wholeK_pw (ls : Nat → List (Int × Int)) : ∀ k, (wholeK ls k).Pairwise fun a b => a.dc ≤ b.dc
  | 0 => by simp [wholeK]
  | k + 1 => by
    rw [wholeK_succ, List.pairwise_append]
    refine ⟨wholeK_pw ls k, ?_, fun a ha b hb => ?_⟩
    · unfold spansL
      rw [List.pairwise_map]
      exact List.pairwise_of_forall fun _ _ => Int.le_refl _
    · obtain ⟨r, _, rfl⟩ := List.mem_map.1 hb
      have := wholeK_dc ls k a ha
      show a.dc ≤ (k : Int)
      omega
theorem partL_app (a b : List Sp) (dc : Int) : partL (a ++ b) dc = partL a dc ++ partL b dc := by simp [partL]
theorem partL_spans (l : List (Int × Int)) (d dc : Int) : partL (spansL d l) dc = if d = dc then l else [] := by
  unfold partL spansL
  rw [List.filter_map, List.map_map]
  by_cases e : d = dc
  · rw [if_pos e]
    rw [List.filter_eq_self.2 (fun x _ => by simp [e])]
    exact List.map_id'' (fun x => rfl) l
  · rw [if_neg e, List.filter_eq_nil_iff.2 (fun x _ => by simp [e])]; rfl
theorem partL_whole (ls : Nat → List (Int × Int)) : ∀ (k d : Nat), partL (wholeK ls k) d = if d < k then ls d else []
  | 0, d => by simp [wholeK, partL]
  | k + 1, d => by
    rw [wholeK_succ, partL_app, partL_whole ls k d, partL_spans]
    by_cases e : d = k
    · subst e; rw [if_neg (Nat.lt_irrefl _), if_pos rfl, if_pos (Nat.lt_succ_self _)]; rfl
    · rw [if_neg (show ¬ (k : Int) = (d : Int) by omega), List.append_nil]
      by_cases h : d < k
      · rw [if_pos h, if_pos (by omega)]
      · rw [if_neg h, if_neg (by omega)]
theorem apart_whole {ls : Nat → List (Int × Int)} (h : ∀ i, i < 4 → runsR none (ls i) = true) : apartB (wholeK ls 4) = true := by
  unfold apartB
  rw [dcsOk_of _ 0 (wholeK_pw ls 4) (fun s hs => by have := wholeK_dc ls 4 s hs; omega), Bool.true_and, List.all_eq_true]
  intro i hi
  have hi4 : i < 4 := List.mem_range.1 hi
  rw [partL_whole, if_pos hi4]
  exact h i hi4
/-- Two contexts put together of sets of the same numbers are the same. -/
theorem whole_eq {ls ms : Nat → List (Int × Int)} (h : ∀ i, i < 4 → ls i = ms i) : wholeK ls 4 = wholeK ms 4 := by
  unfold wholeK
  rw [List.flatMap_def, List.flatMap_def]
  congr 1
  apply List.map_congr_left
  intro i hi
  rw [h i (List.mem_range.1 hi)]

theorem ctxOf_whole (l : List Dt) : ctxOf l = wholeK (fun i => ofL (numsL l i)) 4 := rfl
theorem nums_ok {l : List Dt} (h : ∀ d ∈ l, d.right = true) (dc : Int) : ∀ x ∈ numsL l dc, 1 ≤ x ∧ x ≤ 1099511627776 := fun x hx => by
  unfold numsL at hx
  obtain ⟨d, hd, rfl⟩ := List.mem_map.1 hx
  have h1 := h d (List.mem_filter.1 hd).1
  simp [Dt.right] at h1
  omega
theorem apart_ctxOf {l : List Dt} (h : ∀ d ∈ l, d.right = true) : apartB (ctxOf l) = true := by
  rw [ctxOf_whole]
  exact apart_whole fun i _ => (ofL_right (nums_ok h i)).1
theorem part_ctxOf (l : List Dt) {d : Nat} (hd : d < 4) : partL (ctxOf l) d = ofL (numsL l d) := by
  rw [ctxOf_whole, partL_whole, if_pos hd]
/-- Of right contexts, context.Has tells what the reference's tells. -/
theorem cHas_eq {c : List Sp} (h : apartB c = true) (d : Dt) : cHas c d = hasC c d := by
  unfold cHas hasC sHas
  rw [h, Bool.true_and]
  cases hd : d.right with
  | false => rfl
  | true =>
    simp only [Bool.true_and]
    have hb : 0 ≤ d.dc ∧ d.dc < 4 := by simp [Dt.right] at hd; omega
    obtain ⟨n, hn⟩ : ∃ n : Nat, d.dc = (n : Int) := ⟨d.dc.toNat, by omega⟩
    unfold apartB at h
    rw [Bool.and_eq_true, List.all_eq_true] at h
    have := h.2 n (List.mem_range.2 (by omega))
    rw [hn, this]; rfl
theorem hasC_ctxOf {l : List Dt} (h : ∀ d ∈ l, d.right = true) {d : Dt} (hd : d.right = true) : hasC (ctxOf l) d = decide (d ∈ l) := by
  have hb : 0 ≤ d.dc ∧ d.dc < 4 := by simp [Dt.right] at hd; omega
  obtain ⟨n, hn⟩ : ∃ n : Nat, d.dc = (n : Int) := ⟨d.dc.toNat, by omega⟩
  unfold hasC
  rw [hd, Bool.true_and, hn, part_ctxOf l (by omega), Bool.eq_iff_iff, (ofL_right (nums_ok h n)).2, decide_eq_true_eq]
  unfold numsL
  rw [List.mem_map]
  constructor
  · rintro ⟨x, hx, he⟩
    obtain ⟨hx1, hx2⟩ := List.mem_filter.1 hx
    have : x = d := by cases x; cases d; simp at *; exact ⟨hx2.trans hn.symm, he⟩
    rw [← this]; exact hx1
  · intro hm
    exact ⟨d, List.mem_filter.2 ⟨hm, by simp [hn]⟩, rfl⟩
end Go.Proofs.Ytdmhfiofgioihaa

namespace Go.Proofs.Ytdmhfiofgioihaa
open Go.RowKit

theorem build_one_leaf (x : En) : buildL [([], x)] = .mk [x] [] := by
  unfold buildL deepL
  simp only [List.map_cons, List.map_nil, List.length_nil, List.sum_cons, List.sum_nil, Nat.add_zero]
  rw [buildT]
  have h1 : selEnts [([], x)] = [x] := by
    unfold selEnts
    have hi := lt_irrefl' x.dot
    simp [entsGo, bestE, selS, selC, okP, hi]
  have h2 : bestK [(([] : List ByteArray), x)] ByteArray.empty = ByteArray.empty := by simp [bestK, keyS, keyC]
  rw [h1]
  simp [kidsGo, h2]
theorem ofL_nil : ofL [] = [] := by simp [ofL, ofGo, nextL]
theorem ofL_one {n : Int} (h : 1 ≤ n ∧ n ≤ 1099511627776) : ofL [n] = [(n, n)] := by
  obtain ⟨h1, h2⟩ := ofL_right (ps := [n]) (fun x hx => by simp at hx; subst hx; exact h)
  refine runs_eq _ _ none none h1 ((runsR_one none (n, n)).2 ⟨⟨h.1, Int.le_refl _, h.2⟩, rfl⟩) fun m => ?_
  rw [Bool.eq_iff_iff, h2]
  simp [hasL, inR]
  omega
theorem right_bd {d : Dt} (h : d.right = true) : (0 ≤ d.dc ∧ d.dc < 4) ∧ 1 ≤ d.n ∧ d.n ≤ 1099511627776 := by simpa [Dt.right, and_assoc] using h
theorem ctxOf_one {d : Dt} (h : d.right = true) : ctxOf [d] = [⟨d.dc, d.n, d.n⟩] := by
  obtain ⟨h1, h2⟩ := right_bd h
  rw [ctxOf_whole]
  have hk : ∀ i : Nat, ofL (numsL [d] (i : Int)) = if d.dc = (i : Int) then [(d.n, d.n)] else [] := fun i => by
    by_cases e : d.dc = (i : Int)
    · rw [if_pos e, show numsL [d] (i : Int) = [d.n] by simp [numsL, e], ofL_one h2]
    · rw [if_neg e, show numsL [d] (i : Int) = [] by simp [numsL, e], ofL_nil]
  unfold wholeK
  simp only [hk]
  rcases (show d.dc = 0 ∨ d.dc = 1 ∨ d.dc = 2 ∨ d.dc = 3 by omega) with e | e | e | e <;> simp [e, List.range_succ, spansL]
theorem ctxBy_whole (a b : List Sp) (how : Int) : ctxBy a b how = wholeK (fun i => byL (partL a i) (partL b i) how) 4 := rfl
theorem runs_ok : ∀ (l : List (Int × Int)) (p : Option Int), runsR p l = true → ∀ r ∈ l, runOk r
  | x :: l, p, h, r, hr => by
    rw [runsR_iff] at h
    rcases List.mem_cons.1 hr with rfl | hr
    · exact h.1
    · exact runs_ok l _ h.2.2 r hr
theorem apart_part {c : List Sp} (h : apartB c = true) {i : Nat} (hi : i < 4) : runsR none (partL c i) = true := by
  unfold apartB at h
  rw [Bool.and_eq_true, List.all_eq_true] at h
  exact h.2 i (List.mem_range.2 hi)
theorem apart_dcs : ∀ (c : List Sp) (L : Int), dcsOk L c = true → ∀ s ∈ c, L ≤ s.dc ∧ s.dc < 4
  | s :: c, L, h, x, hx => by
    rw [dcsOk, Bool.and_eq_true, Bool.and_eq_true, decide_eq_true_eq, decide_eq_true_eq] at h
    rcases List.mem_cons.1 hx with rfl | hx
    · exact ⟨h.1.1, h.1.2⟩
    · have := apart_dcs c s.dc h.2 x hx; exact ⟨by omega, this.2⟩
theorem dcs_split : ∀ (c : List Sp) (L : Nat), dcsOk (L : Int) c = true → ∀ n, L + n = 4 → c = (List.range' L n).flatMap fun (dc : Nat) => spansL (dc : Int) (partL c (dc : Int))
  | c, L, h, 0, hn => by
    cases c with
    | nil => rfl
    | cons s c => have := apart_dcs _ _ h s (by simp); omega
  | c, L, h, n + 1, hn => by
    rw [List.range'_succ, List.flatMap_cons]
    have key : ∀ (c : List Sp) (L : Int), dcsOk L c = true → ∃ c', c = spansL L (partL c L) ++ c' ∧ dcsOk (L + 1) c' = true := by
      intro c
      induction c with
      | nil => intro L _; exact ⟨[], by simp [partL, spansL], rfl⟩
      | cons s c ih =>
        intro L h
        rw [dcsOk, Bool.and_eq_true, Bool.and_eq_true, decide_eq_true_eq, decide_eq_true_eq] at h
        obtain ⟨⟨h1, h2⟩, h3⟩ := h
        by_cases e : s.dc = L
        · rw [e] at h3
          obtain ⟨c', hc, hd⟩ := ih L h3
          refine ⟨c', ?_, hd⟩
          have hp : partL (s :: c) L = (s.fr, s.hi) :: partL c L := by simp [partL, e]
          rw [hp]
          conv => lhs; rw [hc]
          unfold spansL
          rw [List.map_cons, List.cons_append]
          congr 1
          cases s; simp at e; simp [e]
        · refine ⟨s :: c, ?_, ?_⟩
          · have hp : partL (s :: c) L = [] := by
              unfold partL
              rw [List.filter_eq_nil_iff.2, List.map_nil]
              intro x hx
              have : s.dc ≤ x.dc := by
                rcases List.mem_cons.1 hx with rfl | hx
                · exact Int.le_refl _
                · exact (apart_dcs c s.dc h3 x hx).1
              simp; omega
            rw [hp]; rfl
          · rw [dcsOk, h3]; simp; omega
    obtain ⟨c', hc, hd⟩ := key c L h
    have ih := dcs_split c' (L + 1) (by exact_mod_cast hd) n (by omega)
    have hpc : ∀ dc : Nat, L + 1 ≤ dc → partL c dc = partL c' dc := fun dc hdc => by
      rw [hc, partL_app, partL_spans, if_neg (by omega)]; rfl
    conv => lhs; rw [hc, ih]
    congr 1
    rw [List.flatMap_def, List.flatMap_def]
    congr 1
    apply List.map_congr_left
    intro i hi
    rw [hpc i (by have := List.mem_range'_1.1 hi; omega)]
/-- A right context is put together of its parts. -/
theorem whole_part {c : List Sp} (h : apartB c = true) : wholeK (fun i => partL c i) 4 = c := by
  unfold apartB at h
  rw [Bool.and_eq_true] at h
  have := dcs_split c 0 h.1 4 rfl
  unfold wholeK
  rw [List.range_eq_range']
  exact this.symm
/-- The reference's union with nothing. -/
theorem union_nil {c : List Sp} (h : apartB c = true) : ctxBy [] c 0 = c := by
  rw [ctxBy_whole]
  conv => rhs; rw [← whole_part h]
  refine whole_eq fun i hi => ?_
  have hr := apart_part h hi
  have ha : ∀ r ∈ partL ([] : List Sp) i, runOk r := fun r hr => by simp [partL] at hr
  obtain ⟨h1, h2⟩ := byL_right (a := partL ([] : List Sp) i) (b := partL c i) 0 ha (runs_ok _ _ hr)
  refine runs_eq _ _ none none h1 hr fun n => ?_
  rw [h2]
  simp [inn, hasL, partL]
theorem put_ctx {d : Dt} (h : d.right = true) : ctxBy [] [⟨d.dc, d.n, d.n⟩] 0 = ctxOf [d] := by
  rw [← ctxOf_one h]
  exact union_nil (apart_ctxOf fun x hx => by simp at hx; subst hx; exact h)
end Go.Proofs.Ytdmhfiofgioihaa

namespace Go.Proofs.Ytdmhfiofgioihaa
open Go.RowKit Go.Sort
set_option maxRecDepth 100000

def toBy (s : ByteArray) : List UInt8 := s.data.toList
def ofBy (l : List UInt8) : ByteArray := ⟨l.toArray⟩
theorem ofBy_toBy (s : ByteArray) : ofBy (toBy s) = s := rfl
theorem toBy_ofBy (l : List UInt8) : toBy (ofBy l) = l := rfl
theorem map_of_to (ds : List ByteArray) : (ds.map toBy).map ofBy = ds := by
  rw [List.map_map]
  conv => rhs; rw [← List.map_id ds]
  rfl
theorem map_to_of (ds : List (List UInt8)) : (ds.map ofBy).map toBy = ds := by
  rw [List.map_map]
  conv => rhs; rw [← List.map_id ds]
  rfl
/-- Texts, in order. -/
def srtL (ds : List ByteArray) : List ByteArray := ((ds.map toBy).mergeSort fun x y => decide (x ≤ y)).map ofBy
/-- Texts, neighbours that are the same once. -/
def cmpL (ds : List ByteArray) : List ByteArray := (Lib.compact (ds.map toBy)).map ofBy
theorem flat_one {α : Type} (f : α → Value) (l : List α) : (l.map fun x => [f x]).flatten = l.map f := by
  induction l with
  | nil => rfl
  | cons x l ih => simp [ih]
theorem own_strs {w : World} {base : Nat} {e : TypeId} {v : Value} {ds : List ByteArray} (h : OwnP w base e 1 StE v ds) : (v = .slice none 0 0 ∧ ds = []) ∨
    ∃ b cap cur, v = .slice (some ⟨b, 0, none⟩) ds.length cap ∧ base ≤ b ∧ w.heap[b]? = some (.cells cur e (0, 0)) ∧ ds.length ≤ cap ∧ cap ≤ maxLen ∧ cur.size = cap * 1 ∧ cur.toList.take (ds.map toBy).length = (ds.map toBy).map encStr ∧ ∀ x ∈ ds, x.size ≤ Big := by
  obtain ⟨css, h1, h2, h3⟩ := h
  rcases h3 with ⟨rfl, hn⟩ | ⟨b, cap, cur, rfl, hb, hg, hnc, hm, hcs, ht⟩
  · exact .inl ⟨rfl, List.eq_nil_of_length_eq_zero hn⟩
  · refine .inr ⟨b, cap, cur, rfl, hb, hg, hnc, hm, hcs, ?_, fun x hx => ?_⟩
    · have hcss : css = ds.map fun x => [Value.string x] := by
        apply List.ext_getElem?
        intro j
        by_cases hj : j < ds.length
        · obtain ⟨cs, hcs, ⟨hcv, _⟩, _⟩ := h1.2 j ds[j] (List.getElem?_eq_getElem hj)
          rw [hcs, List.getElem?_map, List.getElem?_eq_getElem hj, hcv]; rfl
        · rw [List.getElem?_eq_none (by rw [h1.1]; omega), List.getElem?_eq_none (by simp; omega)]
      rw [Nat.mul_one, hcss, flat_one] at ht
      rw [List.length_map, ht, List.map_map]
      rfl
    · obtain ⟨j, hj⟩ := List.getElem?_of_mem hx
      obtain ⟨cs, _, ⟨_, hr⟩, _⟩ := h1.2 j x hj
      exact hr
theorem own_of {w : World} {base : Nat} {e : TypeId} {v : Value} {ts : List (List UInt8)} (h : w.ownsRow base e 1 v ts.length (ts.map encStr)) (hs : ∀ x ∈ ts, (ofBy x).size ≤ Big) : OwnP w base e 1 StE v (ts.map ofBy) := by
  refine ⟨ts.map fun l => [encStr l], ⟨by simp, fun j x hx => ?_⟩, ?_⟩
  · rw [List.getElem?_map] at hx
    obtain ⟨y, hy, rfl⟩ := Option.map_eq_some_iff.1 hx
    exact ⟨[encStr y], by rw [List.getElem?_map, hy]; rfl, ⟨rfl, hs y (List.mem_of_getElem? hy)⟩, rfl⟩
  · rw [flat_one, List.length_map]; exact h

theorem sortStr_any (ds : List ByteArray) (v : Value) (w : World) (base : Nat) (h : OwnP w base 9 1 StE v ds) (hl : ds.length ≤ 900000) (hbase : base ≤ w.heap.size) :
    Calls Try.prog 43 #[v] w fun e w' => e = .returned (.tuple #[]) ∧ OwnP w' base 9 1 StE v (srtL ds) ∧ Below base w w' := by
  rcases own_strs h with ⟨rfl, rfl⟩ | ⟨b, cap, cur, rfl, hb, hg, hnc, hm, hcs, ht, hz⟩
  · refine (Any.slices_Sort_string_none Try.sortStr none 0 w).mono ?_
    rintro e w' ⟨rfl, rfl⟩
    exact ⟨rfl, by simpa [srtL] using OwnP.nil, Below.refl _ _⟩
  · have hlt : b < w.heap.size := (Array.getElem?_eq_some_iff.1 hg).1
    have hH : Holds encStr w b 0 (ds.map toBy).toArray := holds_of_block hg ht
    have hcon := Any.slices_Sort_string Try.sortStr b 0 cap (ds.map toBy) w hH hlt (by rw [List.length_map]; omega)
    rw [List.length_map] at hcon
    refine Calls.mono hcon ?_
    rintro e w' ⟨rfl, n, os, rfl⟩
    have hp : ((ds.map toBy).mergeSort fun x y => decide (x ≤ y)).Perm (ds.map toBy) := List.mergeSort_perm _ _
    have hrow := ownsRow_sorted (n := n) (os := os) (ss := ds.map toBy) (ts := (ds.map toBy).mergeSort fun x y => decide (x ≤ y)) hp.length_eq hb hg (by rw [List.length_map]; exact hnc) hm hcs
    rw [← hp.length_eq] at hrow
    refine ⟨rfl, ?_, (Below.refl base w).grown (grownBy_sorted _) hbase (fun g hg => by cases hg; exact hb)⟩
    have hlen : ((ds.map toBy).mergeSort fun x y => decide (x ≤ y)).length = ds.length := by rw [hp.length_eq, List.length_map]
    have := own_of hrow (fun x hx => by
      obtain ⟨y, hy, rfl⟩ := List.mem_map.1 (hp.subset hx)
      exact hz y hy)
    rw [hlen] at this
    exact this

theorem compactStr_any (ds : List ByteArray) (v : Value) (w : World) (base : Nat) (h : OwnP w base 9 1 StE v ds) (hl : ds.length ≤ 900000) (hbase : base ≤ w.heap.size) :
    Calls Try.prog 44 #[v] w fun e w' => ∃ v', e = .returned v' ∧ OwnP w' base 9 1 StE v' (cmpL ds) ∧ Below base w w' := by
  rcases own_strs h with ⟨rfl, rfl⟩ | ⟨b, cap, cur, rfl, hb, hg, hnc, hm, hcs, ht, hz⟩
  · refine (Any.slices_Compact_string_empty Try.compactStr none 0 w).mono ?_
    rintro e w' ⟨rfl, rfl⟩
    exact ⟨_, rfl, by simpa [cmpL, Lib.compact, Lib.compactUpTo] using OwnP.nil, Below.refl _ _⟩
  · have hlt : b < w.heap.size := (Array.getElem?_eq_some_iff.1 hg).1
    have hH : Holds encStr w b 0 (ds.map toBy).toArray := holds_of_block hg ht
    have hcon := Any.slices_Compact_string Try.compactStr b 0 cap (ds.map toBy) w hH (by rw [List.length_map]; omega) (by rw [List.length_map]; exact hnc)
    rw [List.length_map] at hcon
    refine Calls.mono hcon ?_
    rintro e w' ⟨rfl, n, rfl⟩
    have hcl := Lib.compact_length_le (ds.map toBy)
    rw [List.length_map] at hcl
    have hm2 : ∀ x ∈ Lib.compact (ds.map toBy), x ∈ ds.map toBy := fun x hx => by
      unfold Lib.compact Lib.compactUpTo at hx
      obtain ⟨j, hj, rfl⟩ := List.mem_map.1 hx
      have hj' : j < (ds.map toBy).length := List.mem_range.1 (List.mem_filter.1 hj).1
      rw [getElem!_pos _ j (by simpa using hj')]
      simpa using List.getElem_mem hj'
    have hcm : cmpL ds = (Lib.compact (ds.map toBy)).map ofBy := rfl
    rw [hcm]
    generalize Lib.compact (ds.map toBy) = ts at hcl hm2 ⊢
    refine ⟨_, rfl, ?_, ?_⟩
    · have hF : (ts ++ List.replicate (ds.length - ts.length) []).length = ds.length := by simp; omega
      have htk := take_putCells cur (ts ++ List.replicate (ds.length - ts.length) []) (by rw [hF, hcs]; omega)
      have hheap : (putRow encStr (Sort.ahead w n) b 0 (ts ++ List.replicate (ds.length - ts.length) []).toArray).heap[b]? = some (.cells (putCells encStr 0 (ts ++ List.replicate (ds.length - ts.length) []).toArray cur) 9 (0, 0)) := by
        simp [putRow, mapBlock, Sort.ahead, Array.getElem?_modify, hg, onCells]
      refine own_of (v := .slice (some ⟨b, 0, none⟩) ts.length cap) ⟨by simp, .inr ⟨b, cap, _, rfl, hb, hheap, by omega, hm, by simp [putCells, hcs], ?_⟩⟩ (fun x hx => by
        obtain ⟨y, hy, rfl⟩ := List.mem_map.1 (hm2 x hx)
        exact hz y hy)
      have := congrArg (List.take ts.length) htk
      rw [List.take_take, hF, Nat.min_eq_left hcl, ← List.map_take, List.take_left] at this
      rw [Nat.mul_one]; exact this
    · refine (Below.refl base w).grown (w' := putRow encStr (Sort.ahead w n) b 0 (ts ++ List.replicate (ds.length - ts.length) []).toArray) (row := some b) ⟨rfl, rfl, rfl, by simp, fun k hk hne => ?_⟩ hbase (fun g hg => by cases hg; exact hb)
      have : b ≠ k := fun e => hne (by rw [e])
      simp [putRow, mapBlock, Sort.ahead, Array.getElem?_modify, this]
end Go.Proofs.Ytdmhfiofgioihaa

namespace Go.Proofs.Ytdmhfiofgioihaa
open Go.RowKit
set_option maxRecDepth 100000

/-- The texts of a tree's own entries. -/
def txtL (t : Tr) : List ByteArray := t.es.map (·.s)
/-- What register.Values tells. -/
def valsOf (t : Tr) : List ByteArray := cmpL (srtL (if t.right 5 then txtL t else []))
theorem srtL_len (l : List ByteArray) : (srtL l).length = l.length := by unfold srtL; rw [List.length_map, (List.mergeSort_perm _ _).length_eq, List.length_map]
set_option maxHeartbeats 4000000 in
theorem rvals_any (t : Tr) (w : World) (ve vk : Value) (h : t.rd w w.heap.size ve vk) (hN : t.es.length ≤ 900000) :
    Calls Try.prog 22 #[.agg #[ve, vk]] w (RetO w 9 1 (fun _ => StE) (valsOf t)) := by
  have HC : Hid (∀ w', Below w.heap.size w w' → t.rd w' w'.heap.size ve vk) := fun w' hb => rd_below hb hb.size _ _ _ h
  have HK0 : Hid (valsOf t = cmpL (srtL (if t.right 5 then t.es.map (·.s) else []))) := rfl
  obtain ⟨es, ks⟩ := t
  rw [rd_iff] at h
  obtain ⟨⟨A, m, rfl, c1, c2, c3⟩, ⟨A0, n0, rfl, d1, d2, d3⟩⟩ := h
  unfold Big at c2 d2
  simp only [Tr.es] at hN HK0 ⊢
  have hb0 : Below w.heap.size w (w.alloc (.cells #[.slice A es.length m, .slice A0 ks.length n0] 25)) := (Below.refl _ w).alloc (Nat.le_refl _) _
  go_enter Try.func22, Try.ntmps22
  go_wp2_with fail
  refine (tRight_any _ _ _ _ (HC.out _ hb0)).mono ?_
  rintro e w1 ⟨rfl, hb1⟩
  have hs1 := hb1.size
  simp only [World.size_alloc] at hs1
  have hB1 : Below w.heap.size w w1 := hb0.trans (hb1.mono (by simp))
  have b0 : w1.cell? ⟨w.heap.size, 0, none⟩ = some (.slice A es.length m) := by rw [hb1.cell (p := ⟨w.heap.size, 0, none⟩) (by simp)]; simp
  cases hr : (Tr.mk es ks).right 5
  · have HK1 : Hid (valsOf (.mk es ks) = cmpL (srtL [])) := by unfold Hid; rw [HK0.out, hr]; rfl
    obtain ⟨L, hL⟩ : ∃ L : List ByteArray, L = [] := ⟨_, rfl⟩
    have HK : Hid (valsOf (.mk es ks) = cmpL (srtL L)) := by unfold Hid; rw [hL]; exact HK1.out
    have hLl : L.length ≤ 900000 := by rw [hL]; simp
    obtain ⟨wr, hwr⟩ : ∃ wr, wr = w1 := ⟨_, rfl⟩
    subst hwr
    have hown : OwnP wr (w.heap.size + 1) 9 1 StE (.slice none 0 0) L := by rw [hL]; exact OwnP.nil
    have hB0 := hB1
    clear hr hL
    go_wp2_with fail
    refine (sortStr_any L _ wr (w.heap.size + 1) hown hLl (by omega)).mono ?_
    rintro e w2 ⟨rfl, ho2, hb2⟩
    have hs2 := hb2.size
    have hll := srtL_len L
    go_wp2_with fail
    refine (compactStr_any (srtL L) _ w2 (w.heap.size + 1) ho2 (by omega) (by omega)).mono ?_
    rintro e w3 ⟨v3, rfl, ho3, hb3⟩
    go_wp2_with fail
    go_ret
    exact ⟨_, rfl, by rw [HK.out]; exact ho3.mono (by omega), hB0.trans ((hb2.trans hb3).mono (by omega))⟩
  have HK1 : Hid (valsOf (.mk es ks) = cmpL (srtL (es.map (·.s)))) := by unfold Hid; rw [HK0.out, hr]; rfl
  clear hr d3 d2 d1
  go_wp2_with fail
  go_loopw [3, 11] (fun v i wr => ∃ k : Nat, k ≤ es.length ∧ i = .int .i64 k ∧ OwnP wr (w.heap.size + 1) 9 1 StE v ((es.take k).map (·.s)) ∧ Below (w.heap.size + 1) w1 wr) (fun _ i _ => es.length - (intOf i).toNat)
  case atStart => exact ⟨0, Nat.zero_le _, rfl, OwnP.nil, Below.refl _ _⟩
  case round =>
    obtain ⟨k, hk, rfl, hown, hb⟩ := hrel
    have hsz := hb.size
    have hB0 : Below w.heap.size w wr := hB1.trans (hb.mono (by omega))
    by_cases hlt : k < es.length
    · obtain ⟨x, hx⟩ : ∃ x, es[k]? = some x := ⟨_, List.getElem?_eq_getElem hlt⟩
      obtain ⟨b, off, rfl, hbB, hc⟩ := c3 (by rintro rfl; simp at hlt)
      obtain ⟨cs, ⟨rfl, hok⟩, _, hu⟩ := hc k _ hx
      have e0 : wr.cell? ⟨b, off + k * 4, none⟩ = some (.int .i64 x.dc) := (hB0.cell hbB).trans (hu 0 _ rfl)
      have e1 : wr.cell? ⟨b, off + k * 4 + 1, none⟩ = some (.int .i64 x.n) := (hB0.cell hbB).trans (hu 1 _ rfl)
      have e2 : wr.cell? ⟨b, off + k * 4 + 2, none⟩ = some (.string x.s) := (hB0.cell hbB).trans (hu 2 _ rfl)
      have e3 : wr.cell? ⟨b, off + k * 4 + 3, none⟩ = some (.int .i64 x.v) := (hB0.cell hbB).trans (hu 3 _ rfl)
      have HX : Hid ((es.take (k + 1)).map (·.s) = (es.take k).map (·.s) ++ [x.s]) := by unfold Hid; rw [List.take_add_one, hx]; simp
      have HL : Hid (((es.take k).map (·.s)).length + [x.s].length ≤ Few) := by unfold Hid Few; simp; omega
      have HKY : Hid (StE x.s [.string x.s]) := ⟨rfl, hok.s⟩
      clear hu hc c3 hx hb0 hb1 b0 hok
      go_wp2_with (at_builtin; go_loud ((with_reducible refine wpList_few rfl (.tmp 15) (.tmp 18) _ rfl eiStr (by decide) (by decide) (fun _ _ h => StE.one h) rfl ((hown.alloc _).alloc _) rfl (SlP.oneN (x := x.s) HKY.out rfl _ rfl) HL.out (by simp only [World.size_alloc]; omega) ?_); intro v1 w2 hown1 hb2 _; have hb3 := (((Below.refl (w.heap.size + 1) wr).alloc (by omega) _).alloc (by simp only [World.size_alloc]; omega) _).trans hb2))
      go_roundw
      case rel => exact ⟨k + 1, by omega, by go_num, by rw [HX.out]; exact hown1, hb.trans hb3⟩
      case measure => simp [intOf]; omega
    · obtain rfl : k = es.length := by omega
      rw [List.take_of_length_le (Nat.le_refl _)] at hown
      have hLl : (es.map (·.s)).length ≤ 900000 := by simp; omega
      have HK := HK1
      clear HK1 HK0 c3
      generalize es.map (·.s) = L at *
      go_wp2_with fail
      refine (sortStr_any L _ wr (w.heap.size + 1) hown hLl (by omega)).mono ?_
      rintro e w2 ⟨rfl, ho2, hb2⟩
      have hs2 := hb2.size
      have hll := srtL_len L
      go_wp2_with fail
      refine (compactStr_any (srtL L) _ w2 (w.heap.size + 1) ho2 (by omega) (by omega)).mono ?_
      rintro e w3 ⟨v3, rfl, ho3, hb3⟩
      go_wp2_with fail
      go_ret
      exact ⟨_, rfl, by rw [HK.out]; exact ho3.mono (by omega), hB0.trans ((hb2.trans hb3).mono (by omega))⟩
end Go.Proofs.Ytdmhfiofgioihaa

namespace Go.Proofs.Ytdmhfiofgioihaa
open Go.RowKit
set_option maxRecDepth 100000

def okT : Option ByteArray → ByteArray → Bool
  | none, _ => true
  | some q, x => ltS q x
/-- Is a text the next one? -/
def pickC (last b : Option ByteArray) (x : ByteArray) : Bool := okT last x && (match b with | none => true | some c => ltS x c)
def pickS (last b : Option ByteArray) (x : ByteArray) : Option ByteArray := if pickC last b x then some x else b
def sdGo (l : List ByteArray) : Nat → List ByteArray → List ByteArray
  | 0, out => out
  | n + 1, out => match l.foldl (pickS out.getLast?) none with | none => out | some b => sdGo l n (out ++ [b])
/-- What tributaryref10.Sorted tells. -/
def sdL (l : List ByteArray) : List ByteArray := sdGo l (l.length + 1) []
def ahT (l : List ByteArray) (last : Option ByteArray) : Nat := (l.filter fun x => okT last x).length
theorem pick_take {l : List ByteArray} {k : Nat} {x : ByteArray} (h : l[k]? = some x) (last b : Option ByteArray) : (l.take (k + 1)).foldl (pickS last) b = pickS last ((l.take k).foldl (pickS last) b) x := by
  rw [List.take_add_one, h, List.foldl_append]; rfl
theorem pick_mem (l : List ByteArray) (last : Option ByteArray) : ∀ (b : Option ByteArray), (∀ e, b = some e → okT last e = true) → ∀ e, l.foldl (pickS last) b = some e → (b = some e ∨ e ∈ l) ∧ okT last e = true := by
  induction l with
  | nil => intro b hb e he; exact ⟨.inl he, hb e he⟩
  | cons x l ih =>
    intro b hb e he
    rw [List.foldl_cons] at he
    by_cases hc : pickC last b x = true
    · have e1 : pickS last b x = some x := by simp [pickS, hc]
      rw [e1] at he
      simp only [pickC, Bool.and_eq_true] at hc
      obtain ⟨h1, h2⟩ := ih (some x) (fun e he => by cases he; exact hc.1) e he
      refine ⟨.inr ?_, h2⟩
      rcases h1 with h1 | h1
      · cases h1; simp
      · exact List.mem_cons_of_mem _ h1
    · have e1 : pickS last b x = b := by simp [pickS, hc]
      rw [e1] at he
      obtain ⟨h1, h2⟩ := ih b hb e he
      refine ⟨?_, h2⟩
      rcases h1 with h1 | h1
      · exact .inl h1
      · exact .inr (List.mem_cons_of_mem _ h1)
theorem pick_min (l : List ByteArray) (last : Option ByteArray) : ∀ (b : Option ByteArray), (∀ c, b = some c → ∃ e, l.foldl (pickS last) b = some e ∧ ltS c e = false) ∧ ∀ x ∈ l, okT last x = true → ∃ e, l.foldl (pickS last) b = some e ∧ ltS x e = false := by
  induction l with
  | nil => intro b; exact ⟨fun c h => ⟨c, h, ltS_irrefl _⟩, fun _ h => by cases h⟩
  | cons y l ih =>
    intro b
    rw [List.foldl_cons]
    obtain ⟨i1, i2⟩ := ih (pickS last b y)
    refine ⟨fun c hc => ?_, fun x hx h2 => ?_⟩
    · subst hc
      by_cases hs : pickC last (some c) y = true
      · obtain ⟨e, he, hle⟩ := i1 y (by simp [pickS, hs])
        refine ⟨e, he, ?_⟩
        simp only [pickC, Bool.and_eq_true] at hs
        cases hce : ltS c e
        · rfl
        · rw [ltS_trans hs.2 hce] at hle; cases hle
      · exact i1 c (by simp [pickS, hs])
    · rcases List.mem_cons.1 hx with rfl | hx
      · cases b with
        | none =>
          have hs : pickC last none x = true := by simp [pickC, h2]
          exact i1 x (by simp [pickS, hs])
        | some c =>
          by_cases hs : pickC last (some c) x = true
          · exact i1 x (by simp [pickS, hs])
          · obtain ⟨e, he, hle⟩ := i1 c (by simp [pickS, hs])
            refine ⟨e, he, ?_⟩
            have hxc : ltS x c = false := by
              cases hxc : ltS x c
              · rfl
              · exact absurd (by simp [pickC, h2, hxc]) hs
            cases hxe : ltS x e
            · rfl
            · cases hec : ltS e c
              · have := ltS_total hec hle; rw [this] at hxe; rw [hxe] at hxc; cases hxc
              · rw [ltS_trans hxe hec] at hxc; cases hxc
      · exact i2 x hx h2
theorem okT_trans {last : Option ByteArray} {a b : ByteArray} (h : okT last a = true) (k : ltS a b = true) : okT last b = true := by
  cases last with
  | none => rfl
  | some q => exact ltS_trans h k
theorem ahT_lt {l : List ByteArray} {last : Option ByteArray} {e : ByteArray} (h : l.foldl (pickS last) none = some e) : ahT l (some e) < ahT l last := by
  obtain ⟨h1, h2⟩ := pick_mem l last none (fun _ h => by cases h) e h
  rcases h1 with h1 | h1
  · cases h1
  · exact filter_lt h1 (fun y hy => okT_trans h2 hy) h2 (ltS_irrefl _)
theorem ahT_le (l : List ByteArray) (last : Option ByteArray) : ahT l last ≤ l.length := List.length_filter_le _ _
theorem sdGo_spec (l : List ByteArray) : ∀ (n : Nat) (out : List ByteArray), ahT l out.getLast? < n → (out.Pairwise fun a b => ltS a b = true) → (∀ e ∈ out, e ∈ l) → (∀ x ∈ l, okT out.getLast? x = false → x ∈ out) →
    ((sdGo l n out).Pairwise fun a b => ltS a b = true) ∧ (∀ e ∈ sdGo l n out, e ∈ l) ∧ ∀ x ∈ l, x ∈ sdGo l n out
  | 0, _, h, _, _, _ => absurd h (Nat.not_lt_zero _)
  | n + 1, out, h, h1, h2, h3 => by
    rw [sdGo]
    cases hb : l.foldl (pickS out.getLast?) none with
    | none =>
      refine ⟨h1, h2, fun x hx => ?_⟩
      cases ho : okT out.getLast? x
      · exact h3 x hx ho
      · obtain ⟨e, he, _⟩ := (pick_min l out.getLast? none).2 x hx ho
        rw [hb] at he; cases he
    | some e =>
      obtain ⟨hm, hok⟩ := pick_mem l out.getLast? none (fun _ h => by cases h) e hb
      have hel : e ∈ l := by
        rcases hm with hm | hm
        · cases hm
        · exact hm
      have hle : (out ++ [e]).getLast? = some e := by simp
      refine sdGo_spec l n (out ++ [e]) ?_ ?_ ?_ ?_
      · rw [hle]; have := ahT_lt hb; omega
      · rw [List.pairwise_append]
        refine ⟨h1, List.pairwise_singleton _ _, fun a ha b hb' => ?_⟩
        rw [List.mem_singleton] at hb'; subst hb'
        rcases List.eq_nil_or_concat out with rfl | ⟨out', z, rfl⟩
        · cases ha
        · rw [List.concat_eq_append] at *
          rw [List.getLast?_append] at hok
          have hz : ltS z b = true := hok
          rcases List.mem_append.1 ha with ha | ha
          · exact ltS_trans ((List.pairwise_append.1 h1).2.2 a ha z (by simp)) hz
          · rw [List.mem_singleton] at ha; subst ha; exact hz
      · intro a ha
        rcases List.mem_append.1 ha with ha | ha
        · exact h2 a ha
        · rw [List.mem_singleton] at ha; subst ha; exact hel
      · intro x hx ho
        rw [hle] at ho
        have ho : ltS e x = false := ho
        cases ho' : okT out.getLast? x
        · exact List.mem_append_left _ (h3 x hx ho')
        · obtain ⟨e', he', hmn⟩ := (pick_min l out.getLast? none).2 x hx ho'
          rw [hb] at he'; cases he'
          rw [ltS_total ho hmn]; simp
theorem sdL_spec (l : List ByteArray) : ((sdL l).Pairwise fun a b => ltS a b = true) ∧ ∀ x, x ∈ sdL l ↔ x ∈ l := by
  obtain ⟨h1, h2, h3⟩ := sdGo_spec l (l.length + 1) [] (by have := ahT_le l ([] : List ByteArray).getLast?; omega) .nil (fun _ h => by cases h) (fun x _ h => by simp [okT] at h)
  exact ⟨h1, fun x => ⟨h2 x, h3 x⟩⟩

theorem ltS_to (a b : ByteArray) : ltS a b = decide (toBy a < toBy b) := by
  unfold ltS toBy
  rw [bytesLess_eq, ByteArray.toList_eq, ByteArray.toList_eq]
theorem compact_mem {zs : List (List UInt8)} (x : List UInt8) : x ∈ Lib.compact zs ↔ x ∈ zs := by
  unfold Lib.compact Lib.compactUpTo
  rw [List.mem_map]
  constructor
  · rintro ⟨j, hj, rfl⟩
    have hj' : j < zs.length := List.mem_range.1 (List.mem_filter.1 hj).1
    rw [getElem!_pos _ j (by simpa using hj')]
    simp
  · intro hx
    obtain ⟨i, hi, rfl⟩ := List.getElem_of_mem hx
    have key : ∀ i (hi : i < zs.length), ∃ j, j ∈ (List.range zs.length).filter (Lib.keeps zs.toArray) ∧ zs.toArray[j]! = zs[i] := by
      intro i
      induction i using Nat.strongRecOn with
      | ind i ih =>
        intro hi
        have hg : zs.toArray[i]! = zs[i] := by rw [getElem!_pos _ i (by simpa using hi)]; simp
        by_cases hk : Lib.keeps zs.toArray i = true
        · exact ⟨i, List.mem_filter.2 ⟨List.mem_range.2 hi, hk⟩, hg⟩
        · unfold Lib.keeps at hk
          simp only [decide_eq_true_eq, not_or, ne_eq, Decidable.not_not] at hk
          obtain ⟨j, hj, he⟩ := ih (i - 1) (by omega) (by omega)
          refine ⟨j, hj, ?_⟩
          rw [he, ← hg, hk.2, getElem!_pos _ (i - 1) (by simp; omega)]; simp
    obtain ⟨j, hj, he⟩ := key i hi
    exact ⟨j, hj, he⟩
theorem compact_sorted {zs : List (List UInt8)} (h : zs.Pairwise fun a b => a ≤ b) : (Lib.compact zs).Pairwise fun a b => a < b := by
  unfold Lib.compact Lib.compactUpTo
  rw [List.pairwise_map, List.pairwise_filter]
  have hr := List.pairwise_lt_range (n := zs.length)
  refine hr.imp_of_mem fun {i j} hi hj hij _ hk => ?_
  have hi' := List.mem_range.1 hi
  have hj' := List.mem_range.1 hj
  rw [List.pairwise_iff_getElem] at h
  unfold Lib.keeps at hk
  simp only [decide_eq_true_eq, ne_eq] at hk
  have hne : zs.toArray[j]! ≠ zs.toArray[j - 1]! := by
    rcases hk with hk | hk
    · omega
    · exact hk
  rw [getElem!_pos _ j (by simpa using hj'), getElem!_pos _ (j - 1) (by simp; omega)] at hne
  rw [getElem!_pos _ i (by simpa using hi'), getElem!_pos _ j (by simpa using hj')]
  simp only [List.getElem_toArray] at hne ⊢
  have h1 : zs[j - 1]'(by omega) ≤ zs[j] := h (j - 1) j (by omega) hj' (by omega)
  have h2 : zs[i] ≤ zs[j - 1]'(by omega) := by
    by_cases he : i = j - 1
    · subst he; exact List.le_refl _
    · exact h i (j - 1) hi' (by omega) (by omega)
  have h3 : zs[j - 1]'(by omega) < zs[j] := by
    rcases Decidable.em (zs[j - 1]'(by omega) < zs[j]) with h4 | h4
    · exact h4
    · exact absurd (List.le_antisymm (List.not_lt.1 h4) h1) hne
  rcases Decidable.em (zs[i] < zs[j]) with h4 | h4
  · exact h4
  · exact absurd h3 (List.not_lt.2 (List.le_trans (List.not_lt.1 h4) h2))
/-- The library's way and the reference's. -/
theorem sd_eq (l : List ByteArray) : cmpL (srtL l) = sdL l := by
  obtain ⟨h1, h2⟩ := sdL_spec l
  have hp : ((l.map toBy).mergeSort fun x y => decide (x ≤ y)).Perm (l.map toBy) := List.mergeSort_perm _ _
  have hs : ((l.map toBy).mergeSort fun x y => decide (x ≤ y)).Pairwise fun a b => a ≤ b := by
    have := List.pairwise_mergeSort (le := fun x y : List UInt8 => decide (x ≤ y)) (fun a b c h k => by simp only [decide_eq_true_eq] at *; exact List.le_trans h k) (fun a b => by
      simp only [Bool.or_eq_true, decide_eq_true_eq]; exact List.le_total a b) (l.map toBy)
    exact this.imp fun h => by simpa using h
  have hc : cmpL (srtL l) = (Lib.compact ((l.map toBy).mergeSort fun x y => decide (x ≤ y))).map ofBy := by
    unfold cmpL srtL; rw [map_to_of]
  rw [hc]
  refine sorted_ext (r := ltS) ltS_irrefl (fun _ _ _ => ltS_trans) ?_ h1 fun x => ?_
  · rw [List.pairwise_map]
    exact (compact_sorted hs).imp fun h => by rw [ltS_to, toBy_ofBy, toBy_ofBy]; simpa using h
  · rw [h2, List.mem_map]
    constructor
    · rintro ⟨y, hy, rfl⟩
      obtain ⟨z, hz, rfl⟩ := List.mem_map.1 (hp.subset ((compact_mem y).1 hy))
      exact hz
    · intro hx
      exact ⟨toBy x, (compact_mem _).2 (hp.symm.subset (List.mem_map.2 ⟨x, hx, rfl⟩)), rfl⟩
end Go.Proofs.Ytdmhfiofgioihaa

namespace Go.Proofs.Ytdmhfiofgioihaa
open Go.RowKit
set_option maxRecDepth 100000

set_option maxHeartbeats 4000000 in
theorem r10sorted_any (l : List ByteArray) (v : Value) (w : World) (h : SlP w w.heap.size 1 StE v l) (hN : l.length ≤ 900000) :
    Calls Try.prog 42 #[v] w (RetO w 9 1 (fun _ => StE) (sdL l)) := by
  have HSZ : Hid (∀ x ∈ l, x.size ≤ Big) := fun x hx => by
    obtain ⟨_, _, _, _, _, h3⟩ := h
    obtain ⟨b, off, _, _, hc⟩ := h3 (by rintro rfl; cases hx)
    obtain ⟨j, hj⟩ := List.getElem?_of_mem hx
    obtain ⟨cs, ⟨_, hok⟩, _⟩ := hc j x hj
    exact hok
  obtain ⟨A, c, rfl, l1, l2, l3⟩ := h
  unfold Big at l2
  go_enter Try.func42, Try.ntmps42
  go_wp2_with fail
  go_loopg [3] (l.length + 1) (fun n vo wr => ∃ out : List ByteArray, OwnP wr w.heap.size 9 1 StE vo out ∧ Below w.heap.size w wr ∧ Hid (sdGo l n out = sdL l) ∧ Hid (ahT l out.getLast? < n) ∧ Hid (out.length + n ≤ l.length + 1))
  case atStart => exact ⟨[], OwnP.nil, Below.refl _ _, rfl, by have := ahT_le l ([] : List ByteArray).getLast?; unfold Hid; omega, by unfold Hid; simp⟩
  case round =>
    obtain ⟨out, hown, hb, hgo, hah, hle⟩ := hrel
    have hol : out.length ≤ 900000 := by have := hle.out; have := hah.out; omega
    obtain ⟨Ae, ce, rfl⟩ := hown.shape
    have HSP := hid (hown.sl (by unfold Big; omega))
    have HOW := hid hown
    clear hown
    go_wp2_with fail
    obtain ⟨wo, rfl⟩ : ∃ wo : World, wo = wr := ⟨_, rfl⟩
    go_loopw [4, 5, 9] (fun vb vs i wr => ∃ k : Nat, k ≤ l.length ∧ i = .int .i64 k ∧ vb = .string (((l.take k).foldl (pickS out.getLast?) none).getD ByteArray.empty) ∧ vs = .bool ((l.take k).foldl (pickS out.getLast?) none).isSome ∧ Below wo.heap.size wo wr) (fun _ _ i _ => l.length - (intOf i).toNat)
    case atStart => exact ⟨0, Nat.zero_le _, rfl, rfl, rfl, Below.refl _ _⟩
    case round =>
      obtain ⟨k, hk, rfl, rfl, rfl, hbr⟩ := hrel
      have hs2 := hbr.size
      have hB : Below w.heap.size w wr := hb.trans (hbr.mono hb.size)
      by_cases hlt : k < l.length
      · obtain ⟨x, hx⟩ : ∃ x, l[k]? = some x := ⟨_, List.getElem?_eq_getElem hlt⟩
        obtain ⟨b, off, rfl, hbB, hc⟩ := l3 (by rintro rfl; simp at hlt)
        obtain ⟨cs, ⟨rfl, hok⟩, _, hu⟩ := hc k _ hx
        have e0 : wr.cell? ⟨b, off + k, none⟩ = some (.string x) := (hB.cell (p := ⟨b, off + k, none⟩) hbB).trans (by simpa using hu 0 _ rfl)
        have hsz := hB.size
        have q0 := far_cell (B := wr.heap.size) e0 (by omega)
        have HE0 : Hid (∀ m', Below wr.heap.size wr m' → m'.cell? ⟨b, off + k, none⟩ = some (.string x)) := fun m' hm => (hm.cell (p := ⟨b, off + k, none⟩) (by show b < _; omega)).trans e0
        have hut := pick_take hx out.getLast? none
        clear hu hc l3 hx e0 hgo hah hle
        rcases nil_or_snoc out with rfl | ⟨out', z, rfl⟩
        · generalize hbst : (l.take k).foldl (pickS ([] : List ByteArray).getLast?) none = bst at *
          cases bst with
          | none =>
            have HX : Hid ((l.take (k + 1)).foldl (pickS ([] : List ByteArray).getLast?) none = some x) := by unfold Hid; rw [hut]; simp [pickS, pickC, okT]
            clear hut hbst
            go_upto_region 6 with (fail)
            refine wp_region_far wr.heap.size (by kernel_rfl) (by kernel_rfl) ?_
            repeat (go_big_quiet_step (fail))
            refine wpQuiet_nil ?_
            intro wq hbq
            have e0 := HE0.out wq hbq
            go_wp2_with fail
            go_roundw
            case rel => exact ⟨k + 1, by omega, by go_num, by rw [HX.out] <;> rfl, by rw [HX.out] <;> rfl, hbr.trans (hbq.mono (by omega))⟩
            case measure => simp [intOf]; omega
          | some y =>
            rcases hyx : Op.bytesLess x.toList y.toList
            · have HX : Hid ((l.take (k + 1)).foldl (pickS ([] : List ByteArray).getLast?) none = some y) := by unfold Hid; rw [hut]; simp [pickS, pickC, okT, ltS, hyx]
              clear hut hbst
              simp only [Option.getD_some, Option.isSome_some] at *
              go_upto_region 6 with (fail)
              refine wp_region_far wr.heap.size (by kernel_rfl) (by kernel_rfl) ?_
              repeat (go_big_quiet_step (fail))
              refine wpQuiet_nil ?_
              intro wq hbq
              go_wp2_with fail
              go_roundw
              case rel => exact ⟨k + 1, by omega, by go_num, by rw [HX.out] <;> rfl, by rw [HX.out] <;> rfl, hbr.trans (hbq.mono (by omega))⟩
              case measure => simp [intOf]; omega
            · have HX : Hid ((l.take (k + 1)).foldl (pickS ([] : List ByteArray).getLast?) none = some x) := by unfold Hid; rw [hut]; simp [pickS, pickC, okT, ltS, hyx]
              clear hut hbst
              simp only [Option.getD_some, Option.isSome_some] at *
              go_upto_region 6 with (fail)
              refine wp_region_far wr.heap.size (by kernel_rfl) (by kernel_rfl) ?_
              repeat (go_big_quiet_step (fail))
              refine wpQuiet_nil ?_
              intro wq hbq
              have e0 := HE0.out wq hbq
              go_wp2_with fail
              go_roundw
              case rel => exact ⟨k + 1, by omega, by go_num, by rw [HX.out] <;> rfl, by rw [HX.out] <;> rfl, hbr.trans (hbq.mono (by omega))⟩
              case measure => simp [intOf]; omega
        · have hgl : (out' ++ [z]).getLast? = some z := by simp
          rw [hgl] at hut ⊢
          obtain ⟨np, hnp, hne, hnp1⟩ : ∃ np : Nat, (out' ++ [z]).length = np + 1 ∧ (((np : Int) + 1) == 0) = false ∧ np < 900000 := ⟨out'.length, by simp, by simp; omega, by simp at hol; omega⟩
          obtain ⟨A9, c9, hv9, _, _, hcz⟩ := HSP.out
          simp only [Value.slice.injEq] at hv9
          obtain ⟨rfl, _, rfl⟩ := hv9
          obtain ⟨bz, oz, rfl, hbz, hcz⟩ := hcz (by simp)
          have hzn : (out' ++ [z])[np]? = some z := by
            have e : np = out'.length := by simpa using hnp.symm
            rw [e]; simp
          obtain ⟨cz, ⟨rfl, hokz⟩, _, huz⟩ := hcz np z hzn
          have w0 := far_cell (B := wr.heap.size) ((hbr.cell (p := ⟨bz, oz + np, none⟩) hbz).trans (by simpa using huz 0 _ rfl)) (by omega)
          have hwr : IntKind.i64.wrap (((np + 1 : Nat) : Int) - 1) = (np : Int) := by rw [show (((np + 1 : Nat) : Int)) - 1 = (np : Int) by omega]; exact IntWalk.i64_in _ (by omega)
          have hne2 : ((((np + 1 : Nat) : Int)) == 0) = false := by simp; omega
          have hgt := ltS_gt z x
          clear hcz huz hzn
          rw [hnp]
          have HNP := hid hnp
          clear hnp
          have hpk0 : ∀ b : Option ByteArray, pickC (some z) b x = (ltS z x && (match b with | none => true | some c => ltS x c)) := fun _ => rfl
          generalize hbst : (l.take k).foldl (pickS (some z)) none = bst at *
          have hpk := hpk0 bst
          clear hpk0
          rw [hgt] at hpk
          rcases g1 : Op.bytesLess x.toList z.toList
          case true =>
            have HX : Hid ((l.take (k + 1)).foldl (pickS (some z)) none = bst) := by unfold Hid; rw [hut, pickS, hpk, g1]; simp
            clear hut hpk hgt hbst
            go_upto_region 6 with (fail)
            refine wp_region_far wr.heap.size (by kernel_rfl) (by kernel_rfl) ?_
            repeat (go_big_quiet_step (fail))
            refine wpQuiet_nil ?_
            intro wq hbq
            go_wp2_with fail
            go_roundw
            case rel => exact ⟨k + 1, by omega, by go_num, by rw [HX.out] <;> rfl, by rw [HX.out] <;> rfl, hbr.trans (hbq.mono (by omega))⟩
            case measure => simp [intOf]; omega
          rcases g2 : (x.toList == z.toList)
          case true =>
            have HX : Hid ((l.take (k + 1)).foldl (pickS (some z)) none = bst) := by unfold Hid; rw [hut, pickS, hpk, g2]; simp
            have g3 : x.toList = z.toList := by simpa using g2
            clear hut hpk hgt hbst
            go_upto_region 6 with (fail)
            refine wp_region_far wr.heap.size (by kernel_rfl) (by kernel_rfl) ?_
            repeat (go_big_quiet_step (fail))
            refine wpQuiet_nil ?_
            intro wq hbq
            go_wp2_with fail
            go_roundw
            case rel => exact ⟨k + 1, by omega, by go_num, by rw [HX.out] <;> rfl, by rw [HX.out] <;> rfl, hbr.trans (hbq.mono (by omega))⟩
            case measure => simp [intOf]; omega
          have g3 : ¬ x.toList = z.toList := by simpa using g2
          cases bst with
          | none =>
            have HX : Hid ((l.take (k + 1)).foldl (pickS (some z)) none = some x) := by unfold Hid; rw [hut, pickS, hpk, g1, g2]; rfl
            clear hut hpk hgt hbst
            go_upto_region 6 with (fail)
            refine wp_region_far wr.heap.size (by kernel_rfl) (by kernel_rfl) ?_
            repeat (go_big_quiet_step (fail))
            refine wpQuiet_nil ?_
            intro wq hbq
            have e0 := HE0.out wq hbq
            go_wp2_with fail
            go_roundw
            case rel => exact ⟨k + 1, by omega, by go_num, by rw [HX.out] <;> rfl, by rw [HX.out] <;> rfl, hbr.trans (hbq.mono (by omega))⟩
            case measure => simp [intOf]; omega
          | some y =>
            rcases hyx : Op.bytesLess x.toList y.toList
            · have HX : Hid ((l.take (k + 1)).foldl (pickS (some z)) none = some y) := by unfold Hid; rw [hut, pickS, hpk, g1, g2]; simp [ltS, hyx]
              clear hut hpk hgt hbst
              simp only [Option.getD_some, Option.isSome_some] at *
              go_upto_region 6 with (fail)
              refine wp_region_far wr.heap.size (by kernel_rfl) (by kernel_rfl) ?_
              repeat (go_big_quiet_step (fail))
              refine wpQuiet_nil ?_
              intro wq hbq
              go_wp2_with fail
              go_roundw
              case rel => exact ⟨k + 1, by omega, by go_num, by rw [HX.out] <;> rfl, by rw [HX.out] <;> rfl, hbr.trans (hbq.mono (by omega))⟩
              case measure => simp [intOf]; omega
            · have HX : Hid ((l.take (k + 1)).foldl (pickS (some z)) none = some x) := by unfold Hid; rw [hut, pickS, hpk, g1, g2]; simp [ltS, hyx]
              clear hut hpk hgt hbst
              simp only [Option.getD_some, Option.isSome_some] at *
              go_upto_region 6 with (fail)
              refine wp_region_far wr.heap.size (by kernel_rfl) (by kernel_rfl) ?_
              repeat (go_big_quiet_step (fail))
              refine wpQuiet_nil ?_
              intro wq hbq
              have e0 := HE0.out wq hbq
              go_wp2_with fail
              go_roundw
              case rel => exact ⟨k + 1, by omega, by go_num, by rw [HX.out] <;> rfl, by rw [HX.out] <;> rfl, hbr.trans (hbq.mono (by omega))⟩
              case measure => simp [intOf]; omega
      · obtain rfl : k = l.length := by omega
        rw [List.take_of_length_le (Nat.le_refl _)]
        obtain ⟨n, rfl⟩ : ∃ n, gk = n + 1 := ⟨gk - 1, by have := hah.out; omega⟩
        have hgo' := hgo.out
        rw [sdGo] at hgo'
        generalize hbst : l.foldl (pickS out.getLast?) none = bst at *
        cases bst with
        | none =>
          have HF : Hid (out = sdL l) := hgo'
          clear hgo' hgo hbst l3
          go_wp2_with fail
          go_ret
          exact ⟨_, rfl, by rw [← HF.out]; exact HOW.out.grow hbr, hB⟩
        | some y =>
          have HF : Hid (sdGo l n (out ++ [y]) = sdL l) := hgo'
          have HM := hid (pick_mem l out.getLast? none (fun _ h => by cases h) y hbst)
          have HA : Hid (ahT l (out ++ [y]).getLast? < n) := by
            have h1 := ahT_lt hbst
            have h2 := hah.out
            unfold Hid; rw [List.getLast?_concat]; omega
          have HY : Hid (StE y [.string y]) := ⟨rfl, by
            rcases HM.out.1 with h | h
            · cases h
            · exact HSZ.out y h⟩
          have HL : Hid (out.length + [y].length ≤ Few) := by unfold Hid Few; simp; omega
          have hlo := hle.out
          have hown := HOW.out.grow hbr
          clear hgo' hgo hbst l3 hah
          simp only [Option.getD_some, Option.isSome_some]
          go_wp2_with (at_builtin; go_loud ((with_reducible refine wpList_few rfl (.tmp 48) (.tmp 50) _ rfl eiStr (by decide) (by decide) (fun _ _ h => StE.one h) rfl (hown.alloc _) rfl (SlP.one (x := y) HY.out rfl _ rfl) HL.out (by rw [World.size_alloc]; have := hB.size; omega) ?_); intro v1 w1 hown1 hb1 _))
          go_roundg n
          case measure => omega
          case rel => exact ⟨out ++ [y], hown1, (hB.alloc hB.size _).trans hb1, HF.out, HA.out, by unfold Hid; simp; omega⟩

set_option maxHeartbeats 4000000 in
theorem r10texts_any (t : Tr) (w : World) (ve vk : Value) (h : t.rd w w.heap.size ve vk) (hN : t.es.length ≤ 900000) :
    Calls Try.prog 21 #[.agg #[ve, vk]] w (RetO w 9 1 (fun _ => StE) (sdL (t.es.map (·.s)))) := by
  obtain ⟨es, ks⟩ := t
  rw [rd_iff] at h
  obtain ⟨⟨A, m, rfl, c1, c2, c3⟩, ⟨A0, n0, rfl, d1, d2, d3⟩⟩ := h
  unfold Big at c2 d2
  simp only [Tr.es] at hN ⊢
  have hb0 : Below w.heap.size w (w.alloc (.cells #[.slice A es.length m, .slice A0 ks.length n0] 25)) := (Below.refl _ w).alloc (Nat.le_refl _) _
  go_enter Try.func21, Try.ntmps21
  go_wp2_with fail
  go_loopw [3, 8] (fun v i wr => ∃ k : Nat, k ≤ es.length ∧ i = .int .i64 k ∧ OwnP wr (w.heap.size + 1) 9 1 StE v ((es.take k).map (·.s)) ∧ Below (w.heap.size + 1) (w.alloc (.cells #[.slice A es.length m, .slice A0 ks.length n0] 25)) wr) (fun _ i _ => es.length - (intOf i).toNat)
  case atStart => exact ⟨0, Nat.zero_le _, rfl, OwnP.nil, Below.refl _ _⟩
  case round =>
    obtain ⟨k, hk, rfl, hown, hb⟩ := hrel
    have hsz := hb.size
    simp only [World.size_alloc] at hsz
    have hB0 : Below w.heap.size w wr := hb0.trans (hb.mono (by omega))
    by_cases hlt : k < es.length
    · obtain ⟨x, hx⟩ : ∃ x, es[k]? = some x := ⟨_, List.getElem?_eq_getElem hlt⟩
      obtain ⟨b, off, rfl, hbB, hc⟩ := c3 (by rintro rfl; simp at hlt)
      obtain ⟨cs, ⟨rfl, hok⟩, _, hu⟩ := hc k _ hx
      have e2 : wr.cell? ⟨b, off + k * 4 + 2, none⟩ = some (.string x.s) := (hB0.cell hbB).trans (hu 2 _ rfl)
      have z0 : wr.cell? ⟨w.heap.size, 0, none⟩ = some (.slice (some ⟨b, off, none⟩) es.length m) := by rw [hb.cell (p := ⟨w.heap.size, 0, none⟩) (by simp)]; simp
      have HX : Hid ((es.take (k + 1)).map (·.s) = (es.take k).map (·.s) ++ [x.s]) := by unfold Hid; rw [List.take_add_one, hx]; simp
      have HL : Hid (((es.take k).map (·.s)).length + [x.s].length ≤ Few) := by unfold Hid Few; simp; omega
      have HKY : Hid (StE x.s [.string x.s]) := ⟨rfl, hok.s⟩
      clear hu hc c3 hx hb0 hok d3
      go_wp2_with (at_builtin; go_loud ((with_reducible refine wpList_few rfl (.tmp 11) (.tmp 18) _ rfl eiStr (by decide) (by decide) (fun _ _ h => StE.one h) rfl (hown.alloc _) rfl (SlP.one (x := x.s) HKY.out rfl _ rfl) HL.out (by rw [World.size_alloc]; omega) ?_); intro v1 w1 hown1 hb1 _; have hb2 := ((Below.refl (w.heap.size + 1) wr).alloc (by omega) _).trans hb1))
      go_roundw
      case rel => exact ⟨k + 1, by omega, by go_num, by rw [HX.out]; exact hown1, hb.trans hb2⟩
      case measure => simp [intOf]; omega
    · obtain rfl : k = es.length := by omega
      rw [List.take_of_length_le (Nat.le_refl _)] at hown
      have hLl : (es.map (·.s)).length ≤ 900000 := by simp; omega
      clear c3 d3
      obtain ⟨L, hL⟩ : ∃ L, L = es.map (·.s) := ⟨_, rfl⟩
      rw [← hL] at hown hLl
      have HLL := hid hL
      clear hL
      have HS := hid (hown.sl (by unfold Big; omega))
      go_wp2_with fail
      refine (r10sorted_any L _ wr HS.out hLl).mono ?_
      rintro e w2 ⟨v2, rfl, ho2, hb2⟩
      go_wp2_with fail
      go_ret
      exact ⟨v2, rfl, by rw [← HLL.out]; exact ho2.mono (show w.heap.size ≤ wr.heap.size by omega), hB0.trans (hb2.mono (show w.heap.size ≤ wr.heap.size by omega))⟩
end Go.Proofs.Ytdmhfiofgioihaa

namespace Go.Proofs
open Go.Shelf
def Try.sortRun_ren : Go.Shelf.Ren := ⟨fun | 6 => 103 | 15 => 70 | 14 => 123 | 28 => 97 | 29 => 98 | 20 => 130 | 21 => 131 | 22 => 132 | 23 => 133 | 24 => 134 | 25 => 135 | 26 => 136 | 27 => 137 | 46 => 139 | 47 => 117 | 48 => 118 | 49 => 140 | 50 => 141 | 57 => 142 | n => n, fun | 22 => 98 | 24 => 132 | 25 => 139 | 3 => 3 | 39 => 96 | 0 => 0 | 53 => 129 | 55 => 131 | 4 => 4 | 46 => 121 | 45 => 120 | 50 => 126 | 5 => 5 | 9 => 9 | 66 => 148 | 70 => 152 | 76 => 160 | 77 => 161 | n => n, fun | n => n⟩
theorem Try.sortRun : Go.Proofs.SlLaysF0.n6 Try.prog Try.sortRun_ren := {
  mixed := by kernel_rfl
  f6 := ⟨Try.f103.name, by decide, Try.func103.trans (congrArg some (by kernel_rfl))⟩
  f14 := ⟨Try.f123.name, by decide, Try.func123.trans (congrArg some (by kernel_rfl))⟩
  f15 := Try.func70.trans (congrArg some (by kernel_rfl))
  f20 := ⟨Try.f130.name, by decide, Try.func130.trans (congrArg some (by kernel_rfl))⟩
  f21 := ⟨Try.f131.name, by decide, Try.func131.trans (congrArg some (by kernel_rfl))⟩
  f22 := ⟨Try.f132.name, by decide, Try.func132.trans (congrArg some (by kernel_rfl))⟩
  f23 := ⟨Try.f133.name, by decide, Try.func133.trans (congrArg some (by kernel_rfl))⟩
  f24 := ⟨Try.f134.name, by decide, Try.func134.trans (congrArg some (by kernel_rfl))⟩
  f25 := ⟨Try.f135.name, by decide, Try.func135.trans (congrArg some (by kernel_rfl))⟩
  f26 := ⟨Try.f136.name, by decide, Try.func136.trans (congrArg some (by kernel_rfl))⟩
  f27 := ⟨Try.f137.name, by decide, Try.func137.trans (congrArg some (by kernel_rfl))⟩
  f28 := Try.func97.trans (congrArg some (by kernel_rfl))
  f29 := Try.func98.trans (congrArg some (by kernel_rfl))
  f46 := ⟨Try.f139.name, by decide, Try.func139.trans (congrArg some (by kernel_rfl))⟩
  f47 := Try.func117.trans (congrArg some (by kernel_rfl))
  f48 := Try.func118.trans (congrArg some (by kernel_rfl))
  f49 := ⟨Try.f140.name, by decide, Try.func140.trans (congrArg some (by kernel_rfl))⟩
  f50 := ⟨Try.f141.name, by decide, Try.func141.trans (congrArg some (by kernel_rfl))⟩
  f57 := ⟨Try.f142.name, by decide, Try.func142.trans (congrArg some (by kernel_rfl))⟩
  t0 := Try.underlying0
  a0 := Try.isAgg0
  z0 := Try.sizeOf0
  v0 := Try.zeroValue0
  t3 := Try.underlying3
  a3 := Try.isAgg3
  z3 := Try.sizeOf3
  v3 := Try.zeroValue3
  t4 := Try.underlying4
  a4 := Try.isAgg4
  z4 := Try.sizeOf4
  v4 := Try.zeroValue4
  t5 := Try.underlying5
  a5 := Try.isAgg5
  z5 := Try.sizeOf5
  v5 := Try.zeroValue5
  t9 := Try.underlying9
  a9 := Try.isAgg9
  z9 := Try.sizeOf9
  v9 := Try.zeroValue9
  t22 := Try.underlying98
  a22 := Try.isAgg98
  z22 := Try.sizeOf98
  v22 := Try.zeroValue98
  t25 := Try.underlying139
  a25 := Try.isAgg139
  z25 := Try.sizeOf139
  v25 := Try.zeroValue139
  t39 := Try.underlying96
  a39 := Try.isAgg96
  z39 := Try.sizeOf96
  v39 := Try.zeroValue96
  t45 := Try.underlying120
  a45 := Try.isAgg120
  z45 := Try.sizeOf120
  v45 := Try.zeroValue120
  t46 := Try.underlying121
  a46 := Try.isAgg121
  z46 := Try.sizeOf121
  v46 := Try.zeroValue121
  t50 := Try.underlying126
  a50 := Try.isAgg126
  z50 := Try.sizeOf126
  v50 := Try.zeroValue126
  t53 := Try.underlying129
  a53 := Try.isAgg129
  z53 := Try.sizeOf129
  v53 := Try.zeroValue129
  t55 := Try.underlying131
  a55 := Try.isAgg131
  z55 := Try.sizeOf131
  v55 := Try.zeroValue131
  t66 := Try.underlying148
  a66 := Try.isAgg148
  z66 := Try.sizeOf148
  v66 := Try.zeroValue148
  t70 := Try.underlying152
  a70 := Try.isAgg152
  z70 := Try.sizeOf152
  v70 := Try.zeroValue152
  t76 := Try.underlying160
  a76 := Try.isAgg160
  z76 := Try.sizeOf160
  v76 := Try.zeroValue160
  t77 := Try.underlying161
  a77 := Try.isAgg161
  z77 := Try.sizeOf161
  v77 := Try.zeroValue161 }
end Go.Proofs

namespace Go.Proofs.Ytdmhfiofgioihaa
open Go.RowKit Go.Sort
set_option maxRecDepth 100000

theorem heap_rowK {w : World} {g n : Nat} {os : Array Obj} {cur : Array Value} {e : TypeId} {fr : Nat × Nat} (F : Array Value) (hb : w.heap[g]? = some (.cells cur e fr)) :
    (grow (putRow id (Sort.ahead w n) g 0 F) os).heap[g]? = some (.cells (putCells id 0 F cur) e fr) := by
  have hg : g < w.heap.size := (Array.getElem?_eq_some_iff.1 hb).1
  rw [heap_grow_old _ _ (by simpa using hg)]
  simp [putRow, mapBlock, Sort.ahead, Array.getElem?_modify, hb, onCells]
theorem grownBy_rowK {w : World} {g n : Nat} {os : Array Obj} (F : Array Value) : w.grownBy (grow (putRow id (Sort.ahead w n) g 0 F) os) (some g) := by
  refine ⟨rfl, rfl, rfl, by simp, fun k hk hne => ?_⟩
  rw [heap_grow_old _ _ (by simpa using hk)]
  have : g ≠ k := fun e => hne (by rw [e])
  simp [putRow, mapBlock, Sort.ahead, Array.getElem?_modify, this]

def encR {α : Type} (en : α → Int × Int) (x : α) : List Value := [.int .i64 (en x).1, .int .i64 (en x).2]
theorem flatten_two {α : Type} [Inhabited α] (en : α → Int × Int) (l : List α) (j : Nat) (hj : j < l.length * 2) : (l.map (encR en)).flatten[j]? = some ((encR en l[j / 2]!)[j % 2]!) := by
  have hm : j % 2 < 2 := Nat.mod_lt _ (by omega)
  have hd : j = j / 2 * 2 + j % 2 := by omega
  have hf := flat_at (sz := 2) (l.map (encR en)) (fun cs h => by obtain ⟨x, _, rfl⟩ := List.mem_map.1 h; rfl) (j / 2) (j % 2) hm
  rw [← hd] at hf
  have hlt : j / 2 < l.length := by omega
  rw [hf, List.getElem?_map, List.getElem?_eq_getElem hlt]
  simp only [Option.map_some, Option.bind_some]
  rw [getElem!_pos l (j / 2) hlt]
  rcases (show j % 2 = 0 ∨ j % 2 = 1 by omega) with e | e <;> rw [e] <;> rfl

theorem sortRun_any {α : Type} [Inhabited α] (en : α → Int × Int) (cf : α → α → Int) (hO : SWO (ltOf cf)) (g : Nat) (eg : ∀ args w, (callFunc g args).run Try.prog w = .ok (.enter g args) w)
    (hc : ∀ (x y : α) (W : World), Calls Try.prog g #[.agg #[.int .i64 (en x).1, .int .i64 (en x).2], .agg #[.int .i64 (en y).1, .int .i64 (en y).2]] W fun e w' => e = .returned (.int .i64 (cf x y)) ∧ ∃ q os', w' = grow (W.drewN q) os')
    (ds : List α) (v : Value) (w : World) (base : Nat) (h : OwnP w base 132 2 RuE v (ds.map en)) (hl : ds.length ≤ 900000) (hbase : base ≤ w.heap.size) :
    Calls Try.prog 103 #[v, .func (.func g) #[] #[]] w fun e w' => e = .returned (.tuple #[]) ∧
      ∃ ts : List α, ts.Perm ds ∧ ts.Pairwise (fun a b => 0 ≤ cf b a) ∧ OwnP w' base 132 2 RuE v (ts.map en) ∧ Below base w w' := by
  obtain ⟨css, h1, h2, h3⟩ := h
  rcases h3 with ⟨rfl, hn⟩ | ⟨b, cap, cur, rfl, hb, hg, hnc, hm, hcs, ht⟩
  · obtain rfl : ds = [] := by simpa using hn
    refine (AnyF.slices_SortFunc_none Try.sortRun none 0 (.func (.func g) #[] #[]) w).mono ?_
    rintro e w' ⟨rfl, rfl⟩
    exact ⟨rfl, [], List.Perm.refl _, List.Pairwise.nil, OwnP.nil, Below.refl _ _⟩
  · have hlt : b < w.heap.size := (Array.getElem?_eq_some_iff.1 hg).1
    have hlen : (ds.map en).length = ds.length := List.length_map ..
    rw [hlen] at h2 hnc ht ⊢
    have hcss : css = ds.map (encR en) := by
      apply List.ext_getElem?
      intro j
      by_cases hj : j < ds.length
      · obtain ⟨cs, hcs, ⟨hcv, _⟩, _⟩ := h1.2 j (en ds[j]) (by rw [List.getElem?_map, List.getElem?_eq_getElem hj]; rfl)
        rw [hcs, List.getElem?_map, List.getElem?_eq_getElem hj, hcv]; rfl
      · rw [List.getElem?_eq_none (by rw [h1.1, hlen]; omega), List.getElem?_eq_none (by simp; omega)]
    have hok : ∀ x ∈ ds, I64 (en x).1 ∧ I64 (en x).2 := fun x hx => by
      obtain ⟨j, hj⟩ := List.getElem?_of_mem hx
      obtain ⟨cs, _, ⟨_, hr⟩, _⟩ := h1.2 j (en x) (by rw [List.getElem?_map, hj]; rfl)
      exact hr
    have hH : HoldsK (encR en) 2 w b 0 ds.toArray := by
      intro j hj
      have hj : j < ds.length * 2 := by simpa using hj
      refine ⟨?_, by simp [World.frozen?, hg]⟩
      rw [get_flatK _ _ _ _ (by simpa using hj), Nat.zero_add, show (w.cell? ⟨b, j, none⟩) = cur[j]? from by simp [World.cell?, hg]]
      have hf := flatten_two en ds j hj
      rw [← hcss, ← ht, List.getElem?_take_of_lt hj, Array.getElem?_toList] at hf
      rw [hf]; simp
    have hcon := AnyQ.slices_SortFunc Try.sortRun 2 Try.isAgg132 Try.sizeOf132 (encR en) (fun _ => rfl) (fun x u hu => by simp [encR] at hu; rcases hu with rfl | rfl <;> rfl) cf hO g #[] b 0 cap ds.toArray w eg
      (fun m os dk _ x y => hc x y _) hH hlt (by simp; omega)
    have hcon' : Calls Try.prog 103 #[.slice (some ⟨b, 0, none⟩) ds.length cap, .func (.func g) #[] #[]] w _ := hcon
    refine hcon'.mono ?_
    rintro e w' ⟨rfl, d', n, os, hp, hs, rfl⟩
    have hsz : d'.size = ds.length := by simpa using hp.1
    have hperm : d'.toList.Perm ds := by
      have := hp.2.2
      rw [show ds.toArray.extract 0 ds.toArray.size = ds.toArray by simp, show d'.extract 0 ds.toArray.size = d' by rw [show ds.toArray.size = d'.size by simp [hsz]]; simp] at this
      simpa using this
    refine ⟨rfl, d'.toList, hperm, ?_, ⟨d'.toList.map (encR en), ⟨by simp, fun j x hx => ?_⟩, ?_⟩, ?_⟩
    · rw [List.pairwise_iff_getElem]
      intro i j hi hj hij
      have hj' : j < d'.size := by simpa using hj
      have h4 := hs i j (Nat.zero_le _) hij (by simp; omega)
      rw [getElem!_pos d' i (by omega), getElem!_pos d' j hj'] at h4
      simp only [ltOf, decide_eq_false_iff_not, Int.not_lt] at h4
      simpa using h4
    · rw [List.getElem?_map] at hx
      obtain ⟨y, hy, rfl⟩ := Option.map_eq_some_iff.1 hx
      refine ⟨encR en y, by rw [List.getElem?_map, hy]; rfl, ⟨rfl, hok y (hperm.subset (List.mem_of_getElem? hy))⟩, rfl⟩
    · have hlm : (d'.toList.map en).length = ds.length := by simp [hsz]
      rw [hlm]
      refine ⟨by rw [flat_len (sz := 2) _ (fun cs h => by obtain ⟨x, _, rfl⟩ := List.mem_map.1 h; rfl)]; simp [hsz], .inr ⟨b, cap, _, rfl, hb, heap_rowK _ hg, hnc, hm, by simp [putCells, hcs], ?_⟩⟩
      apply List.ext_getElem?
      intro j
      by_cases hj : j < ds.length * 2
      · have hjc : j < cur.size := by rw [hcs]; have := Nat.mul_le_mul_right 2 hnc; omega
        rw [List.getElem?_take_of_lt hj, Array.getElem?_toList, flatten_two en d'.toList j (by simp [hsz]; omega)]
        simp only [putCells, Array.getElem?_mapIdx, Array.getElem?_eq_getElem hjc, Option.map_some]
        rw [if_pos ⟨Nat.zero_le _, by simp [hsz]; omega⟩, Nat.sub_zero, id, get_flatK _ _ _ _ (by rw [hsz]; exact hj)]
        simp only [Array.getElem!_toList]
      · rw [List.getElem?_take_eq_none (by omega), List.getElem?_eq_none (by rw [flat_len (sz := 2) _ (fun cs h => by obtain ⟨x, _, rfl⟩ := List.mem_map.1 h; rfl)]; simp [hsz]; omega)]
    · exact (Below.refl base w).grown (grownBy_rowK _) hbase (fun g hg => by cases hg; exact hb)
end Go.Proofs.Ytdmhfiofgioihaa

namespace Go.Proofs.Ytdmhfiofgioihaa
open Go.RowKit Go.Sort
set_option maxRecDepth 100000

theorem cmpLo_lt (x y : Int) : ltOf cmpI x y = decide (x < y) := by
  unfold ltOf cmpI
  by_cases h1 : x < y
  · simp [h1]
  · by_cases h2 : y < x <;> simp [h1, h2]
theorem swoI : SWO (ltOf cmpI) where
  irrefl x := by rw [cmpLo_lt]; simp
  trans x y z h1 h2 := by rw [cmpLo_lt] at *; simp at *; omega
  ntrans x y z h1 h2 := by rw [cmpLo_lt] at *; simp at *; omega
theorem cmpI_nonneg (a b : Int) : 0 ≤ cmpI b a ↔ a ≤ b := by
  unfold cmpI; split <;> (try split) <;> omega

theorem ofClo_any (x y : Int × Int) (W : World) : Calls Try.prog 104 #[.agg #[.int .i64 x.1, .int .i64 x.2], .agg #[.int .i64 y.1, .int .i64 y.2]] W fun e w' => e = .returned (.int .i64 (cmpI x.1 y.1)) ∧ ∃ q os', w' = grow (W.drewN q) os' := by
  go_enter Try.func104, Try.ntmps104
  go_wp2_with (go_at_call 105; refine (cmp64_any _ _ _).mono ?_; rintro e w' ⟨rfl, rfl⟩)
  go_ret
  exact ⟨rfl, 0, _, by rw [alloc_eq_grow, alloc_eq_grow, grow_grow]; rfl⟩

def dup (n : Int) : Int × Int := (n, n)
/-- Sorted numbers, joined: the reference's set. -/
theorem join_of {ns ts : List Int} (hn : ∀ x ∈ ns, numB x = true) (hp : ts.Perm ns) (hs : ts.Pairwise fun a b => a ≤ b) : joinL (ts.map dup) = ofL ns := by
  have hn' : ∀ x ∈ ns, 1 ≤ x ∧ x ≤ 1099511627776 := fun x hx => by simpa [numB] using hn x hx
  obtain ⟨a1, a2⟩ := ofL_right hn'
  obtain ⟨b1, b2⟩ := joinL_right (l := ts.map dup) (fun r hr => by
    obtain ⟨x, hx, rfl⟩ := List.mem_map.1 hr
    have := hn' x (hp.subset hx)
    exact ⟨this.1, Int.le_refl _, this.2⟩) (List.pairwise_map.2 hs)
  refine runs_eq _ _ none none b1 a1 fun n => ?_
  rw [b2, Bool.eq_iff_iff, a2]
  unfold hasL
  rw [List.any_eq_true]
  constructor
  · rintro ⟨r, hr, h⟩
    obtain ⟨x, hx, rfl⟩ := List.mem_map.1 hr
    have h2 : x ≤ n ∧ n ≤ x := by
      have h3 : (decide (x ≤ n) && decide (n ≤ x)) = true := h
      simpa using h3
    obtain rfl : n = x := by omega
    exact hp.subset hx
  · intro h
    exact ⟨dup n, List.mem_map.2 ⟨n, hp.symm.subset h, rfl⟩, by simp [dup, inR]⟩

set_option maxHeartbeats 1000000 in
theorem sof_any (ns : List Int) (v : Value) (w : World) (h : SlP w w.heap.size 1 InE v ns) (hn : ∀ x ∈ ns, numB x = true) (hN : ns.length ≤ 400000) :
    Calls Try.prog 74 #[v] w fun e w' => ∃ v', e = .returned (.tuple #[v', .int .i64 0]) ∧ OwnP w' w.heap.size 132 2 RuE v' (ofL ns) ∧ Below w.heap.size w w' := by
  obtain ⟨A, c, rfl, b1, b2, b3⟩ := h
  unfold Big at b2
  go_enter Try.func74, Try.ntmps74
  go_wp2_with fail
  go_loopw [4, 9] (fun v i wr => ∃ k : Nat, k ≤ ns.length ∧ i = .int .i64 k ∧ OwnP wr w.heap.size 132 2 RuE v ((ns.take k).map dup) ∧ Below w.heap.size w wr) (fun _ i _ => ns.length - (intOf i).toNat)
  case atStart => exact ⟨0, Nat.zero_le _, rfl, OwnP.nil, Below.refl _ _⟩
  case round =>
    obtain ⟨k, hk, rfl, hown, hb⟩ := hrel
    have hsz := hb.size
    by_cases hlt : k < ns.length
    · obtain ⟨x, hx⟩ : ∃ x, ns[k]? = some x := ⟨_, List.getElem?_eq_getElem hlt⟩
      obtain ⟨b, off, rfl, hbB, hc⟩ := b3 (by rintro rfl; simp at hlt)
      obtain ⟨cs, ⟨rfl, hok⟩, _, hu⟩ := hc k _ hx
      have e0 : wr.cell? ⟨b, off + k, none⟩ = some (.int .i64 x) := (hb.cell hbB).trans (by simpa using hu 0 _ rfl)
      have HB := hid (hn x (List.mem_of_getElem? hx))
      have HX : Hid ((ns.take (k + 1)).map dup = (ns.take k).map dup ++ [dup x]) := by unfold Hid; rw [take_succ' hx, List.map_append]; rfl
      have HRE : Hid (RuE (dup x) [.int .i64 x, .int .i64 x]) := ⟨rfl, hok, hok⟩
      have HL : Hid (((ns.take k).map dup).length + [dup x].length ≤ Few) := by unfold Hid Few; simp; omega
      clear hu hx hc b3 hok
      go_wp2_with (first | (go_at_call 102; refine (snum_any _ _).mono ?_; rw [HB.out]; rintro e w' ⟨rfl, rfl⟩) | (at_builtin; with_reducible refine wpList_few rfl (.tmp 16) (.tmp 20) _ rfl eiRun (by decide) (by decide) (fun _ _ h => h.one) rfl (hown.alloc _) rfl (SlP.one (x := dup x) HRE.out rfl _ rfl) HL.out (by rw [World.size_alloc]; omega) ?_; intro v1 w1 hown1 hb1 _))
      go_roundw
      case rel => exact ⟨k + 1, by omega, by go_num, by rw [HX.out]; exact hown1, hb.trans (((Below.refl _ _).alloc (by omega) _).trans hb1)⟩
      case measure => simp [intOf]; omega
    · obtain rfl : k = ns.length := by omega
      rw [List.take_of_length_le (Nat.le_refl _)] at hown
      have HC : Hid (∀ W base v, OwnP W base 132 2 RuE v (ns.map dup) → base ≤ W.heap.size → Calls Try.prog 103 #[v, .func (.func 104) #[] #[]] W fun e w' => e = .returned (.tuple #[]) ∧
        ∃ ts : List Int, ts.Perm ns ∧ ts.Pairwise (fun a b => a ≤ b) ∧ OwnP w' base 132 2 RuE v (ts.map dup) ∧ Below base W w') := fun W base v ho hbs =>
          (sortRun_any dup cmpI swoI 104 (enters_of Try.func104 (by kernel_rfl) rfl) (fun x y W => ofClo_any (dup x) (dup y) W) ns v W base ho (by omega) hbs).mono fun e w' ⟨he, ts, h1, h2, h3, h4⟩ =>
            ⟨he, ts, h1, h2.imp fun h => (cmpI_nonneg _ _).1 h, h3, h4⟩
      have HN := hid hn
      clear hn b3
      go_wp2_with fail
      refine (HC.out _ _ _ hown hsz).mono ?_
      rintro e w1 ⟨rfl, ts, hp, hs, ho1, hb1⟩
      have HJ := hid (join_of HN.out hp hs)
      have hs1 := hb1.size
      have hlen : ts.length = ns.length := hp.length_eq
      have hsl := ho1.sl (by rw [List.length_map, hlen]; unfold Big; omega)
      have hro : RunsOk (ts.map dup) := fun r hr => by
        obtain ⟨x, hx, rfl⟩ := List.mem_map.1 hr
        have := HN.out x (hp.subset hx)
        simp [numB] at this
        simp [dup]; omega
      have HRO := hid hro
      have HL1 : Hid ((ts.map dup).length ≤ 900000) := by unfold Hid; rw [List.length_map, hlen]; omega
      clear hp hs hro hlen ho1 hown
      go_wp2_with fail
      refine (sjoined_any (ts.map dup) _ w1 hsl HL1.out HRO.out).mono ?_
      rintro e w2 ⟨v2, rfl, ho2, hb2⟩
      rw [HJ.out] at ho2
      go_wp2_with fail
      go_ret2
      exact ⟨_, rfl, ho2.mono (by omega), (hb.trans hb1).trans (hb2.mono (by omega))⟩
end Go.Proofs.Ytdmhfiofgioihaa

namespace Go.Proofs.Ytdmhfiofgioihaa
open Go.RowKit Go.Sort
set_option maxRecDepth 100000

def cmpR (x y : Int × Int) : Int := cmpI x.1 y.1
theorem cmpR_lt (x y : Int × Int) : ltOf cmpR x y = decide (x.1 < y.1) := cmpLo_lt x.1 y.1
theorem swoR : SWO (ltOf cmpR) where
  irrefl x := by rw [cmpR_lt]; simp
  trans x y z h1 h2 := by rw [cmpR_lt] at *; simp at *; omega
  ntrans x y z h1 h2 := by rw [cmpR_lt] at *; simp at *; omega
theorem unionClo_any (x y : Int × Int) (W : World) : Calls Try.prog 109 #[.agg #[.int .i64 x.1, .int .i64 x.2], .agg #[.int .i64 y.1, .int .i64 y.2]] W fun e w' => e = .returned (.int .i64 (cmpR x y)) ∧ ∃ q os', w' = grow (W.drewN q) os' := by
  go_enter Try.func109, Try.ntmps109
  go_wp2_with (go_at_call 105; refine (cmp64_any _ _ _).mono ?_; rintro e w' ⟨rfl, rfl⟩)
  go_ret
  exact ⟨rfl, 0, _, by rw [alloc_eq_grow, alloc_eq_grow, grow_grow]; rfl⟩

theorem runsOk_of {l : List (Int × Int)} (h : ∀ r ∈ l, runOk r) : RunsOk l := fun r hr => by
  have := h r hr; unfold runOk at this; omega
theorem runs_ok' : ∀ (l : List (Int × Int)) (p : Option Int), runsR p l = true → ∀ r ∈ l, runOk r
  | x :: l, p, h, r, hr => by
    rw [runsR_iff] at h
    rcases List.mem_cons.1 hr with rfl | hr
    · exact h.1
    · exact runs_ok' l _ h.2.2 r hr
/-- Runs of both, sorted and joined: the reference's union. -/
theorem join_union {a b ts : List (Int × Int)} (ha : runsR none a = true) (hb : runsR none b = true) (hp : ts.Perm (a ++ b)) (hs : ts.Pairwise fun x y => x.1 ≤ y.1) : joinL ts = byL a b 0 := by
  have oa := runs_ok' a none ha
  have ob := runs_ok' b none hb
  have ot : ∀ r ∈ ts, runOk r := fun r hr => by
    rcases List.mem_append.1 (hp.subset hr) with h | h
    · exact oa r h
    · exact ob r h
  obtain ⟨a1, a2⟩ := joinL_right ot hs
  obtain ⟨b1, b2⟩ := byL_right 0 oa ob
  refine runs_eq _ _ none none a1 b1 fun n => ?_
  rw [a2, b2]
  have : hasL ts n = hasL (a ++ b) n := by
    unfold hasL
    rw [Bool.eq_iff_iff, List.any_eq_true, List.any_eq_true]
    exact ⟨fun ⟨r, h1, h2⟩ => ⟨r, hp.subset h1, h2⟩, fun ⟨r, h1, h2⟩ => ⟨r, hp.symm.subset h1, h2⟩⟩
  rw [this, hasL_app]
  simp [inn]

theorem sboth_any (a b : List (Int × Int)) (va vb : Value) (w : World) (ha : SlP w w.heap.size 2 RuE va a) (hb : SlP w w.heap.size 2 RuE vb b) :
    Calls Try.prog 107 #[va, vb] w fun e w' => e = .returned (.bool (runsR none a && runsR none b)) ∧ Below w.heap.size w w' := by
  have HB := hid hb
  go_enter Try.func107, Try.ntmps107
  go_wp2_with fail
  refine (sright_any a va w ha).mono ?_
  rintro e w1 ⟨rfl, hb1⟩
  have hs1 := hb1.size
  cases hr : runsR none a
  · have HR := hid hr
    clear hr
    go_wp2_with fail
    go_ret
    exact ⟨ret_bool (by rw [HR.out]; rfl), hb1⟩
  · have HR := hid hr
    clear hr
    go_wp2_with fail
    refine (sright_any b vb w1 (HB.out.imp hb1 hs1 fun _ _ _ h => h)).mono ?_
    rintro e w2 ⟨rfl, hb2⟩
    go_wp2_with fail
    go_ret
    exact ⟨ret_bool (by rw [HR.out]; rfl), hb1.trans (hb2.mono hs1)⟩

set_option maxHeartbeats 2000000 in
theorem sunion_any (a b : List (Int × Int)) (va vb : Value) (w : World) (ha : SlP w w.heap.size 2 RuE va a) (hb : SlP w w.heap.size 2 RuE vb b) (hra : runsR none a = true) (hrb : runsR none b = true) (hN : a.length ≤ 300000) (hN' : b.length ≤ 300000) :
    Calls Try.prog 77 #[va, vb] w (RetO w 132 2 (fun _ => RuE) (byL a b 0)) := by
  have HA := hid ha
  have HB := hid hb
  have HRA := hid hra
  have HRB := hid hrb
  have hor : RunsOk (a ++ b) := runsOk_of fun r hr => by
    rcases List.mem_append.1 hr with h | h
    · exact runs_ok' a none hra r h
    · exact runs_ok' b none hrb r h
  have HOR := hid hor
  obtain ⟨A1, c1, rfl, _⟩ := ha
  obtain ⟨A2, c2, rfl, _⟩ := hb
  clear hra hrb hor
  go_enter Try.func77, Try.ntmps77
  go_wp2_with fail
  refine (sboth_any a b _ _ w HA.out HB.out).mono ?_
  rw [HRA.out, HRB.out]
  rintro e w1 ⟨rfl, hb1⟩
  have hs1 := hb1.size
  go_wp2_with fail
  refine (concat_any a b (.slice A1 a.length c1) (.slice A2 b.length c2) w1.heap.size _ (by simp) (by simp) (by simp) (HA.out.imp (hb1.alloc hs1 _) (by simp; omega) fun _ _ _ h => h) (HB.out.imp (hb1.alloc hs1 _) (by simp; omega) fun _ _ _ h => h) hN hN').mono ?_
  rintro e w2 ⟨v2, rfl, ho2, hb2⟩
  have hs2 := hb2.size
  simp only [World.size_alloc] at hs2
  have hB2 : Below w.heap.size w w2 := (hb1.alloc hs1 _).trans (hb2.mono (by simp; omega))
  have ho2' : OwnP w2 (w1.heap.size + 1) 132 2 RuE v2 ((a ++ b).map id) := by rw [List.map_id]; exact ho2.mono (by simp)
  go_wp2_with fail
  refine (sortRun_any id cmpR swoR 109 (enters_of Try.func109 (by kernel_rfl) rfl) (fun x y W => unionClo_any x y W) (a ++ b) v2 w2 _ ho2' (by simp; omega) hs2).mono ?_
  rintro e w3 ⟨rfl, ts, hp, hs, ho3, hb3⟩
  rw [List.map_id] at ho3
  have hs3 := hb3.size
  have hJ := join_union HRA.out HRB.out hp (hs.imp fun h => (cmpI_nonneg _ _).1 h)
  have HJ := hid hJ
  have hlen : ts.length = a.length + b.length := by rw [hp.length_eq, List.length_append]
  have hsl := ho3.sl (by rw [hlen]; unfold Big; omega)
  have HSL := hid hsl
  have HTR : Hid (RunsOk ts) := fun r hr => HOR.out r (hp.subset hr)
  have hl3 : ts.length ≤ 900000 := by omega
  clear hp hs ho3 hJ hsl ho2 ho2' hlen
  go_wp2_with fail
  refine (sjoined_any ts _ w3 HSL.out hl3 HTR.out).mono ?_
  rintro e w4 ⟨v4, rfl, ho4, hb4⟩
  rw [HJ.out] at ho4
  go_wp2_with fail
  go_ret
  exact ⟨_, rfl, ho4.mono (by omega), (hB2.trans (hb3.mono (by omega))).trans (hb4.mono (by omega))⟩
end Go.Proofs.Ytdmhfiofgioihaa

namespace Go.Proofs.Ytdmhfiofgioihaa
open Go.RowKit
set_option maxRecDepth 100000

/-- A rule on sets: it hands back the reference's set. -/
def RuleRun (g : Nat) (how : Int) : Prop :=
  (∀ args W, (callFunc g args).run Try.prog W = .ok (.enter g args) W) ∧
  ∀ (a b : List (Int × Int)) (va vb : Value) (W : World), SlP W W.heap.size 2 RuE va a → SlP W W.heap.size 2 RuE vb b → runsR none a = true → runsR none b = true → a.length ≤ 100000 → b.length ≤ 100000 →
    Calls Try.prog g #[va, vb] W (RetO W 132 2 (fun _ => RuE) (byL a b how))

/-- The state of the loop: array p0 holds what was made of the first k centers, and the rest of the first context. -/
def ByA (a b : List Sp) (how : Int) (vs us : Nat → Value) (w1 w2 : World) (k : Nat) (wr : World) : Prop :=
  ∃ ps : Nat → Value, wr.heap[w1.heap.size]? = some (.cells #[ps 0, ps 1, ps 2, ps 3] 100 (0, 0)) ∧ wr.heap[w2.heap.size]? = some (.cells #[us 0, us 1, us 2, us 3] 100 (0, 0)) ∧
    (∀ j, j < k → OwnP wr (w2.heap.size + 1) 132 2 RuE (ps j) (byL (partL a (j : Int)) (partL b (j : Int)) how)) ∧ (∀ j, k ≤ j → ps j = vs j) ∧ (∀ blk, w1.heap.size < blk → blk < w2.heap.size → wr.heap[blk]? = w2.heap[blk]?) ∧ Below w1.heap.size w1 wr

set_option maxHeartbeats 4000000 in
theorem cby_any (a b : List Sp) (how : Int) (g : Nat) (hf : RuleRun g how) (va vb : Value) (w : World) (ha : SlP w w.heap.size 3 SpE va a) (hb : SlP w w.heap.size 3 SpE vb b) (hra : apartB a = true) (hrb : apartB b = true) (hN : a.length ≤ 20000) (hN' : b.length ≤ 20000) :
    Calls Try.prog 76 #[va, vb, .func (.func g) #[] #[]] w (RetO w 78 3 (fun _ => SpE) (ctxBy a b how)) := by
  obtain ⟨eg, hf⟩ := hf
  have HA := hid ha
  have HB := hid hb
  obtain ⟨A1, c1, rfl, _⟩ := ha
  obtain ⟨A2, c2, rfl, _⟩ := hb
  go_enter Try.func76, Try.ntmps76
  go_wp2_with fail
  refine (apart_any a _ w HA.out (by omega)).mono ?_
  rintro e w1 ⟨vs, rfl, hsl, hb1⟩
  have hs1 := hb1.size
  rw [hra]
  simp only [hra, if_true] at hsl
  obtain ⟨B0, m0, g0, _⟩ := hsl 0 (by omega)
  obtain ⟨B1, m1, g1, _⟩ := hsl 1 (by omega)
  obtain ⟨B2, m2, g2, _⟩ := hsl 2 (by omega)
  obtain ⟨B3, m3, g3, _⟩ := hsl 3 (by omega)
  have HVS := hid (fun i (hi : i < 4) => (hsl i hi).slp (fun b hb => hb.2) (Below.refl _ w1))
  have G0 := hid g0
  have G1 := hid g1
  have G2 := hid g2
  have G3 := hid g3
  simp only [g0, g1, g2, g3]
  clear hsl g0 g1 g2 g3
  go_wp2_with fail
  refine (apart_any b _ _ (HB.out.imp (hb1.alloc hs1 _) (by simp; omega) fun _ _ _ h => h) (by omega)).mono ?_
  rintro e w2 ⟨us, rfl, hsl, hb2⟩
  have hs2 := hb2.size
  simp only [World.size_alloc] at hs2
  rw [hrb]
  simp only [hrb, if_true] at hsl
  obtain ⟨D0, n0, k0, _⟩ := hsl 0 (by omega)
  obtain ⟨D1, n1, k1, _⟩ := hsl 1 (by omega)
  obtain ⟨D2, n2, k2, _⟩ := hsl 2 (by omega)
  obtain ⟨D3, n3, k3, _⟩ := hsl 3 (by omega)
  have HUS := hid hsl
  have K0 := hid k0
  have K1 := hid k1
  have K2 := hid k2
  have K3 := hid k3
  simp only [k0, k1, k2, k3]
  clear hsl k0 k1 k2 k3
  have hp2 := hid ((hb2.block w1.heap.size (by simp)).trans (heap_new rfl))
  have hB2 : Below w1.heap.size w1 w2 := ((Below.refl _ w1).alloc (Nat.le_refl _) _).trans (hb2.mono (by simp))
  go_wp2_with fail
  go_loopw [28] (fun i wr => ∃ k : Nat, k ≤ 4 ∧ i = .int .i64 k ∧ ByA a b how vs us w1 w2 k wr) (fun i _ => 4 - (intOf i).toNat)
  case atStart =>
    refine ⟨0, by omega, rfl, vs, ?_, ?_, fun j hj => absurd hj (Nat.not_lt_zero _), fun _ _ => rfl, fun blk _ hb => heap_old hb, hB2.alloc (by omega) _⟩
    · rw [heap_old (by omega), G0.out, G1.out, G2.out, G3.out]; exact hp2.out
    · rw [heap_new rfl, K0.out, K1.out, K2.out, K3.out]; rfl
  case round =>
    obtain ⟨k, hk, rfl, ps, hpa, hqa, hpo, hpv, hkp, hbr⟩ := hrel
    have hsz := hbr.size
    have hp3 : w1.heap.size < wr.heap.size := (Array.getElem?_eq_some_iff.1 hpa).1
    have hq3 : w2.heap.size < wr.heap.size := (Array.getElem?_eq_some_iff.1 hqa).1
    by_cases hk4 : k < 4
    · have hki : (k : Int) < 4 := by omega
      have hla := partL_len a k
      have hlb := partL_len b k
      have hq2 : w2.heap.size + 1 ≤ wr.heap.size := by omega
      have HSA : Hid (SlP wr.drew wr.drew.heap.size 2 RuE (vs k) (partL a k)) := (HVS.out k hk4).imp hbr.drew hsz fun _ _ _ h => h
      have HSB : Hid (SlP wr.drew wr.drew.heap.size 2 RuE (us k) (partL b k)) := SlP_iff.2 ((HUS.out k hk4).up (w' := wr.drew) (fun blk hb => hkp blk (by have := hb.1; simp only [World.size_alloc] at this; omega) hb.2) (fun blk hb => by have := hb.2; show blk < wr.heap.size; omega) (fun _ _ _ h => h))
      have hcall := hf (partL a k) (partL b k) (vs k) (us k) wr.drew HSA.out HSB.out (apart_part hra hk4) (apart_part hrb hk4) (by omega) (by omega)
      have hpc : wr.cell? ⟨w1.heap.size, k, none⟩ = some (vs k) := by rw [cell_cells hpa, four_get ps hk4, hpv k (Nat.le_refl _)]
      have hqc : wr.cell? ⟨w2.heap.size, k, none⟩ = some (us k) := (cell_cells hqa).trans (four_get us hk4)
      have HPA := hid hpa
      have HQA := hid hqa
      have HPO := hid hpo
      have HPV := hid hpv
      have HKP := hid hkp
      have HCALL := hid hcall
      clear hpa hqa hpo hpv hkp hf hcall
      go_wp2_with fail
      refine wp_region_pop_n (S := fun w' => w'.cell? ⟨w1.heap.size, k, none⟩ = some (vs k) ∧ w'.cell? ⟨w2.heap.size, k, none⟩ = some (us k)) 10 (by kernel_rfl) (by kernel_rfl) ?_
      simp only [List.take_succ_cons, List.take_zero, List.drop_succ_cons, List.drop_zero]
      have hHeld : (fun w' : World => w'.cell? ⟨w1.heap.size, k, none⟩ = some (vs k) ∧ w'.cell? ⟨w2.heap.size, k, none⟩ = some (us k)) wr.drew := by go_keep
      refine wpAnyH_take (i := 0) (oi := _) (v := ?v0) rfl (by kernel_rfl) (by kernel_rfl) (by kernel_rfl) (fun _ _ _ h => h) (Or.inl ⟨by rfl, ?h0⟩) (by assumption) ?_
      case h0 => (intro w hSw; (try dsimp only at hSw); go_simp; (try with_reducible rfl))
      simp only [Act.put, List.setIfInBounds_toArray]
      refine wpAnyH_take (i := 1) (oi := _) (v := ?v1) rfl (by kernel_rfl) (by kernel_rfl) (by kernel_rfl) (fun _ _ _ h => h) (Or.inl ⟨by rfl, ?h1⟩) (by assumption) ?_
      case h1 => (intro w hSw; (try dsimp only at hSw); go_simp; (try with_reducible rfl))
      simp only [Act.put, List.setIfInBounds_toArray]
      refine wpAnyH_take (i := 2) (oi := _) (v := ?v2) rfl (by kernel_rfl) (by kernel_rfl) (by kernel_rfl) (fun _ _ _ h => h) (Or.inl ⟨by rfl, ?h2⟩) (by assumption) ?_
      case h2 => (intro w hSw; (try dsimp only at hSw); go_simp; (try with_reducible rfl))
      simp only [Act.put, List.setIfInBounds_toArray]
      refine wpAnyH_take (i := 3) (oi := _) (v := ?v3) rfl (by kernel_rfl) (by kernel_rfl) (by kernel_rfl) (fun _ _ _ h => h) (Or.inl ⟨by rfl, ?h3⟩) (by assumption) ?_
      case h3 => (intro w hSw; (try dsimp only at hSw); go_simp; (try with_reducible rfl))
      simp only [Act.put, List.setIfInBounds_toArray]
      refine wpAnyH_take (i := 4) (oi := _) (v := ?v4) rfl (by kernel_rfl) (by kernel_rfl) (by kernel_rfl) (fun _ _ _ h => h) (Or.inl ⟨by rfl, ?h4⟩) (by assumption) ?_
      case h4 => (intro w hSw; (try dsimp only at hSw); go_simp; (try with_reducible rfl))
      simp only [Act.put, List.setIfInBounds_toArray]
      refine wpAnyH_take (i := 5) (oi := _) (v := ?v5) rfl (by kernel_rfl) (by kernel_rfl) (by kernel_rfl) (fun _ _ _ h => h) (Or.inl ⟨by rfl, ?h5⟩) (by assumption) ?_
      case h5 => (intro w hSw; (try dsimp only at hSw); go_simp; (try with_reducible rfl))
      simp only [Act.put, List.setIfInBounds_toArray]
      refine wpAnyH_take (i := 6) (oi := _) (v := ?v6) rfl (by kernel_rfl) (by kernel_rfl) (by kernel_rfl) (fun _ _ _ h => h) (Or.inl ⟨by rfl, ?h6⟩) (by assumption) ?_
      case h6 => (intro w hSw; (try dsimp only at hSw); go_simp; (try with_reducible rfl))
      simp only [Act.put, List.setIfInBounds_toArray]
      refine wpAnyH_take (i := 7) (oi := _) (v := ?v7) rfl (by kernel_rfl) (by kernel_rfl) (by kernel_rfl) (fun _ _ _ h => h) (Or.inl ⟨by rfl, ?h7⟩) (by assumption) ?_
      case h7 => (intro w hSw; (try dsimp only at hSw); go_simp; (try with_reducible rfl))
      simp only [Act.put, List.setIfInBounds_toArray]
      refine wpAnyH_ready (rs := [8]) (by kernel_rfl) (by simp) ?_
      refine AllReadyH.cons (o := _) rfl (fun K hK => ?_) AllReadyH.nil
      go_simp
      refine HCALL.out.mono ?_
      rintro e w3 ⟨v3, rfl, ho3, hb3⟩
      obtain ⟨A3, c3, rfl⟩ := ho3.shape
      have hb3' : Below wr.heap.size wr w3 := (Below.refl _ wr).drew.trans hb3
      have hp4 := (hb3'.block w1.heap.size hp3).trans HPA.out
      have hq4 := (hb3'.block w2.heap.size hq3).trans HQA.out
      have hpc3 : w3.cell? ⟨w1.heap.size, k, none⟩ = some (vs k) := by rw [cell_cells hp4, four_get ps hk4, HPV.out k (Nat.le_refl _)]
      have hqc3 : w3.cell? ⟨w2.heap.size, k, none⟩ = some (us k) := (cell_cells hq4).trans (four_get us hk4)
      have hf3 : w3.frozen? ⟨w1.heap.size, k, none⟩ = false := cells_frz hp4
      have HP4 := hid hp4
      have HQ4 := hid hq4
      have HO3 := hid ho3
      have HB3 := hid hb3'
      clear hp4 hq4 ho3 hb3 hb3'
      dsimp only
      refine hK.out _ _ ⟨hpc3, hqc3⟩ (fun hHeld8 => ?_)
      clear hK K
      simp only [List.setIfInBounds_toArray]
      refine wpAnyH_take (i := 9) (oi := _) (v := ?v9) rfl (by kernel_rfl) (by kernel_rfl) (by kernel_rfl) (fun _ _ _ h => h) (Or.inl ⟨by rfl, ?h9⟩) (by assumption) ?_
      case h9 => (intro w hSw; (try dsimp only at hSw); go_simp; (try with_reducible rfl))
      simp only [Act.put, List.setIfInBounds_toArray]
      refine wpAnyH_done (by kernel_rfl) ?_ _
      change wpList _ _ _ _ _ _
      go_wp2_with fail
      go_roundw
      case rel =>
        have hs3 := HB3.out.size
        refine ⟨k + 1, by omega, by go_num, fun j => if j = k then .slice A3 (byL (partL a k) (partL b k) how).length c3 else ps j, ?_, ?_, fun j hj => ?_, fun j hj => ?_, fun blk h1 h2 => ?_, (hbr.trans (HB3.out.mono hsz)).setCell (Nat.le_refl _) _⟩
        · rw [cells_set HP4.out, four_set ps hk4]
        · exact (Below.heap_setCell _ _ _ _ (by show w2.heap.size ≠ w1.heap.size; omega)).trans HQ4.out
        · by_cases e : j = k
          · subst e
            simp only [if_true]
            exact (HO3.out.mono (by show _ ≤ wr.heap.size; omega)).setOther (by show w1.heap.size < _; omega) _
          · simp only [if_neg e]
            exact ((HPO.out j (by omega)).grow HB3.out).setOther (by show w1.heap.size < _; omega) _
        · show (if j = k then _ else ps j) = vs j
          rw [if_neg (show ¬ j = k by omega)]; exact HPV.out j (by omega)
        · exact (Below.heap_setCell _ _ _ _ (by show blk ≠ w1.heap.size; omega)).trans ((HB3.out.block blk (by omega)).trans (HKP.out blk h1 h2))
      case measure => simp [intOf]; omega
    · obtain rfl : k = 4 := by omega
      have d0 : wr.cell? ⟨w1.heap.size, 0, none⟩ = some (ps 0) := cell_cells (i := 0) hpa
      have d1 : wr.cell? ⟨w1.heap.size, 1, none⟩ = some (ps 1) := cell_cells (i := 1) hpa
      have d2 : wr.cell? ⟨w1.heap.size, 2, none⟩ = some (ps 2) := cell_cells (i := 2) hpa
      have d3 : wr.cell? ⟨w1.heap.size, 3, none⟩ = some (ps 3) := cell_cells (i := 3) hpa
      have HOL : ∀ j : Nat, (byL (partL a (j : Int)) (partL b (j : Int)) how).length ≤ 80001 := fun j => by
        have := byL_len (partL a (j : Int)) (partL b (j : Int)) how; have := partL_len a (j : Int); have := partL_len b (j : Int); omega
      have HSP : Hid (∀ j, j < 4 → SlP wr wr.heap.size 2 RuE (ps j) (byL (partL a (j : Int)) (partL b (j : Int)) how)) := fun j hj => (hpo j hj).sl (by have := HOL j; unfold Big; omega)
      have HOLH := hid HOL
      clear hpa hqa hpo hpv hkp HOL
      go_wp2_with fail
      refine (whole_any (fun j => byL (partL a (j : Int)) (partL b (j : Int)) how) ps wr HSP.out (fun j _ => by have := HOLH.out j; show (byL _ _ _).length ≤ _; omega)).mono ?_
      rintro e w4 ⟨v4, rfl, ho4, hb4⟩
      go_wp2_with fail
      go_ret
      exact ⟨_, rfl, ho4.mono (by omega), (hb1.trans (hbr.mono hs1)).trans (hb4.mono (by omega))⟩

theorem union_rule : RuleRun 77 0 :=
  ⟨enters_of Try.func77 (by kernel_rfl) rfl, fun a b va vb W ha hb hra hrb hN hN' => sunion_any a b va vb W ha hb hra hrb (by omega) (by omega)⟩
theorem cunion_any (a b : List Sp) (va vb : Value) (w : World) (ha : SlP w w.heap.size 3 SpE va a) (hb : SlP w w.heap.size 3 SpE vb b) (hra : apartB a = true) (hrb : apartB b = true) (hN : a.length ≤ 20000) (hN' : b.length ≤ 20000) :
    Calls Try.prog 51 #[va, vb] w (RetO w 78 3 (fun _ => SpE) (ctxBy a b 0)) := by
  go_enter Try.func51, Try.ntmps51
  go_wp2_with fail
  refine (cby_any a b 0 _ union_rule va vb w ha hb hra hrb hN hN').mono ?_
  rintro e w1 ⟨v, rfl, h⟩
  go_wp2_with fail
  go_ret
  exact ⟨v, rfl, h⟩
end Go.Proofs.Ytdmhfiofgioihaa

namespace Go.Proofs.Ytdmhfiofgioihaa
open Go.RowKit
set_option maxRecDepth 100000

/-- The state of the first loop. -/
def OfA (l : List Dt) (w : World) (k : Nat) (wr : World) : Prop :=
  ∃ vs : Nat → Value, Rows4 wr (w.heap.size + 1) w.heap.size 104 2 1 InE vs (fun i => numsL (l.take k) i) ∧ Below w.heap.size w wr

/-- The state of the second loop: array Bq holds the sets of the first k centers. -/
def OfB (l : List Dt) (w1 : World) (k : Nat) (wr : World) : Prop :=
  ∃ ps : Nat → Value, wr.heap[w1.heap.size]? = some (.cells #[ps 0, ps 1, ps 2, ps 3] 100 (0, 0)) ∧
    (∀ j, j < 4 → OwnP wr (w1.heap.size + 1) 132 2 RuE (ps j) (if j < k then ofL (numsL l (j : Int)) else [])) ∧ Below w1.heap.size w1 wr

set_option maxHeartbeats 4000000 in
theorem cof_any (l : List Dt) (vl : Value) (w : World) (h : SlP w w.heap.size 2 DtE vl l) (hR : ∀ d ∈ l, d.right = true) (hN : l.length ≤ 100000) :
    Calls Try.prog 50 #[vl] w fun e w' => ∃ v, e = .returned (.tuple #[v, .int .i64 0]) ∧ OwnP w' w.heap.size 78 3 SpE v (ctxOf l) ∧ Below w.heap.size w w' := by
  obtain ⟨A, n, rfl, b1, b2, b3⟩ := h
  unfold Big at b2
  go_enter Try.func50, Try.ntmps50
  go_wp2_with fail
  go_loopw [12] (fun i wr => ∃ k : Nat, k ≤ l.length ∧ i = .int .i64 k ∧ OfA l w k wr) (fun i _ => l.length - (intOf i).toNat)
  case atStart => exact ⟨0, Nat.zero_le _, rfl, fun _ => .slice none 0 0, Rows4.start (heap_new rfl) (by omega), (Below.refl _ w).alloc (Nat.le_refl _) _⟩
  case round =>
    obtain ⟨k, hk, rfl, vs, hr4, hb⟩ := hrel
    have hsz := hb.size
    have hsz2 : w.heap.size < wr.heap.size := (Array.getElem?_eq_some_iff.1 hr4.arr).1
    have hsz4 : w.heap.size ≠ wr.heap.size := by omega
    by_cases hlt : k < l.length
    · obtain ⟨⟨dc, num⟩, hx⟩ : ∃ x, l[k]? = some x := ⟨_, List.getElem?_eq_getElem hlt⟩
      obtain ⟨b, off, rfl, hbB, hc⟩ := b3 (by rintro rfl; simp at hlt)
      obtain ⟨cs, ⟨rfl, hok⟩, _, hu⟩ := hc k _ hx
      have e0 : wr.cell? ⟨b, off + k * 2, none⟩ = some (.int .i64 dc) := (hb.cell hbB).trans (hu 0 _ rfl)
      have e1 : wr.cell? ⟨b, off + k * 2 + 1, none⟩ = some (.int .i64 num) := (hb.cell hbB).trans (hu 1 _ rfl)
      have hri := hR _ (List.mem_of_getElem? hx)
      have hbd : (0 ≤ dc ∧ dc < 4) ∧ 1 ≤ num ∧ num ≤ 1099511627776 := by simpa [Dt.right, and_assoc] using hri
      have HRI := hid hri
      have HR4 := hid hr4
      obtain ⟨d, rfl⟩ : ∃ d : Nat, dc = (d : Int) := ⟨dc.toNat, by omega⟩
      have hd4 : d < 4 := by omega
      have hdi : (d : Int) < 4 := by omega
      have HPD : Hid ((fun i : Nat => numsL (l.take (k + 1)) i) = fun i => if i = d then numsL (l.take k) d ++ [num] else numsL (l.take k) i) := by
        unfold Hid; funext i
        rw [numsL_take hx]
        by_cases e : i = d
        · subst e; rw [if_pos rfl, if_pos rfl]
        · rw [if_neg e, if_neg (by show ¬ (d : Int) = (i : Int); omega), List.append_nil]
      have HL : Hid ((numsL (l.take k) d).length + [num].length ≤ Few) := by have := numsL_len (l.take k) d; rw [List.length_take] at this; unfold Hid Few; simp; omega
      have HRE : Hid (InE num [.int .i64 num]) := ⟨rfl, hok.n⟩
      have hbp : wr.cell? ⟨w.heap.size, d, none⟩ = some (vs d) := HR4.out.at hd4
      have HLT := hid ((HR4.out.own d hd4).lt)
      clear hu hx hc b3 hok hr4 hri hR
      go_upto_region 7 with (go_at_call 48; refine (dright_any ⟨d, num⟩ _).mono ?_; rw [HRI.out]; rintro e wd ⟨rfl, hbd'⟩; have hsd := hbd'.size; simp only [World.size_alloc] at hsd)
      have HB1 : Hid (Below wr.heap.size wr wd) := ((Below.refl _ wr).alloc (Nat.le_refl _) _).trans (hbd'.mono (by simp))
      have hx0 : wd.cell? ⟨wr.heap.size, 0, none⟩ = some (.int .i64 (d : Int)) := by rw [hbd'.cell (p := ⟨wr.heap.size, 0, none⟩) (by simp)]; simp
      have hx1 : wd.cell? ⟨wr.heap.size, 1, none⟩ = some (.int .i64 num) := by rw [hbd'.cell (p := ⟨wr.heap.size, 1, none⟩) (by simp)]; simp
      have hxb : wd.heap[wr.heap.size]? = some (.cells #[.int .i64 (d : Int), .int .i64 num] 27 (0, 0)) := (hbd'.block wr.heap.size (by simp)).trans (heap_new rfl)
      have HXB := hid hxb
      have hbp1 : wd.cell? ⟨w.heap.size, d, none⟩ = some (vs d) := (HB1.out.cell (p := ⟨w.heap.size, d, none⟩) hsz2).trans hbp
      have HR5 := hid (HR4.out.grow HB1.out)
      have hwd1 : w.heap.size < wd.heap.size := by omega
      have hwd2 : w.heap.size ≠ wd.heap.size := by omega
      have hwd3 : wr.heap.size < wd.heap.size := by omega
      have hwd4 : wr.heap.size ≠ wd.heap.size := by omega
      have HBW := hid (hb.trans (HB1.out.mono hsz))
      clear hbp hxb hbd' e0 e1
      go_wp2_with fail
      refine wp_region_pop_n (S := fun w' => w'.cell? ⟨wr.heap.size, 0, none⟩ = some (.int .i64 (d : Int)) ∧ w'.cell? ⟨wr.heap.size, 1, none⟩ = some (.int .i64 num) ∧ w'.cell? ⟨w.heap.size, d, none⟩ = some (vs d)) 11 (by kernel_rfl) (by kernel_rfl) ?_
      simp only [List.take_succ_cons, List.take_zero, List.drop_succ_cons, List.drop_zero]
      have hHeld : (fun w' : World => w'.cell? ⟨wr.heap.size, 0, none⟩ = some (.int .i64 (d : Int)) ∧ w'.cell? ⟨wr.heap.size, 1, none⟩ = some (.int .i64 num) ∧ w'.cell? ⟨w.heap.size, d, none⟩ = some (vs d)) wd.drew := by go_keep
      refine wpAnyH_take (i := 0) (oi := _) (v := ?v0) rfl (by kernel_rfl) (by kernel_rfl) (by kernel_rfl) (fun _ _ _ h => h) (Or.inl ⟨by rfl, ?h0⟩) (by assumption) ?_
      case h0 => (intro w hSw; (try dsimp only at hSw); go_simp; (try with_reducible rfl))
      simp only [Act.put, List.setIfInBounds_toArray]
      refine wpAnyH_take (i := 1) (oi := _) (v := ?v1) rfl (by kernel_rfl) (by kernel_rfl) (by kernel_rfl) (fun _ _ _ h => h) (Or.inl ⟨by rfl, ?h1⟩) (by assumption) ?_
      case h1 => (intro w hSw; (try dsimp only at hSw); go_simp; (try with_reducible rfl))
      simp only [Act.put, List.setIfInBounds_toArray]
      refine wpAnyH_take (i := 2) (oi := _) (v := ?v2) rfl (by kernel_rfl) (by kernel_rfl) (by kernel_rfl) (fun _ _ _ h => h) (Or.inl ⟨by rfl, ?h2⟩) (by assumption) ?_
      case h2 => (intro w hSw; (try dsimp only at hSw); go_simp; (try with_reducible rfl))
      simp only [Act.put, List.setIfInBounds_toArray]
      refine wpAnyH_take (i := 3) (oi := _) (v := ?v3) rfl (by kernel_rfl) (by kernel_rfl) (by kernel_rfl) (fun _ _ _ h => h) (Or.inl ⟨by rfl, ?h3⟩) (by assumption) ?_
      case h3 => (intro w hSw; (try dsimp only at hSw); go_simp; (try with_reducible rfl))
      simp only [Act.put, List.setIfInBounds_toArray]
      refine wpAnyH_take (i := 4) (oi := _) (v := ?v4) rfl (by kernel_rfl) (by kernel_rfl) (by kernel_rfl) (fun _ _ _ h => h) (Or.inl ⟨by rfl, ?h4⟩) (by assumption) ?_
      case h4 => (intro w hSw; (try dsimp only at hSw); go_simp; (try with_reducible rfl))
      simp only [Act.put, List.setIfInBounds_toArray]
      refine wpAnyH_take (i := 5) (oi := _) (v := ?v5) rfl (by kernel_rfl) (by kernel_rfl) (by kernel_rfl) (fun _ _ _ h => h) (Or.inl ⟨by rfl, ?h5⟩) (by assumption) ?_
      case h5 => (intro w hSw; (try dsimp only at hSw); go_simp; (try with_reducible rfl))
      simp only [Act.put, List.setIfInBounds_toArray]
      refine wpAnyH_take (i := 6) (oi := _) (v := ?v6) rfl (by kernel_rfl) (by kernel_rfl) (by kernel_rfl) (fun _ _ _ h => h) (Or.inl ⟨by rfl, ?h6⟩) (by assumption) ?_
      case h6 => (intro w hSw; (try dsimp only at hSw); go_simp; (try with_reducible rfl))
      simp only [Act.put, List.setIfInBounds_toArray]
      refine wpAnyH_take (i := 7) (oi := _) (v := ?v7) rfl (by kernel_rfl) (by kernel_rfl) (by kernel_rfl) (fun _ _ _ h => h) (Or.inl ⟨by rfl, ?h7⟩) (by assumption) ?_
      case h7 => (intro w hSw; (try dsimp only at hSw); go_simp; (try with_reducible rfl))
      simp only [Act.put, List.setIfInBounds_toArray]
      refine wpAnyH_ready (rs := [8]) (by kernel_rfl) (by simp) ?_
      refine AllReadyH.cons (o := _) rfl (fun K hK => ?_) AllReadyH.nil
      go_simp
      refine hK.out _ _ ?_ (fun hHeld8 => ?_)
      · go_keep
      clear hK K
      simp only [List.setIfInBounds_toArray]
      refine wpAnyH_ready (rs := [9]) (by kernel_rfl) (by simp) ?_
      refine AllReadyH.cons (o := _) rfl (fun K hK => ?_) AllReadyH.nil
      (refine step_few4 (v := vs d) rfl (.tmp 24) (.tmp 27) _ rfl eiInt64 (by decide) (by decide) (fun _ _ h => h.one) rfl (((HR5.out.own d hd4).grow ((Below.refl _ wd).alloc (Nat.le_refl _) _)).drew) rfl (SlP.one (x := num) HRE.out rfl _ (by simp)) HL.out (by simp; omega) ?_; intro v1 w4 hown4 hb4 hg4 hv4; have hsh4 := OwnP.shape hown4; simp only [List.length_append, List.length_singleton] at hsh4; obtain ⟨A1, c1, hv1⟩ := hsh4; subst hv1; have hg4h : Hid (w4.heap[w.heap.size]? = some (.cells #[vs 0, vs 1, vs 2, vs 3] 104 (0, 0))) := (hg4.block w.heap.size (by simp; omega) (fun e => by have := HLT.out _ e.symm; omega)).trans ((heap_old hwd1).trans HR5.out.arr); have hc4 : w4.cell? ⟨w.heap.size, d, none⟩ = some (vs d) := (cell_cells hg4h.out).trans (four_get vs hd4); have hf4 : w4.frozen? ⟨w.heap.size, d, none⟩ = false := cells_frz hg4h.out; have hx3 := (hg4.block wr.heap.size (by simp; omega) (fun e => by have := HLT.out _ e.symm; omega)).trans ((heap_old hwd3).trans HXB.out); have hx4 : Hid (w4.cell? ⟨wr.heap.size, 0, none⟩ = some (.int .i64 (d : Int)) ∧ w4.cell? ⟨wr.heap.size, 1, none⟩ = some (.int .i64 num) ∧ w4.cell? ⟨w.heap.size, d, none⟩ = some (vs d)) := ⟨(cell_cells (i := 0) hx3).trans rfl, (cell_cells (i := 1) hx3).trans rfl, hc4⟩; clear hx3)
      refine hK.out _ _ ?_ (fun hHeld9 => ?_)
      · exact hx4.out
      clear hK K
      simp only [Act.put, List.setIfInBounds_toArray]
      refine wpAnyH_take (i := 10) (oi := _) (v := ?v10) rfl (by kernel_rfl) (by kernel_rfl) (by kernel_rfl) (fun _ _ _ h => h) (Or.inl ⟨by rfl, ?h10⟩) (by assumption) ?_
      case h10 => (intro w hSw; (try dsimp only at hSw); go_simp; (try with_reducible rfl))
      simp only [Act.put, List.setIfInBounds_toArray]
      refine wpAnyH_done (by kernel_rfl) ?_ _
      change wpList _ _ _ _ _ _
      go_wp2_with fail
      go_roundw
      case rel =>
        refine ⟨k + 1, by omega, by go_num, fun i => if i = d then .slice A1 ((numsL (l.take k) d).length + 1) c1 else vs i, ?_, ?_⟩
        · rw [HPD.out]
          exact Rows4.put (w := (wd.alloc (.cells #[.int .i64 num] 2)).drew) ((HR5.out.grow ((Below.refl _ _).alloc (Nat.le_refl _) _)).same rfl) hd4 hown4 hg4 hv4
        · exact (((HBW.out.alloc (by omega) _).drew.trans (hb4.mono (by omega))).setCell (Nat.le_refl _) _)
      case measure => simp [intOf]; omega
    · obtain rfl : k = l.length := by omega
      rw [List.take_of_length_le (Nat.le_refl _)] at hr4
      have c0 : wr.cell? ⟨w.heap.size, 0, none⟩ = some (vs 0) := hr4.at (by omega)
      have c1 : wr.cell? ⟨w.heap.size, 1, none⟩ = some (vs 1) := hr4.at (by omega)
      have c2 : wr.cell? ⟨w.heap.size, 2, none⟩ = some (vs 2) := hr4.at (by omega)
      have c3 : wr.cell? ⟨w.heap.size, 3, none⟩ = some (vs 3) := hr4.at (by omega)
      have HR := hid hr4
      have HRR := hid hR
      clear hr4 b3 hR
      go_wp2_with fail
      obtain ⟨w1, rfl⟩ : ∃ w1 : World, w1 = wr := ⟨_, rfl⟩
      go_loopw [32] (fun i wr => ∃ k : Nat, k ≤ 4 ∧ i = .int .i64 k ∧ OfB l w1 k wr) (fun i _ => 4 - (intOf i).toNat)
      case atStart => exact ⟨0, by omega, rfl, fun _ => .slice none 0 0, heap_new rfl, fun j _ => by rw [if_neg (Nat.not_lt_zero _)]; exact OwnP.nil, (Below.refl _ _).alloc (Nat.le_refl _) _⟩
      case round =>
        obtain ⟨k, hk, rfl, ps, hpa, hpo, hbi⟩ := hrel
        have hsi := hbi.size
        have hsi2 : w1.heap.size < wr.heap.size := (Array.getElem?_eq_some_iff.1 hpa).1
        by_cases hk4 : k < 4
        · have hki : (k : Int) < 4 := by omega
          have hidx : ∀ w, (Instr.index 104 (.agg #[vs 0, vs 1, vs 2, vs 3]) (.int .i64 (k : Int))).run Try.prog w = .ok (vs k) w := fun w => by
            match k, hk4 with
            | 0, _ => rfl
            | 1, _ => rfl
            | 2, _ => rfl
            | 3, _ => rfl
          have hnl := numsL_len l k
          have HSL : Hid (SlP wr wr.heap.size 1 InE (vs k) (numsL l k)) := (HR.out.sl hk4 (by show (numsL l k).length ≤ Big; unfold Big; omega)).imp hbi hsi fun _ _ _ h => h
          have HNB : Hid (∀ x ∈ numsL l k, numB x = true) := fun x hx => by
            unfold numsL at hx
            obtain ⟨d, hd, rfl⟩ := List.mem_map.1 hx
            have h1 := HRR.out d (List.mem_filter.1 hd).1
            simp [Dt.right] at h1
            simp [numB]; omega
          have HPA := hid hpa
          have HPO := hid hpo
          have hpc : wr.cell? ⟨w1.heap.size, k, none⟩ = some (ps k) := (cell_cells hpa).trans (four_get ps hk4)
          clear hpa hpo
          go_wp2_with fail
          refine (sof_any (numsL l k) (vs k) wr HSL.out HNB.out (by omega)).mono ?_
          rintro e w2 ⟨v2, rfl, ho2, hb2⟩
          obtain ⟨A2, n2, rfl⟩ := ho2.shape
          have hp2 := (hb2.block w1.heap.size hsi2).trans HPA.out
          have hc2 : w2.cell? ⟨w1.heap.size, k, none⟩ = some (ps k) := (cell_cells hp2).trans (four_get ps hk4)
          have hf2 : w2.frozen? ⟨w1.heap.size, k, none⟩ = false := cells_frz hp2
          have HP2 := hid hp2
          have HO2 := hid ho2
          clear hp2 ho2 hpc hidx
          go_wp2_with fail
          go_roundw
          case rel =>
            refine ⟨k + 1, by omega, by go_num, fun j => if j = k then .slice A2 (ofL (numsL l k)).length n2 else ps j, ?_, fun j hj => ?_, (hbi.trans (hb2.mono hsi)).setCell (Nat.le_refl _) _⟩
            · rw [cells_set HP2.out, four_set ps hk4]
            · by_cases e : j = k
              · subst e
                simp only [if_true, if_pos (Nat.lt_succ_self j)]
                exact (HO2.out.mono (by omega)).setOther (by simp) _
              · have e2 : (if j < k + 1 then ofL (numsL l (j : Int)) else []) = (if j < k then ofL (numsL l (j : Int)) else []) := by
                  by_cases e3 : j < k
                  · rw [if_pos e3, if_pos (by omega)]
                  · rw [if_neg e3, if_neg (by omega)]
                simp only [if_neg e]
                rw [e2]
                exact ((HPO.out j hj).grow hb2).setOther (by simp) _
          case measure => simp [intOf]; omega
        · obtain rfl : k = 4 := by omega
          have d0 : wr.cell? ⟨w1.heap.size, 0, none⟩ = some (ps 0) := cell_cells (i := 0) hpa
          have d1 : wr.cell? ⟨w1.heap.size, 1, none⟩ = some (ps 1) := cell_cells (i := 1) hpa
          have d2 : wr.cell? ⟨w1.heap.size, 2, none⟩ = some (ps 2) := cell_cells (i := 2) hpa
          have d3 : wr.cell? ⟨w1.heap.size, 3, none⟩ = some (ps 3) := cell_cells (i := 3) hpa
          have HOL : ∀ j : Nat, (ofL (numsL l (j : Int))).length ≤ 100001 := fun j => by have := ofL_len (numsL l (j : Int)); have := numsL_len l (j : Int); omega
          have HSP : Hid (∀ j, j < 4 → SlP wr wr.heap.size 2 RuE (ps j) (ofL (numsL l (j : Int)))) := fun j hj => by
            have := hpo j hj
            rw [if_pos hj] at this
            exact this.sl (by have := HOL j; unfold Big; omega)
          have HOLH := hid HOL
          clear hpa hpo HOL
          go_wp2_with fail
          refine (whole_any (fun j => ofL (numsL l (j : Int))) ps wr HSP.out (fun j _ => by have := HOLH.out j; show (ofL _).length ≤ _; omega)).mono ?_
          rintro e w2 ⟨v2, rfl, ho2, hb2⟩
          go_wp2_with fail
          go_ret2
          exact ⟨_, rfl, ho2.mono (by omega), (hb.trans (hbi.mono hsz)).trans (hb2.mono (by omega))⟩
end Go.Proofs.Ytdmhfiofgioihaa

namespace Go.Proofs.Ytdmhfiofgioihaa
open Go.RowKit
set_option maxRecDepth 100000

/-- What tree.Dots hands back. -/
def RetDots (t : Tr) (w : World) (e : Ending) (w' : World) : Prop :=
  ∃ v n, e = .returned (.tuple #[v, .int .i64 n]) ∧ n = (if t.right 5 then 0 else 1) ∧ OwnP w' w.heap.size 78 3 SpE v (if t.right 5 then ctxOf t.dots else []) ∧ Below w.heap.size w w'
set_option maxHeartbeats 1000000 in
theorem tdots_any (t : Tr) (ve vk : Value) (w : World) (h : t.rd w w.heap.size ve vk) (hN : t.sz ≤ 90000) :
    Calls Try.prog 47 #[.agg #[ve, vk]] w (RetDots t w) := by
  have HC : Hid (∀ w', Below w.heap.size w w' → t.rd w' w'.heap.size ve vk) := fun w' hb => rd_below hb hb.size _ _ _ h
  have hdl := dots_len t
  obtain ⟨A3, n3, A4, n4, rfl, rfl⟩ := rd_shape h
  have hb0 := (Below.refl w.heap.size w).alloc (Nat.le_refl _) (.cells #[.slice A3 t.es.length n3, .slice A4 t.ks.length n4] 25)
  clear h
  go_enter Try.func47, Try.ntmps47
  go_wp2_with fail
  refine (tRight_any t _ _ _ (HC.out _ hb0)).mono ?_
  rintro e w1 ⟨rfl, hb1⟩
  have hs1 := hb1.size
  simp only [World.size_alloc] at hs1
  have hB1 : Below w.heap.size w w1 := hb0.trans (hb1.mono (by simp))
  have c0 : w1.cell? ⟨w.heap.size, 0, none⟩ = some (.slice A3 t.es.length n3) := by rw [hb1.cell (p := ⟨w.heap.size, 0, none⟩) (by simp)]; simp
  have c1 : w1.cell? ⟨w.heap.size, 1, none⟩ = some (.slice A4 t.ks.length n4) := by rw [hb1.cell (p := ⟨w.heap.size, 1, none⟩) (by simp)]; simp
  cases hr : t.right 5
  · have HR := hid hr
    clear hr
    go_wp2_with fail
    go_ret2
    exact ⟨_, _, rfl, by rw [HR.out]; rfl, by rw [HR.out]; exact OwnP.nil, hB1⟩
  · have HR := hid hr
    have HD := hid (right_dots t 5 hr)
    clear hr
    go_wp2_with fail
    refine (tall_any t _ _ _ (HC.out _ hB1) (by omega)).mono ?_
    rintro e w2 ⟨v2, rfl, ho2, hb2⟩
    have hs2 := hb2.size
    have hsl := ho2.sl (by unfold Big; omega)
    clear ho2
    go_wp2_with fail
    refine (cof_any t.dots v2 w2 hsl HD.out (by omega)).mono ?_
    rintro e w3 ⟨v3, rfl, ho3, hb3⟩
    go_wp2_with fail
    go_ret2
    exact ⟨_, _, rfl, by rw [HR.out]; rfl, by rw [HR.out]; exact ho3.mono (by omega), (hB1.trans (hb2.mono (by omega))).trans (hb3.mono (by omega))⟩

theorem chk_eq {t : Tr} (h : t.right 5 = true) (d : Dt) : cHas (ctxOf t.dots) d = hasC (ctxOf t.dots) d := cHas_eq (apart_ctxOf (right_dots t 5 h)) d

/-- flag.Check's answer: 0 where a change may be made, else 1. -/
def chkI (t : Tr) (d : Dt) : Int := if chkT t d then 0 else 1
set_option maxHeartbeats 2000000 in
theorem fcheck_any (t : Tr) (d : Dt) (ve vk : Value) (w : World) (h : t.rd w w.heap.size ve vk) (hN : t.sz ≤ 90000) :
    Calls Try.prog 27 #[.agg #[ve, vk], .agg #[.int .i64 d.dc, .int .i64 d.n]] w fun e w' => e = .returned (.int .i64 (chkI t d)) ∧ Below w.heap.size w w' := by
  have HC : Hid (∀ w', Below w.heap.size w w' → t.rd w' w'.heap.size ve vk) := fun w' hb => rd_below hb hb.size _ _ _ h
  have hcl : (ctxOf t.dots).length ≤ 900000 := by have := ctxOfK_len t.dots 4; have := dots_len t; unfold ctxOf; omega
  have HCL := hid hcl
  obtain ⟨A3, n3, A4, n4, rfl, rfl⟩ := rd_shape h
  have hb0 := ((Below.refl w.heap.size w).alloc (Nat.le_refl _) (.cells #[.slice A3 t.es.length n3, .slice A4 t.ks.length n4] 25)).alloc (by simp) (.cells #[.int .i64 d.dc, .int .i64 d.n] 27)
  clear h hcl
  go_enter Try.func27, Try.ntmps27
  go_wp2_with fail
  refine (tdots_any t _ _ _ (HC.out _ hb0) hN).mono ?_
  rintro e w1 ⟨v1, n1, rfl, hn1, ho1, hb1⟩
  have hs1 := hb1.size
  simp only [World.size_alloc] at hs1
  have hB1 : Below w.heap.size w w1 := hb0.trans (hb1.mono (by simp; omega))
  have c0 : w1.cell? ⟨w.heap.size + 1, 0, none⟩ = some (.int .i64 d.dc) := by rw [hb1.cell (p := ⟨w.heap.size + 1, 0, none⟩) (by simp)]; simp
  have c1 : w1.cell? ⟨w.heap.size + 1, 1, none⟩ = some (.int .i64 d.n) := by rw [hb1.cell (p := ⟨w.heap.size + 1, 1, none⟩) (by simp)]; simp
  cases hr : t.right 5
  · have HR : Hid (chkT t d = false) := by unfold Hid chkT; rw [hr]; rfl
    rw [hr] at hn1
    obtain rfl : n1 = 1 := hn1
    clear hr ho1
    go_wp2_with fail
    go_ret
    exact ⟨ret_int (by rw [chkI, HR.out]; rfl), hB1⟩
  rw [hr] at hn1 ho1
  obtain rfl : n1 = 0 := hn1
  simp only [if_true] at ho1
  have hsl := ho1.sl (by have := HCL.out; unfold Big; omega)
  have HSL := hid hsl
  cases hd : d.right
  · have HR : Hid (chkT t d = false) := by unfold Hid chkT; rw [hr, hd]; rfl
    have HD := hid hd
    clear hr ho1 hsl hd
    go_wp2_with (go_at_call 48; refine (dright_any d _).mono ?_; rw [HD.out]; rintro e w2 ⟨rfl, hb2⟩)
    go_ret
    exact ⟨ret_int (by rw [chkI, HR.out]; rfl), hB1.trans (hb2.mono (by omega))⟩
  · have HR : Hid (chkT t d = !cHas (ctxOf t.dots) d) := by unfold Hid chkT; rw [hr, hd, chk_eq hr]; rfl
    have HD := hid hd
    clear hr ho1 hsl hd
    go_wp2_with fail
    refine (dright_any d _).mono ?_
    rw [HD.out]
    rintro e w2 ⟨rfl, hb2⟩
    have hs2 := hb2.size
    have d0 : w2.cell? ⟨w.heap.size + 1, 0, none⟩ = some (.int .i64 d.dc) := (hb2.cell (p := ⟨w.heap.size + 1, 0, none⟩) (by show w.heap.size + 1 < _; omega)).trans c0
    have d1 : w2.cell? ⟨w.heap.size + 1, 1, none⟩ = some (.int .i64 d.n) := (hb2.cell (p := ⟨w.heap.size + 1, 1, none⟩) (by show w.heap.size + 1 < _; omega)).trans c1
    go_wp2_with fail
    refine (chas_any (ctxOf t.dots) d v1 w2 (HSL.out.imp hb2 hs2 fun _ _ _ h => h) HCL.out).mono ?_
    rintro e w3 ⟨rfl, hb3⟩
    have hB3 := (hB1.trans (hb2.mono (by omega))).trans (hb3.mono (show w.heap.size ≤ _ by omega))
    generalize cHas (ctxOf t.dots) d = q at *
    cases q
    all_goals
      go_wp2_with fail
      go_ret
      exact ⟨ret_int (by rw [chkI, HR.out]; rfl), hB3⟩
end Go.Proofs.Ytdmhfiofgioihaa

namespace Go.Proofs.Ytdmhfiofgioihaa
open Go.RowKit
set_option maxRecDepth 100000

/-- The call hands back what is known, in blocks of its own, and an error's number. -/
def RetCE (w : World) (t : Tr) (c : List Sp) (k : Int) (e : Ending) (w' : World) : Prop :=
  ∃ ve vk vc, e = .returned (.tuple #[.agg #[ve, vk, vc], .int .i64 k]) ∧ t.rda w' (fun b => w.heap.size ≤ b ∧ b < w'.heap.size) ve vk ∧ SlA w' (fun b => w.heap.size ≤ b ∧ b < w'.heap.size) 3 SpE vc c ∧ Below w.heap.size w w'
theorem chkT_right {t : Tr} {d : Dt} (h : chkT t d = true) : d.right = true := by
  unfold chkT at h; simp at h; exact h.1.2
theorem chkT_tree {t : Tr} {d : Dt} (h : chkT t d = true) : t.right 5 = true := by
  unfold chkT at h; simp at h; exact h.1.1
theorem SlA.one {α : Type} {w : World} {ok : Nat → Prop} {sz n : Nat} {E : α → List Value → Prop} {x : α} {cs : List Value} {e : TypeId} {z : Nat × Nat} (hE : E x cs) (hl : cs.length = sz) (h : w.heap[n]? = some (.cells cs.toArray e z)) (ho : ok n) :
    SlA w ok sz E (.slice (some ⟨n, 0, none⟩) 1 1) [x] := by
  refine ⟨_, 1, rfl, Nat.le_refl _, by simp [Big], fun _ => ⟨_, 0, rfl, ho, fun j y hy => ?_⟩⟩
  match j, hy with
  | 0, hy =>
    simp at hy; subst hy
    exact ⟨cs, hE, hl, fun i u hi => by rw [cell_cells h]; simpa using hi⟩
theorem En.Ok.mk' {d : Dt} {n : Int} (hd : d.Ok) (hn : I64 n) : En.Ok ⟨d.dc, d.n, ByteArray.empty, n⟩ := ⟨hd.dc, hd.n, hn, by simp [Big]⟩
end Go.Proofs.Ytdmhfiofgioihaa

namespace Go.Proofs.Ytdmhfiofgioihaa
open Go.RowKit
set_option maxRecDepth 100000

theorem ctxOf_len (l : List Dt) : (ctxOf l).length ≤ 4 * (l.length + 1) := ctxOfK_len l 4
theorem ctxBy_len (a b : List Sp) (how : Int) : (ctxBy a b how).length ≤ 4 * (2 * a.length + 2 * b.length + 1) := ctxByK_len a b how 4
theorem right_one {d : Dt} (h : d.right = true) : ∀ x ∈ [d], x.right = true := fun x hx => by simp at hx; subst hx; exact h
/-- What a change of a flag has seen. -/
def seenC (t : Tr) (d : Dt) : List Sp := ctxBy (ctxOf t.dots) (ctxOf [d]) 0
theorem seenC_len (t : Tr) (d : Dt) : (seenC t d).length ≤ 4 * (8 * t.sz + 30) := by
  have h1 := ctxBy_len (ctxOf t.dots) (ctxOf [d]) 0
  have h2 := ctxOf_len t.dots
  have h3 := ctxOf_len [d]
  have h4 := dots_len t
  unfold seenC
  simp at h3
  omega

set_option maxHeartbeats 2000000 in
theorem seen_any (t : Tr) (d : Dt) (ve vk : Value) (w : World) (h : t.rd w w.heap.size ve vk) (hN : t.sz ≤ 4000) (hr : t.right 5 = true) (hd : d.right = true) (ho : d.Ok) :
    Calls Try.prog 28 #[.agg #[ve, vk], .agg #[.int .i64 d.dc, .int .i64 d.n]] w (RetO w 78 3 (fun _ => SpE) (seenC t d)) := by
  have HC : Hid (∀ w', Below w.heap.size w w' → t.rd w' w'.heap.size ve vk) := fun w' hb => rd_below hb hb.size _ _ _ h
  have hdl := dots_len t
  have h2 := ctxOf_len t.dots
  have h3 := ctxOf_len [d]
  simp only [List.length_singleton] at h3
  have HAA := hid (apart_ctxOf (right_dots t 5 hr))
  have HAB := hid (apart_ctxOf (right_one hd))
  have HDR := hid (right_one hd)
  obtain ⟨A3, n3, A4, n4, rfl, rfl⟩ := rd_shape h
  have hb0 := ((Below.refl w.heap.size w).alloc (Nat.le_refl _) (.cells #[.slice A3 t.es.length n3, .slice A4 t.ks.length n4] 25)).alloc (by simp) (.cells #[.int .i64 d.dc, .int .i64 d.n] 27)
  clear h
  go_enter Try.func28, Try.ntmps28
  go_wp2_with fail
  refine (tdots_any t _ _ _ (HC.out _ hb0) (by omega)).mono ?_
  rintro e w1 ⟨v1, n1, rfl, hn1, ho1, hb1⟩
  rw [hr] at ho1 hn1
  obtain rfl : n1 = 0 := hn1
  rw [if_pos rfl] at ho1
  have hs1 := hb1.size
  simp only [World.size_alloc] at hs1
  have hB1 : Below w.heap.size w w1 := hb0.trans (hb1.mono (by simp; omega))
  have c0 : w1.cell? ⟨w.heap.size + 1, 0, none⟩ = some (.int .i64 d.dc) := by rw [hb1.cell (p := ⟨w.heap.size + 1, 0, none⟩) (by simp)]; simp
  have c1 : w1.cell? ⟨w.heap.size + 1, 1, none⟩ = some (.int .i64 d.n) := by rw [hb1.cell (p := ⟨w.heap.size + 1, 1, none⟩) (by simp)]; simp
  have HO1 := hid ho1
  clear hr hd ho1
  go_wp2_with fail
  refine (cof_any [d] _ _ (SlP.oneB (E := DtE) (x := d) (cs := [.int .i64 d.dc, .int .i64 d.n]) ⟨rfl, ho⟩ rfl _ rfl (by simp)) HDR.out (by simp)).mono ?_
  rintro e w2 ⟨v2, rfl, ho2, hb2⟩
  have hs2 := hb2.size
  simp only [World.size_alloc] at hs2
  have hb2' : Below w1.heap.size w1 w2 := ((Below.refl _ w1).alloc (Nat.le_refl _) _).trans (hb2.mono (by simp))
  have hsl1 := (HO1.out.grow hb2').sl (by unfold Big; omega)
  have hsl2 := ho2.sl (by unfold Big; omega)
  have H1 := hid hsl1
  have H2 := hid hsl2
  clear hsl1 hsl2 ho2
  go_wp2_with fail
  refine (cunion_any (ctxOf t.dots) (ctxOf [d]) v1 v2 w2 H1.out H2.out HAA.out HAB.out (by omega) (by omega)).mono ?_
  rintro e w3 ⟨v3, rfl, ho3, hb3⟩
  go_wp2_with fail
  go_ret
  exact ⟨_, rfl, ho3.mono (by omega), (hB1.trans (hb2'.mono (by omega))).trans (hb3.mono (by omega))⟩

/-- flag.On's answer. -/
def onB (t : Tr) : Bool := t.right 5 && decide (0 < t.es.length)
theorem fon_any (t : Tr) (w : World) (ve vk : Value) (h : t.rd w w.heap.size ve vk) :
    Calls Try.prog 24 #[.agg #[ve, vk]] w fun e w' => e = .returned (.bool (onB t)) ∧ Below w.heap.size w w' := by
  have HC : Hid (∀ w', Below w.heap.size w w' → t.rd w' w'.heap.size ve vk) := fun w' hb => rd_below hb hb.size _ _ _ h
  have hfit := fit_rd _ _ _ h
  have hel : t.es.length ≤ 140737488355328 := by obtain ⟨es, ks⟩ := t; exact hfit.1
  obtain ⟨A3, n3, A4, n4, rfl, rfl⟩ := rd_shape h
  have hb0 := (Below.refl w.heap.size w).alloc (Nat.le_refl _) (.cells #[.slice A3 t.es.length n3, .slice A4 t.ks.length n4] 25)
  clear h hfit
  go_enter Try.func24, Try.ntmps24
  go_wp2_with fail
  refine (tRight_any t _ _ _ (HC.out _ hb0)).mono ?_
  rintro e w1 ⟨rfl, hb1⟩
  have hs1 := hb1.size
  simp only [World.size_alloc] at hs1
  have hB1 : Below w.heap.size w w1 := hb0.trans (hb1.mono (by simp))
  have c0 : w1.cell? ⟨w.heap.size, 0, none⟩ = some (.slice A3 t.es.length n3) := by rw [hb1.cell (p := ⟨w.heap.size, 0, none⟩) (by simp)]; simp
  cases hr : t.right 5
  · have HR : Hid (onB t = false) := by unfold Hid onB; rw [hr]; rfl
    clear hr
    go_wp2_with fail
    go_ret
    exact ⟨ret_bool HR.out.symm, hB1⟩
  · have HR : Hid (onB t = decide (0 < t.es.length)) := by unfold Hid onB; rw [hr]; rfl
    clear hr
    go_wp2_with fail
    go_ret
    exact ⟨ret_bool HR.out.symm, hB1⟩

/-- What flag.Disable knows. -/
def disC (t : Tr) (d : Dt) : List Sp := if chkT t d then seenC t d else []
set_option maxHeartbeats 4000000 in
theorem fdisable_any (t : Tr) (d : Dt) (ve vk : Value) (w : World) (h : t.rd w w.heap.size ve vk) (hN : t.sz ≤ 4000) (hd : d.Ok) :
    Calls Try.prog 8 #[.agg #[ve, vk], .agg #[.int .i64 d.dc, .int .i64 d.n]] w (RetCE w (.mk [] []) (disC t d) (chkI t d)) := by
  have HC : Hid (∀ w', Below w.heap.size w w' → t.rd w' w'.heap.size ve vk) := fun w' hb => rd_below hb hb.size _ _ _ h
  obtain ⟨A3, n3, A4, n4, rfl, rfl⟩ := rd_shape h
  have hb0 := (((Below.refl w.heap.size w).alloc (Nat.le_refl _) (.cells #[.slice A3 t.es.length n3, .slice A4 t.ks.length n4] 25)).alloc (by simp) (.cells #[.int .i64 d.dc, .int .i64 d.n] 27)).alloc (by simp; omega) (.cells #[.slice none 0 0, .slice none 0 0, .slice none 0 0] 33)
  clear h
  go_enter Try.func8, Try.ntmps8
  go_wp2_with fail
  refine (fcheck_any t d _ _ _ (HC.out _ hb0) (by omega)).mono ?_
  rintro e w1 ⟨rfl, hb1⟩
  have hs1 := hb1.size
  simp only [World.size_alloc] at hs1
  have hB1 : Below w.heap.size w w1 := hb0.trans (hb1.mono (by simp; omega))
  have c0 : w1.cell? ⟨w.heap.size, 0, none⟩ = some (.slice A3 t.es.length n3) := by
    rw [hb1.cell (p := ⟨w.heap.size, 0, none⟩) (by simp; omega)]
    rw [World.cell?_alloc_lt _ _ _ (by simp; omega), World.cell?_alloc_lt _ _ _ (by simp)]; simp
  have c1 : w1.cell? ⟨w.heap.size, 1, none⟩ = some (.slice A4 t.ks.length n4) := by
    rw [hb1.cell (p := ⟨w.heap.size, 1, none⟩) (by simp; omega)]
    rw [World.cell?_alloc_lt _ _ _ (by simp; omega), World.cell?_alloc_lt _ _ _ (by simp)]; simp
  have d0 : w1.cell? ⟨w.heap.size + 1, 0, none⟩ = some (.int .i64 d.dc) := by rw [hb1.cell (p := ⟨w.heap.size + 1, 0, none⟩) (by simp), World.cell?_alloc_lt _ _ _ (by simp)]; simp
  have d1 : w1.cell? ⟨w.heap.size + 1, 1, none⟩ = some (.int .i64 d.n) := by rw [hb1.cell (p := ⟨w.heap.size + 1, 1, none⟩) (by simp), World.cell?_alloc_lt _ _ _ (by simp)]; simp
  have hg : w1.heap[w.heap.size + 2]? = some (.cells #[.slice none 0 0, .slice none 0 0, .slice none 0 0] 33 (0, 0)) := (hb1.block (w.heap.size + 2) (by simp)).trans (heap_new (by simp))
  have HG := hid hg
  have k0 : w1.cell? ⟨w.heap.size + 2, 0, none⟩ = some (.slice none 0 0) := cell_cells (i := 0) hg
  have k1 : w1.cell? ⟨w.heap.size + 2, 1, none⟩ = some (.slice none 0 0) := cell_cells (i := 1) hg
  have k2 : w1.cell? ⟨w.heap.size + 2, 2, none⟩ = some (.slice none 0 0) := cell_cells (i := 2) hg
  have z0 := cells_frz (i := 0) hg
  have z1 := cells_frz (i := 1) hg
  have z2 := cells_frz (i := 2) hg
  clear hg hb1
  cases hc : chkT t d
  · have HE : Hid (chkI t d = 1) := by unfold Hid chkI; rw [hc]; rfl
    have HD : Hid (disC t d = []) := by unfold Hid disC; rw [hc]; rfl
    rw [HE.out]
    clear hc
    go_wp2_with fail
    obtain ⟨r0, r1, r2, hK, hS⟩ := box3 HG.out (.slice none 0 0) (.slice none 0 0) (.slice none 0 0)
    have hBW := ((hB1.setCell (p := ⟨w.heap.size + 2, 0, none⟩) (by simp) (.slice none 0 0)).setCell (p := ⟨w.heap.size + 2, 1, none⟩) (by simp) (.slice none 0 0)).setCell (p := ⟨w.heap.size + 2, 2, none⟩) (by simp) (.slice none 0 0)
    refine bodyPost_ret (v := .tuple #[.agg #[.slice none 0 0, .slice none 0 0, .slice none 0 0], .int .i64 1]) (by simp [results, Try.results8, go_sem, r0, r1, r2]) rfl ⟨_, _, _, by rw [HE.out], ?_, ?_, hBW⟩
    · exact rda_nil _ _
    · rw [HD.out]; exact SlA.nil
  · have HE : Hid (chkI t d = 0) := by unfold Hid chkI; rw [hc]; rfl
    have HD : Hid (disC t d = seenC t d) := by unfold Hid disC; rw [hc]; rfl
    have HDR := hid (chkT_right hc)
    have HTR := hid (chkT_tree hc)
    rw [HE.out]
    clear hc
    go_wp2_with fail
    refine (seen_any t d _ _ w1 (HC.out _ hB1) hN HTR.out HDR.out hd).mono ?_
    rintro e w2 ⟨v2, rfl, ho2, hb2⟩
    obtain ⟨A2, c2, rfl⟩ := ho2.shape
    have hs2 := hb2.size
    have hB2 : Below w.heap.size w w2 := hB1.trans (hb2.mono (by omega))
    have HG2 := hid ((hb2.block (w.heap.size + 2) (by omega)).trans HG.out)
    clear k0 k1 k2 z0 z1 z2 c0 c1 d0 d1
    have k0 : w2.cell? ⟨w.heap.size + 2, 0, none⟩ = some (.slice none 0 0) := cell_cells (i := 0) HG2.out
    have k1 : w2.cell? ⟨w.heap.size + 2, 1, none⟩ = some (.slice none 0 0) := cell_cells (i := 1) HG2.out
    have k2 : w2.cell? ⟨w.heap.size + 2, 2, none⟩ = some (.slice none 0 0) := cell_cells (i := 2) HG2.out
    have z0 := cells_frz (i := 0) HG2.out
    have z1 := cells_frz (i := 1) HG2.out
    have z2 := cells_frz (i := 2) HG2.out
    have HO2 := hid ho2
    have hsc := seenC_len t d
    clear ho2
    go_wp2_with fail
    obtain ⟨r0, r1, r2, hK, hS⟩ := box3 HG2.out (.slice none 0 0) (.slice none 0 0) (.slice A2 (seenC t d).length c2)
    have hBW := ((hB2.setCell (p := ⟨w.heap.size + 2, 0, none⟩) (by simp) (.slice none 0 0)).setCell (p := ⟨w.heap.size + 2, 1, none⟩) (by simp) (.slice none 0 0)).setCell (p := ⟨w.heap.size + 2, 2, none⟩) (by simp) (.slice A2 (seenC t d).length c2)
    refine bodyPost_ret (v := .tuple #[.agg #[.slice none 0 0, .slice none 0 0, .slice A2 (seenC t d).length c2], .int .i64 0]) (by simp [results, Try.results8, go_sem, r0, r1, r2]) rfl ⟨_, _, _, by rw [HE.out], rda_nil _ _, ?_, hBW⟩
    rw [HD.out]
    refine (HO2.out.sla (by unfold Big; omega)).up (fun b hb => hK b (by have := hb.1; omega)) (fun b hb => ⟨by have := hb.1; omega, by rw [hS]; exact hb.2.1⟩) (fun _ _ _ h => h)
end Go.Proofs.Ytdmhfiofgioihaa

namespace Go.Proofs.Ytdmhfiofgioihaa
open Go.RowKit
set_option maxRecDepth 100000

theorem spsOk_ctxOf {l : List Dt} (h : ∀ d ∈ l, d.right = true) : SpsOk (ctxOf l) := fun s hs => by
  have ha := apart_ctxOf h
  have hd := wholeK_dc (fun i => ofL (numsL l i)) 4 s hs
  unfold ctxOf ctxOfK at hs
  obtain ⟨i, _, hs⟩ := List.mem_flatMap.1 hs
  obtain ⟨r, hr, rfl⟩ := List.mem_map.1 hs
  have := runs_ok _ none (ofL_right (nums_ok h i)).1 r hr
  unfold runOk at this
  exact ⟨by show 0 ≤ r.1; omega, by show r.1 ≤ _; omega, by show 0 ≤ r.2; omega, by show r.2 ≤ _; omega⟩
theorem seen_eq {t : Tr} {d : Dt} (h : d.right = true) : seenC t d = ctxBy (ctxOf t.dots) [⟨d.dc, d.n, d.n⟩] 0 := by
  unfold seenC; rw [ctxOf_one h]
end Go.Proofs.Ytdmhfiofgioihaa

namespace Go.Proofs.Ytdmhfiofgioihaa
open Go.RowKit
set_option maxRecDepth 100000

theorem OwnP.single {α : Type} {w : World} {base n sz : Nat} {e : TypeId} {E : α → List Value → Prop} {x : α} {cs : List Value} (hE : E x cs) (hl : cs.length = sz) (h : w.heap[n]? = some (.cells cs.toArray e (0, 0))) (hb : base ≤ n) : OwnP w base e sz E (.slice (some ⟨n, 0, none⟩) 1 1) [x] := by
  refine ⟨[cs], ⟨rfl, fun j y hy => ?_⟩, by simp [hl], .inr ⟨n, 1, cs.toArray, rfl, hb, h, Nat.le_refl _, by simp [maxLen], by simp [hl], by simp [List.take_of_length_le (Nat.le_of_eq hl)]⟩⟩
  match j, hy with
  | 0, hy => simp at hy; subst hy; exact ⟨cs, rfl, hE, hl⟩
/-- Entries' own dots. -/
def ownD (t : Tr) : List Dt := t.es.map En.dot
theorem ownD_right {t : Tr} (h : t.right 5 = true) : ∀ d ∈ ownD t, d.right = true := fun d hd => right_dots t 5 h d (by
  obtain ⟨es, ks⟩ := t
  rw [Tr.dots]; exact List.mem_append_left _ hd)
theorem ownD_len (t : Tr) : (ownD t).length ≤ t.sz := by
  obtain ⟨es, ks⟩ := t
  unfold ownD; rw [List.length_map, Tr.sz]; simp only [Tr.es]; omega
/-- May the text be written? -/
def wrtB (t : Tr) (s : ByteArray) (d : Dt) : Bool := chkT t d && decide (s.size ≤ 30)
def wrtE (t : Tr) (s : ByteArray) (d : Dt) : Int := if wrtB t s d then 0 else 1
def wrtT (t : Tr) (s : ByteArray) (d : Dt) : Tr := if wrtB t s d then .mk [⟨d.dc, d.n, s, 0⟩] [] else .mk [] []
def wrtC (t : Tr) (s : ByteArray) (d : Dt) : List Sp := if wrtB t s d then ctxOf (d :: ownD t) else []
theorem wrtEn {d : Dt} {s : ByteArray} (hd : d.Ok) (hs : s.size ≤ Big) : EnE (⟨d.dc, d.n, s, 0⟩ : En) [.int .i64 d.dc, .int .i64 d.n, .string s, .int .i64 0] := ⟨rfl, hd.dc, hd.n, ⟨by show (_ : Int) ≤ 0; decide, by show (0 : Int) ≤ _; decide⟩, hs⟩

set_option maxHeartbeats 4000000 in
theorem rwrite_any (t : Tr) (s : ByteArray) (d : Dt) (ve vk : Value) (w : World) (h : t.rd w w.heap.size ve vk) (hs : s.size ≤ Big) (hN : t.sz ≤ 4000) (hd : d.Ok) :
    Calls Try.prog 41 #[.agg #[ve, vk], .string s, .agg #[.int .i64 d.dc, .int .i64 d.n]] w (RetCE w (wrtT t s d) (wrtC t s d) (wrtE t s d)) := by
  have hsb : s.size ≤ 140737488355328 := hs
  have hol := ownD_len t
  have HSL : Hid (SlP w w.heap.size 4 EnE ve t.es) := by obtain ⟨es, ks⟩ := t; exact (rd_iff.1 h).1
  have HC : Hid (∀ w', Below w.heap.size w w' → t.rd w' w'.heap.size ve vk) := fun w' hb => rd_below hb hb.size _ _ _ h
  obtain ⟨A3, n3, A4, n4, rfl, rfl⟩ := rd_shape h
  have hb0 := (((Below.refl w.heap.size w).alloc (Nat.le_refl _) (.cells #[.slice A3 t.es.length n3, .slice A4 t.ks.length n4] 25)).alloc (by simp) (.cells #[.int .i64 d.dc, .int .i64 d.n] 27)).alloc (by simp; omega) (.cells #[.slice none 0 0, .slice none 0 0, .slice none 0 0] 33)
  clear h
  go_enter Try.func41, Try.ntmps41
  go_wp2_with fail
  refine (fcheck_any t d _ _ _ (HC.out _ hb0) (by omega)).mono ?_
  rintro e w1 ⟨rfl, hb1⟩
  have hs1 := hb1.size
  simp only [World.size_alloc] at hs1
  have hB1 : Below w.heap.size w w1 := hb0.trans (hb1.mono (by simp; omega))
  have c0 : w1.cell? ⟨w.heap.size, 0, none⟩ = some (.slice A3 t.es.length n3) := by
    rw [hb1.cell (p := ⟨w.heap.size, 0, none⟩) (by simp; omega)]
    rw [World.cell?_alloc_lt _ _ _ (by simp; omega), World.cell?_alloc_lt _ _ _ (by simp)]; simp
  have c1 : w1.cell? ⟨w.heap.size, 1, none⟩ = some (.slice A4 t.ks.length n4) := by
    rw [hb1.cell (p := ⟨w.heap.size, 1, none⟩) (by simp; omega)]
    rw [World.cell?_alloc_lt _ _ _ (by simp; omega), World.cell?_alloc_lt _ _ _ (by simp)]; simp
  have d0 : w1.cell? ⟨w.heap.size + 1, 0, none⟩ = some (.int .i64 d.dc) := by rw [hb1.cell (p := ⟨w.heap.size + 1, 0, none⟩) (by simp), World.cell?_alloc_lt _ _ _ (by simp)]; simp
  have d1 : w1.cell? ⟨w.heap.size + 1, 1, none⟩ = some (.int .i64 d.n) := by rw [hb1.cell (p := ⟨w.heap.size + 1, 1, none⟩) (by simp), World.cell?_alloc_lt _ _ _ (by simp)]; simp
  have hg : w1.heap[w.heap.size + 2]? = some (.cells #[.slice none 0 0, .slice none 0 0, .slice none 0 0] 33 (0, 0)) := (hb1.block (w.heap.size + 2) (by simp)).trans (heap_new (by simp))
  have HG := hid hg
  have k0 : w1.cell? ⟨w.heap.size + 2, 0, none⟩ = some (.slice none 0 0) := cell_cells (i := 0) hg
  have k1 : w1.cell? ⟨w.heap.size + 2, 1, none⟩ = some (.slice none 0 0) := cell_cells (i := 1) hg
  have k2 : w1.cell? ⟨w.heap.size + 2, 2, none⟩ = some (.slice none 0 0) := cell_cells (i := 2) hg
  have z0 := cells_frz (i := 0) hg
  have z1 := cells_frz (i := 1) hg
  have z2 := cells_frz (i := 2) hg
  clear hg hb1
  cases hc : chkT t d
  · have HI : Hid (chkI t d = 1) := by unfold Hid chkI; rw [hc]; rfl
    have HE : Hid (wrtE t s d = 1) := by unfold Hid wrtE wrtB; rw [hc]; rfl
    have HTT : Hid (wrtT t s d = .mk [] []) := by unfold Hid wrtT wrtB; rw [hc]; rfl
    have HCC : Hid (wrtC t s d = []) := by unfold Hid wrtC wrtB; rw [hc]; rfl
    rw [HI.out]
    clear hc
    go_wp2_with fail
    obtain ⟨r0, r1, r2, hK, hS⟩ := box3 HG.out (.slice none 0 0) (.slice none 0 0) (.slice none 0 0)
    have hBW := ((hB1.setCell (p := ⟨w.heap.size + 2, 0, none⟩) (by simp) (.slice none 0 0)).setCell (p := ⟨w.heap.size + 2, 1, none⟩) (by simp) (.slice none 0 0)).setCell (p := ⟨w.heap.size + 2, 2, none⟩) (by simp) (.slice none 0 0)
    refine bodyPost_ret (v := .tuple #[.agg #[.slice none 0 0, .slice none 0 0, .slice none 0 0], .int .i64 1]) (by simp [results, Try.results41, go_sem, r0, r1, r2]) rfl ⟨_, _, _, by rw [HE.out], by rw [HTT.out]; exact rda_nil _ _, by rw [HCC.out]; exact SlA.nil, hBW⟩
  have HI : Hid (chkI t d = 0) := by unfold Hid chkI; rw [hc]; rfl
  rw [HI.out]
  have h30 : decide ((30 : Int) < (s.size : Int)) = !decide (s.size ≤ 30) := by rw [Bool.eq_iff_iff]; simp; omega
  cases hz : decide (s.size ≤ 30)
  · have HE : Hid (wrtE t s d = 1) := by unfold Hid wrtE wrtB; rw [hc, hz]; rfl
    have HTT : Hid (wrtT t s d = .mk [] []) := by unfold Hid wrtT wrtB; rw [hc, hz]; rfl
    have HCC : Hid (wrtC t s d = []) := by unfold Hid wrtC wrtB; rw [hc, hz]; rfl
    rw [hz] at h30
    simp only [Bool.not_false] at h30
    clear hc hz
    go_wp2_with fail
    obtain ⟨r0, r1, r2, hK, hS⟩ := box3 HG.out (.slice none 0 0) (.slice none 0 0) (.slice none 0 0)
    have hBW := ((hB1.setCell (p := ⟨w.heap.size + 2, 0, none⟩) (by simp) (.slice none 0 0)).setCell (p := ⟨w.heap.size + 2, 1, none⟩) (by simp) (.slice none 0 0)).setCell (p := ⟨w.heap.size + 2, 2, none⟩) (by simp) (.slice none 0 0)
    refine bodyPost_ret (v := .tuple #[.agg #[.slice none 0 0, .slice none 0 0, .slice none 0 0], .int .i64 1]) (by simp [results, Try.results41, go_sem, r0, r1, r2]) rfl ⟨_, _, _, by rw [HE.out], by rw [HTT.out]; exact rda_nil _ _, by rw [HCC.out]; exact SlA.nil, hBW⟩
  rw [hz] at h30
  simp only [Bool.not_true] at h30
  have HE : Hid (wrtE t s d = 0) := by unfold Hid wrtE wrtB; rw [hc, hz]; rfl
  have HTT : Hid (wrtT t s d = .mk [⟨d.dc, d.n, s, 0⟩] []) := by unfold Hid wrtT wrtB; rw [hc, hz]; rfl
  have HCC : Hid (wrtC t s d = ctxOf (d :: ownD t)) := by unfold Hid wrtC wrtB; rw [hc, hz]; rfl
  have hdr := chkT_right hc
  have htr := chkT_tree hc
  have HRA : Hid (∀ x ∈ d :: ownD t, x.right = true) := fun x hx => by
    rcases List.mem_cons.1 hx with rfl | hx
    · exact hdr
    · exact ownD_right htr x hx
  clear hc hz hdr htr
  have HGB : Hid (∀ w', Below w1.heap.size w1 w' → w'.cell? ⟨w.heap.size + 1, 0, none⟩ = some (.int .i64 d.dc) ∧ w'.cell? ⟨w.heap.size + 1, 1, none⟩ = some (.int .i64 d.n) ∧ w'.heap[w.heap.size + 2]? = some (.cells #[.slice none 0 0, .slice none 0 0, .slice none 0 0] 33 (0, 0))) := fun w' hb =>
    ⟨(hb.cell (p := ⟨w.heap.size + 1, 0, none⟩) (by show w.heap.size + 1 < _; omega)).trans d0, (hb.cell (p := ⟨w.heap.size + 1, 1, none⟩) (by show w.heap.size + 1 < _; omega)).trans d1, (hb.block _ (by omega)).trans HG.out⟩
  have hlt0 : w.heap.size < w1.heap.size := by omega
  have hne0 : w.heap.size ≠ w1.heap.size := by omega
  have hne1 : w.heap.size + 1 ≠ w1.heap.size := by omega
  clear k0 k1 k2 z0 z1 z2
  have HW0 : Hid (OwnP (w1.alloc (.cells #[.int .i64 d.dc, .int .i64 d.n] 27)) w1.heap.size 27 2 DtE (.slice (some ⟨w1.heap.size, 0, none⟩) 1 1) [d]) := OwnP.single (x := d) (cs := [.int .i64 d.dc, .int .i64 d.n]) ⟨rfl, hd⟩ rfl (heap_new rfl) (Nat.le_refl _)
  have hel : t.es.length ≤ 4000 := by unfold ownD at hol; rw [List.length_map] at hol; omega
  go_wp2_with fail
  go_loopw [9, 30] (fun v i wr => ∃ k : Nat, k ≤ t.es.length ∧ i = .int .i64 k ∧ OwnP wr w1.heap.size 27 2 DtE v (d :: (t.es.take k).map En.dot) ∧ Below w1.heap.size w1 wr) (fun _ i _ => t.es.length - (intOf i).toNat)
  case atStart => exact ⟨0, Nat.zero_le _, rfl, HW0.out, (Below.refl _ w1).alloc (Nat.le_refl _) _⟩
  case round =>
    obtain ⟨k, hk, rfl, hown, hb⟩ := hrel
    have hsz := hb.size
    have hB0 : Below w.heap.size w wr := hB1.trans (hb.mono (by omega))
    by_cases hlt : k < t.es.length
    · obtain ⟨x, hx⟩ : ∃ x, t.es[k]? = some x := ⟨_, List.getElem?_eq_getElem hlt⟩
      obtain ⟨Ae, ne, hve, _, _, b3⟩ := HSL.out
      cases hve
      obtain ⟨b, off, rfl, hbB, hcc⟩ := b3 (by intro h0; rw [h0] at hlt; simp at hlt)
      obtain ⟨cs, ⟨rfl, hok⟩, _, hu⟩ := hcc k _ hx
      have e0 : wr.cell? ⟨b, off + k * 4, none⟩ = some (.int .i64 x.dc) := (hB0.cell hbB).trans (hu 0 _ rfl)
      have e1 : wr.cell? ⟨b, off + k * 4 + 1, none⟩ = some (.int .i64 x.n) := (hB0.cell hbB).trans (hu 1 _ rfl)
      have e2 : wr.cell? ⟨b, off + k * 4 + 2, none⟩ = some (.string x.s) := (hB0.cell hbB).trans (hu 2 _ rfl)
      have e3 : wr.cell? ⟨b, off + k * 4 + 3, none⟩ = some (.int .i64 x.v) := (hB0.cell hbB).trans (hu 3 _ rfl)
      have hdx : x.dot.Ok := ⟨hok.dc, hok.n⟩
      have HX : Hid (d :: (t.es.take (k + 1)).map En.dot = d :: (t.es.take k).map En.dot ++ [x.dot]) := by
        unfold Hid; rw [List.take_add_one, hx]; simp
      have HL : Hid ((d :: (t.es.take k).map En.dot).length + [x.dot].length ≤ Few) := by unfold Hid Few; simp; omega
      have HBW : Hid (w1.heap.size ≤ wr.heap.size + 1 + 1) := by unfold Hid; omega
      clear hu hcc b3 hx hok c0 c1 d0 d1
      go_wp2_with (at_builtin; go_loud (refine wpList_few rfl (.tmp 34) (.tmp 37) _ rfl eiDot (by decide) (by decide) (fun _ _ h => h.one) rfl ((hown.alloc _).alloc _) rfl (SlP.one (x := x.dot) (cs := [.int .i64 x.dc, .int .i64 x.n]) ⟨rfl, hdx⟩ rfl _ (World.size_alloc _ _).symm) HL.out (by rw [World.size_alloc, World.size_alloc]; exact HBW.out) ?_); intro v1 w2 hown1 hb1 _)
      go_roundw
      case rel =>
        refine ⟨k + 1, by omega, by go_num, by rw [HX.out]; exact hown1, ((hb.alloc (by omega) _).alloc (by simp; omega) _).trans hb1⟩
      case measure => simp [intOf]; omega
    · obtain rfl : k = t.es.length := by omega
      rw [List.take_of_length_le (Nat.le_refl _)] at hown
      have hown : OwnP wr w1.heap.size 27 2 DtE _ (d :: ownD t) := hown
      have HO := hid (hown.sl (by unfold Big; simp; omega))
      clear hown c0 c1 d0 d1
      go_wp2_with fail
      refine (cof_any (d :: ownD t) _ wr HO.out HRA.out (by simp; omega)).mono ?_
      rintro e w2 ⟨v2, rfl, ho2, hb2⟩
      obtain ⟨A5, c5, rfl⟩ := ho2.shape
      have hs2 := hb2.size
      have hB2 : Below w1.heap.size w1 w2 := hb.trans (hb2.mono (by omega))
      obtain ⟨d0, d1, g6⟩ := HGB.out w2 hB2
      have HG2 := hid g6
      have k0 : w2.cell? ⟨w.heap.size + 2, 0, none⟩ = some (.slice none 0 0) := cell_cells (i := 0) g6
      have k1 : w2.cell? ⟨w.heap.size + 2, 1, none⟩ = some (.slice none 0 0) := cell_cells (i := 1) g6
      have k2 : w2.cell? ⟨w.heap.size + 2, 2, none⟩ = some (.slice none 0 0) := cell_cells (i := 2) g6
      have z0 := cells_frz (i := 0) g6
      have z1 := cells_frz (i := 1) g6
      have z2 := cells_frz (i := 2) g6
      have HO2 := hid ho2
      have hcl := ctxOf_len (d :: ownD t)
      have hlt2 : w.heap.size + 2 < w2.heap.size := by omega
      have hne2 : w.heap.size + 2 ≠ w2.heap.size := by omega
      clear g6 ho2
      generalize ctxOf (d :: ownD t) = C at *
      go_wp2_with fail
      obtain ⟨r0, r1, r2, hK, hS⟩ := box3 HG2.out (.slice (some ⟨w2.heap.size, 0, none⟩) 1 1) (.slice none 0 0) (.slice A5 C.length c5)
      have hBW : Below w.heap.size w (((w2.setCell ⟨w.heap.size + 2, 0, none⟩ (.slice (some ⟨w2.heap.size, 0, none⟩) 1 1)).setCell ⟨w.heap.size + 2, 1, none⟩ (.slice none 0 0)).setCell ⟨w.heap.size + 2, 2, none⟩ (.slice A5 C.length c5)) := (((hB1.trans (hB2.mono (by omega))).setCell (by simp) _).setCell (by simp) _).setCell (by simp) _
      clear k0 k1 k2 z0 z1 z2
      generalize (((w2.setCell ⟨w.heap.size + 2, 0, none⟩ (.slice (some ⟨w2.heap.size, 0, none⟩) 1 1)).setCell ⟨w.heap.size + 2, 1, none⟩ (.slice none 0 0)).setCell ⟨w.heap.size + 2, 2, none⟩ (.slice A5 C.length c5)) = W at *
      have q0 : (W.alloc (.cells #[.int .i64 d.dc, .int .i64 d.n, .string s, .int .i64 0] 46)).cell? ⟨w.heap.size + 1 + 1, 0, none⟩ = some (.slice (some ⟨w2.heap.size, 0, none⟩) 1 1) := by rw [World.cell?_alloc_lt _ _ _ (by show w.heap.size + 2 < _; omega)]; exact r0
      have q1 : (W.alloc (.cells #[.int .i64 d.dc, .int .i64 d.n, .string s, .int .i64 0] 46)).cell? ⟨w.heap.size + 1 + 1, 1, none⟩ = some (.slice none 0 0) := by rw [World.cell?_alloc_lt _ _ _ (by show w.heap.size + 2 < _; omega)]; exact r1
      have q2 : (W.alloc (.cells #[.int .i64 d.dc, .int .i64 d.n, .string s, .int .i64 0] 46)).cell? ⟨w.heap.size + 1 + 1, 2, none⟩ = some (.slice A5 C.length c5) := by rw [World.cell?_alloc_lt _ _ _ (by show w.heap.size + 2 < _; omega)]; exact r2
      refine bodyPost_ret (v := .tuple #[.agg #[.slice (some ⟨w2.heap.size, 0, none⟩) 1 1, .slice none 0 0, .slice A5 C.length c5], .int .i64 0]) (by simp [results, Try.results41, go_sem, q0, q1, q2]) rfl ⟨_, _, _, by rw [HE.out], ?_, ?_, hBW.alloc (by omega) _⟩
      · rw [HTT.out, rda_iff]
        refine ⟨?_, SlA.nil⟩
        exact SlA.one (x := (⟨d.dc, d.n, s, 0⟩ : En)) (cs := [.int .i64 d.dc, .int .i64 d.n, .string s, .int .i64 0]) (e := 46) (z := (0, 0)) (wrtEn hd hs) rfl (heap_new hS.symm) ⟨by omega, by rw [World.size_alloc]; omega⟩
      · rw [HCC.out]
        refine (HO2.out.sla (by unfold Big; simp at hcl; omega)).up (fun b hb => (heap_old (by have := hb.2.1; omega)).trans (hK b (by have := hb.1; omega))) (fun b hb => ⟨by have := hb.1; omega, by rw [World.size_alloc]; have := hb.2.1; omega⟩) (fun _ _ _ h => h)
end Go.Proofs.Ytdmhfiofgioihaa

namespace Go.Proofs.Ytdmhfiofgioihaa
open Go.RowKit
set_option maxRecDepth 100000

def vB : ByteArray := ⟨#[118]⟩
def vT : Tr := .mk [⟨1, 1, vB, 0⟩] []
theorem srtL_one (s : ByteArray) : srtL [s] = [s] := by
  unfold srtL
  rw [List.map_cons, List.map_nil, List.mergeSort_singleton]; rfl
theorem cmpL_one (s : ByteArray) : cmpL [s] = [s] := by
  unfold cmpL
  rw [show Lib.compact ([s].map toBy) = [toBy s] by simp [Lib.compact, Lib.compactUpTo, Lib.keeps, List.range_succ]]; rfl
theorem awk13_E : wrtE (.mk [] []) vB ⟨1, 1⟩ = 0 := by kernel_rfl
theorem awk13_T : wrtT (.mk [] []) vB ⟨1, 1⟩ = vT := by kernel_rfl
theorem awk13_C : wrtC (.mk [] []) vB ⟨1, 1⟩ = ctxBy [] [⟨1, 1, 1⟩] 0 := by kernel_rfl
theorem awk13_R : vT.right 5 = true := by kernel_rfl
theorem awk13_V : valsOf vT = [vB] := by
  unfold valsOf
  rw [awk13_R, if_pos rfl, show txtL vT = [vB] from rfl, srtL_one, cmpL_one]
set_option maxHeartbeats 4000000 in
theorem awake13_any (w : World) : Calls Try.prog 19 #[] w fun e w' => e = .returned (.bool true) ∧ Below w.heap.size w w' := by
  have hb0 := (Below.refl w.heap.size w).alloc (Nat.le_refl _) (.cells #[.int .i64 1, .int .i64 1] 27)
  go_enter Try.func19, Try.ntmps19
  go_wp2_with fail
  refine (rwrite_any (.mk [] []) vB ⟨1, 1⟩ _ _ _ rd_empty (by decide) (by simp [Tr.sz, Tr.szL]) ⟨⟨by decide, by decide⟩, ⟨by decide, by decide⟩⟩).mono ?_
  rintro e w1 ⟨ve, vk, vc, rfl, hrd, hsc, hb1⟩
  rw [awk13_E]
  rw [awk13_T] at hrd
  rw [awk13_C] at hsc
  have hP : buildL [([], ⟨1, 1, vB, 0⟩)] = vT := build_one_leaf _
  have hV := awk13_V
  have hkn : vT.es.length ≤ 900000 := by decide
  generalize vT = T at *
  have hP2 : trEq T (buildL [([], ⟨1, 1, vB, 0⟩)]) = true := by rw [hP]; simp [trEq]
  generalize hC : ctxBy [] [(⟨1, 1, 1⟩ : Sp)] 0 = C at hsc
  obtain ⟨C', hC'⟩ : ∃ C', C' = C := ⟨_, rfl⟩
  have HSM : Hid ((trEq T (buildL [([], ⟨1, 1, vB, 0⟩)]) && decide (C = C')) = true) := by
    unfold Hid; rw [hP2, hC']; simp
  have HPC : Hid (ctxBy [] [(⟨1, 1, 1⟩ : Sp)] 0 = C') := hC.trans hC'.symm
  have HAK : Hid (decide (valsOf T = [vB]) = true) := by unfold Hid; rw [hV]; simp
  have HKL : Hid ((valsOf T).length ≤ Big) := by unfold Hid; rw [hV]; decide
  have HAZ : Hid (vB.size ≤ Big) := by unfold Hid; decide
  clear hC' hP hP2 hC hV
  obtain ⟨Ae, ne, Ak, nk, rfl, rfl⟩ := rda_shape hrd
  obtain ⟨Ac, nc, rfl⟩ := hsc.shape
  have hs1 := hb1.size
  simp only [World.size_alloc] at hs1
  have hB1 : Below w.heap.size w w1 := hb0.trans (hb1.mono (by simp))
  have d0 : w1.cell? ⟨w.heap.size, 0, none⟩ = some (.int .i64 1) := by rw [hb1.cell (p := ⟨w.heap.size, 0, none⟩) (by simp)]; simp
  have d1 : w1.cell? ⟨w.heap.size, 1, none⟩ = some (.int .i64 1) := by rw [hb1.cell (p := ⟨w.heap.size, 1, none⟩) (by simp)]; simp
  have HT : Hid (∀ w', Below w1.heap.size w1 w' → T.rd w' w'.heap.size (.slice Ae T.es.length ne) (.slice Ak T.ks.length nk)) := fun w' hb => rda_rd hrd (fun b hb => hb.2) hb
  have HCt : Hid (∀ w', Below w1.heap.size w1 w' → SlP w' w'.heap.size 3 SpE (.slice Ac C.length nc) C) := fun w' hb => hsc.slp (fun b hb => hb.2) hb
  have HB : Hid (∀ w', Below (w1.heap.size + 1) (w1.alloc (.cells #[.slice Ae T.es.length ne, .slice Ak T.ks.length nk, .slice Ac C.length nc] 33)) w' → Below w.heap.size w w' ∧ Below w1.heap.size w1 w' ∧ (w'.cell? ⟨w.heap.size, 0, none⟩ = some (.int .i64 1) ∧ w'.cell? ⟨w.heap.size, 1, none⟩ = some (.int .i64 1) ∧ w'.cell? ⟨w1.heap.size, 0, none⟩ = some (.slice Ae T.es.length ne) ∧ w'.cell? ⟨w1.heap.size, 1, none⟩ = some (.slice Ak T.ks.length nk) ∧ w'.cell? ⟨w1.heap.size, 2, none⟩ = some (.slice Ac C.length nc))) := fun w' hb => by
    have hB : Below w1.heap.size w1 w' := ((Below.refl _ w1).alloc (Nat.le_refl _) _).trans (hb.mono (by omega))
    refine ⟨hB1.trans (hB.mono (by omega)), hB, ?_, ?_, ?_, ?_, ?_⟩
    · rw [hB.cell (p := ⟨w.heap.size, 0, none⟩) (by show w.heap.size < _; omega)]; exact d0
    · rw [hB.cell (p := ⟨w.heap.size, 1, none⟩) (by show w.heap.size < _; omega)]; exact d1
    · rw [hb.cell (p := ⟨w1.heap.size, 0, none⟩) (by simp), World.cell?_alloc_new]; rfl
    · rw [hb.cell (p := ⟨w1.heap.size, 1, none⟩) (by simp), World.cell?_alloc_new]; rfl
    · rw [hb.cell (p := ⟨w1.heap.size, 2, none⟩) (by simp), World.cell?_alloc_new]; rfl
  have hne1 : w.heap.size < w1.heap.size := by omega
  clear hrd hsc hb1
  go_upto_region 3 with (fail)
  go_region_held3 (fun w' => w'.cell? ⟨w.heap.size, 0, none⟩ = some (.int .i64 1) ∧ w'.cell? ⟨w.heap.size, 1, none⟩ = some (.int .i64 1) ∧ w'.cell? ⟨w1.heap.size, 0, none⟩ = some (.slice Ae T.es.length ne) ∧ w'.cell? ⟨w1.heap.size, 1, none⟩ = some (.slice Ak T.ks.length nk) ∧ w'.cell? ⟨w1.heap.size, 2, none⟩ = some (.slice Ac C.length nc))
    (first | go_keep | exact (HB.out _ hb6.out).2.2 | exact (HB.out _ hb5.out).2.2 | exact (HB.out _ hb4.out).2.2 | exact (HB.out _ hb3.out).2.2)
    (first | (go_at_call 22; go_loud ((refine (rvals_any T _ _ _ (HT.out _ (by go_grown)) hkn).mono ?_); rintro e w3 ⟨v3, rfl, ho3, hb⟩; obtain ⟨A9, c9, hv9⟩ := ho3.shape; subst hv9; have HK3 := hid (ho3.sl HKL.out); have hb3 : Hid (Below (w1.heap.size + 1) (w1.alloc (.cells #[.slice Ae T.es.length ne, .slice Ak T.ks.length nk, .slice Ac C.length nc] 33)) w3) := (Below.trans (by go_grown) (hb.mono (by simp))); have hs3 := hb3.out.size; simp only [World.size_alloc] at hs3; (try (have HKC : Hid (w3.cell? ⟨w1.heap.size + 1, 0, none⟩ = some (.string vB)) := (hb.cell (p := ⟨w1.heap.size + 1, 0, none⟩) (by simp; done)).trans (by rw [World.cell?_drew, World.cell?_alloc_at _ _ _ _ (by simp)]; rfl))); (try (have HKC : Hid (w3.cell? ⟨w1.heap.size + 1, 0, none⟩ = some (.string vB)) := (hb.cell (p := ⟨w1.heap.size + 1, 0, none⟩) (by simp; done)).trans (by rw [World.cell?_alloc_at _ _ _ _ (by simp)]; rfl))); clear ho3))
           | (go_at_call 17; go_loud ((refine (r10alike_any (valsOf T) [vB] _ _ _ (w3.heap.size + 1) (HK3.out.imp (by go_grown) (by omega) fun _ _ _ h => h) (by first | exact SlP.oneB (x := vB) (cs := [.string vB]) ⟨rfl, HAZ.out⟩ rfl _ rfl (by omega) | exact SlP.at1 HKC.out HAZ.out (by have := hb.size; simp at this; omega))).mono ?_); rw [HAK.out]; rintro e w4 ⟨rfl, n4, hw4⟩; have hb4 : Hid (Below (w1.heap.size + 1) (w1.alloc (.cells #[.slice Ae T.es.length ne, .slice Ak T.ks.length nk, .slice Ac C.length nc] 33)) w4) := (hw4 ▸ below_drewN (by first | exact hb3.out | exact hb3.out.alloc (by omega) _) n4); have hs4 := hb4.out.size; simp only [World.size_alloc] at hs4; clear hw4))
           | (go_at_call 25; go_loud ((refine (r10put_any [] ⟨1, 1, vB, 0⟩ [] _ _ _ ⟨⟨by decide, by decide⟩, ⟨by decide, by decide⟩, ⟨by decide, by decide⟩, HAZ.out⟩ SlP.nil SlP.nil (by simp) (fun _ h => by cases h) (fun s hs => by simp at hs; subst hs; decide)).mono ?_); rw [HPC.out]; rintro e w5 ⟨ve5, vk5, vc5, rfl, hrd5, hsc5, hb⟩; obtain ⟨A5, n5, A6, n6, hv5, hv6⟩ := rda_shape hrd5; subst hv5; subst hv6; obtain ⟨A7, n7, hv7⟩ := hsc5.shape; subst hv7; have hrd6 := hid (rda_rd hrd5 (fun b hb => hb.2) (Below.refl _ _)); have hsc6 := hid (hsc5.slp (fun b hb => hb.2) (Below.refl _ _)); clear hrd5 hsc5; have hb5 := hid (hb4.out.trans (hb.mono (by omega)))))
           | (go_at_call 10; go_loud ((refine (r09same_any T _ C C' _ _ _ _ _ _ w5 (HT.out _ (HB.out _ hb5.out).2.1) hrd6.out (HCt.out _ (HB.out _ hb5.out).2.1) hsc6.out).mono ?_); rw [HSM.out]; rintro e w6 ⟨rfl, hb⟩; have hb6 := hid (hb5.out.trans (hb.mono (by have := hb5.out.size; simpa using this))))))
  all_goals
    go_wp2_with fail
    go_ret
    exact ⟨rfl, (HB.out _ hb6.out).1⟩
end Go.Proofs.Ytdmhfiofgioihaa

namespace Go.Proofs.Ytdmhfiofgioihaa
open Go.RowKit
set_option maxRecDepth 100000

set_option maxHeartbeats 4000000 in
theorem lawRV_any (t : Tr) (w : World) (ve vk : Value) (h : t.rd w w.heap.size ve vk) :
    Calls Try.prog 5 #[.agg #[ve, vk]] w fun e w' => e = .returned (.bool true) ∧ Below w.heap.size w w' := by
  have HC : Hid (∀ w', Below w.heap.size w w' → t.rd w' w'.heap.size ve vk) := fun w' hb => rd_below hb hb.size _ _ _ h
  obtain ⟨A3, n3, A4, n4, rfl, rfl⟩ := rd_shape h
  have HB : Hid (∀ w', Below (w.heap.size + 1) (w.alloc (.cells #[.slice A3 t.es.length n3, .slice A4 t.ks.length n4] 25)) w' → Below w.heap.size w w' ∧ w.heap.size + 1 ≤ w'.heap.size ∧ w'.cell? ⟨w.heap.size, 0, none⟩ = some (.slice A3 t.es.length n3) ∧ w'.cell? ⟨w.heap.size, 1, none⟩ = some (.slice A4 t.ks.length n4)) := fun w' hb =>
    ⟨((Below.refl _ w).alloc (Nat.le_refl _) _).trans (hb.mono (by omega)), by have := hb.size; simpa using this, by rw [hb.cell (p := ⟨w.heap.size, 0, none⟩) (by simp)]; simp, by rw [hb.cell (p := ⟨w.heap.size, 1, none⟩) (by simp)]; simp⟩
  clear h
  go_enter Try.func5, Try.ntmps5
  go_wp2_with fail
  refine (awake13_any _).mono ?_
  rintro e w1 ⟨rfl, hb1⟩
  have hb1' := hid (hb1.mono (show w.heap.size + 1 ≤ _ by simp))
  clear hb1
  obtain ⟨_, _, c0, c1⟩ := HB.out _ hb1'.out
  go_wp2_with fail
  refine (small13_any t w1 _ _ (HC.out _ (HB.out _ hb1'.out).1)).mono ?_
  rintro e w2 ⟨rfl, hb2⟩
  have hb2' := hid (hb1'.out.trans (hb2.mono (HB.out _ hb1'.out).2.1))
  clear hb2 c0 c1
  obtain ⟨hB2, hs2, c0, c1⟩ := HB.out _ hb2'.out
  cases hs : smlB t 60
  · clear hs
    go_wp2_with fail
    refine (awake13_any _).mono ?_
    rintro e w3 ⟨rfl, hb3⟩
    have hb3' := hb2'.out.trans (hb3.mono hs2)
    go_wp2_with fail
    go_ret
    exact ⟨rfl, (HB.out _ hb3').1⟩
  have hen : t.es.length ≤ 900000 := by
    have := sml_sz hs
    obtain ⟨es, ks⟩ := t
    rw [Tr.sz] at this; simp only [Tr.es]; omega
  clear hs
  go_wp2_with fail
  refine (r08Right_any t w2 _ _ (HC.out _ hB2)).mono ?_
  rintro e w3 ⟨rfl, hb3⟩
  have hb3' := hid (hb2'.out.trans (hb3.mono hs2))
  clear hb3 c0 c1
  obtain ⟨hB3, hs3, c0, c1⟩ := HB.out _ hb3'.out
  cases hr : t.right 5
  · have hk : valsOf t = [] := by unfold valsOf; rw [hr, sd_eq]; rfl
    clear hr
    go_wp2_with fail
    refine (rvals_any t w3 _ _ (HC.out _ hB3) hen).mono ?_
    rw [hk]
    rintro e w4 ⟨v4, rfl, ho4, hb4⟩
    have hs4 := hb4.size
    have hb4' := hb3'.out.trans (hb4.mono hs3)
    have HS4 := hid (ho4.sl (by simp))
    obtain ⟨A5, n5, rfl⟩ := ho4.shape
    clear ho4 c0 c1
    go_wp2_with fail
    refine (r10alike_any [] [] _ _ w4 w4.heap.size HS4.out SlP.nil).mono ?_
    rintro e w5 ⟨rfl, n, rfl⟩
    go_wp2_with fail
    go_ret
    exact ⟨rfl, below_drewN (HB.out _ hb4').1 n⟩
  · have hk : valsOf t = sdL (t.es.map (·.s)) := by unfold valsOf; rw [hr, sd_eq]; rfl
    clear hr
    go_wp2_with fail
    refine (r10texts_any t w3 _ _ (HC.out _ hB3) hen).mono ?_
    have hkl : (sdL (t.es.map (·.s))).length ≤ 900000 := by
      have h1 : valsOf t = cmpL (srtL (t.es.map (·.s))) := by rw [hk, sd_eq]
      rw [← hk, h1]
      unfold cmpL
      have h2 := Lib.compact_length_le ((srtL (t.es.map (·.s))).map toBy)
      rw [List.length_map, srtL_len, List.length_map] at h2
      rw [List.length_map]; omega
    generalize sdL (t.es.map (·.s)) = K at *
    rintro e w4 ⟨v4, rfl, ho4, hb4⟩
    have hb4' := hid (hb3'.out.trans (hb4.mono hs3))
    obtain ⟨A5, n5, rfl⟩ := ho4.shape
    have HO4 := hid ho4
    clear hb4 ho4 c0 c1
    obtain ⟨hB4, hs4, c0, c1⟩ := HB.out _ hb4'.out
    go_wp2_with fail
    refine (rvals_any t w4 _ _ (HC.out _ hB4) hen).mono ?_
    rw [hk]
    rintro e w5 ⟨v5, rfl, ho5, hb5⟩
    have hs5 := hb5.size
    have hb5' := hb4'.out.trans (hb5.mono hs4)
    have HS5 := hid (ho5.sl (by unfold Big; omega))
    have HS4 := hid ((HO4.out.grow hb5).sl (by unfold Big; omega))
    obtain ⟨A6, n6, rfl⟩ := ho5.shape
    clear ho5 c0 c1 hk
    go_wp2_with fail
    refine (r10alike_any K K _ _ w5 w5.heap.size HS5.out HS4.out).mono ?_
    rw [decide_eq_true rfl]
    rintro e w6 ⟨rfl, n, rfl⟩
    go_wp2_with fail
    go_ret
    exact ⟨rfl, below_drewN (HB.out _ hb5').1 n⟩
end Go.Proofs.Ytdmhfiofgioihaa

namespace Go.Proofs.Ytdmhfiofgioihaa
open Go.ChangeShapes Go.WideShapes Go.ChangeAt Go.RowKit
set_option maxRecDepth 100000

/-- No weight of a datum is beyond the reach. -/
def Wt {H : Type} (P : Program) (t : TypeId) (d : DataW H) : Prop := ∀ m ∈ d.weights P t, m ≤ reachBytes

section
variable {H : Type} {enc : TypeId × Value → H} {w : World}

theorem Wt.field {P : Program} {t : TypeId} {fs : Array Field} {parts : List (DataW H)} (hu : P.underlying t = some (.struct fs)) (h : Wt P t (.agg parts)) {i : Nat} {f : Field} {d : DataW H} (hf : fs[i]? = some f) (hd : parts[i]? = some d) : Wt P f.type d := fun m hm => by
  refine h m ?_
  unfold DataW.weights
  rw [hu]
  exact DataW.weights_mem_each (j := i) (t := f.type) (d := d) (by simp [hf]) hd m hm
theorem Wt.all {P : Program} {e : TypeId} : ∀ {ds : List (DataW H)} {d : DataW H}, d ∈ ds → ∀ m ∈ d.weights P e, m ∈ DataW.weightsAll P e ds
  | x :: ds, d, hd, m, hm => by
    rw [DataW.weightsAll]
    rcases List.mem_cons.1 hd with rfl | hd
    · exact List.mem_append_left _ hm
    · exact List.mem_append_right _ (Wt.all hd m hm)
theorem Wt.elem {P : Program} {t e : TypeId} {elems spare : List (DataW H)} (hu : P.underlying t = some (.slice e)) (h : Wt P t (.slice elems spare)) : (elems.length + spare.length) * P.bytesOf e ≤ reachBytes ∧ ∀ d ∈ elems, Wt P e d := by
  unfold Wt at h
  unfold DataW.weights at h
  rw [hu] at h
  refine ⟨h _ (by simp), fun d hd m hm => h m ?_⟩
  exact List.mem_cons_of_mem _ (List.mem_append_left _ (Wt.all hd m hm))

theorem wf_i64 {n : Int} (h : (Lit.int .i64 n).wf = true) : I64 n := by
  have h1 : IntKind.i64.min = -9223372036854775808 := rfl
  have h2 : IntKind.i64.max = 9223372036854775807 := rfl
  simp only [Lit.wf, Bool.and_eq_true, decide_eq_true_eq] at h
  unfold I64; omega

/-- A slice, whose elements are opened by hel. -/
theorem slc_open {α : Type} {E : α → List Value → Prop} {t e : TypeId} {sz bytes fuel : Nat} {cs : List Value} {x : DataW H × List MemPlace} (hu : Try.prog.underlying t = some (.slice e)) (hC : Try.prog.cellsOf e = sz) (hsz : 0 < sz) (hB : Try.prog.bytesOf e = bytes) (hb : 0 < bytes)
    (h : DataW.trod enc Try.prog w 0 (fun _ => true) true fuel t cs = some x) (hw : Wt Try.prog t x.1)
    (hel : ∀ n cs y, n < fuel → DataW.trod enc Try.prog w 0 (fun _ => true) true n e cs = some y → Wt Try.prog e y.1 → ∃ a, E a cs) :
    ∃ v xs, cs = [v] ∧ SlP w w.heap.size sz E v xs := by
  rcases DataW.trod_slice hu h with ⟨rfl, rfl⟩ | ⟨a, len, cap, elems, rest, n, rfl, rfl, rfl, _, hl, hm, hlen, he, hs, _⟩
  · exact ⟨_, [], rfl, SlP.nil⟩
  · obtain ⟨hr, hwe⟩ := Wt.elem hu hw
    rw [hB, List.length_map, List.length_map] at hr
    have hrl := (hs rfl).1
    have hcap : cap ≤ Big := by
      have h1 : (elems.length + rest.length) * 1 ≤ (elems.length + rest.length) * bytes := Nat.mul_le_mul_left _ hb
      unfold reachBytes at hr; unfold Big; omega
    have key : ∀ i, i < len → ∃ (x : α) (c : List Value), E x c ∧ c.length = sz ∧ ∀ j, j < sz → w.cell? (a.add (i * sz + j)) = c[j]? := fun i hi => by
      have h1 := he i hi
      have h2 : elems[i]? = some elems[i] := List.getElem?_eq_getElem (by omega)
      rw [h2] at h1
      obtain ⟨c, h3, h4⟩ := Option.bind_eq_some_iff.1 h1
      obtain ⟨_, h5, h6⟩ := World.cells?_some h3
      obtain ⟨x, hx⟩ := hel n c elems[i] (Nat.lt_succ_self n) h4 (hwe _ (List.mem_map.2 ⟨elems[i], List.getElem_mem _, rfl⟩))
      rw [hC] at h5 h6
      exact ⟨x, c, hx, h5, fun j hj => by rw [← Go.Deep.add_add]; exact h6 j hj⟩
    rcases Nat.eq_zero_or_pos len with h0 | h0
    · subst h0
      exact ⟨_, [], rfl, ⟨some a, cap, rfl, Nat.zero_le _, Nat.zero_le _, fun h => absurd rfl h⟩⟩
    · obtain ⟨x0, c0, _, hc0, hcell0⟩ := key 0 h0
      have hv0 := hcell0 0 hsz
      rw [List.getElem?_eq_getElem (by omega)] at hv0
      obtain ⟨b, off, spot⟩ := a
      have hspot : spot = none := by simpa [Addr.add] using World.cell?_spot hv0
      subst hspot
      have hbl : b < w.heap.size := by
        have := World.block_lt_of_cell? w _ hv0
        simpa [Addr.add] using this
      classical
      refine ⟨_, (List.range len).map fun i => if hi : i < len then Classical.choose (key i hi) else x0, rfl, some ⟨b, off, none⟩, cap, by simp, by simp; omega, by simp; omega, fun _ => ⟨b, off, rfl, hbl, fun j x hx => ?_⟩⟩
      have hj : j < len := by have := (List.getElem?_eq_some_iff.1 hx).1; simpa using this
      rw [List.getElem?_map, List.getElem?_range hj] at hx
      simp only [Option.map_some, dif_pos hj, Option.some.injEq] at hx
      obtain ⟨c, h1, h2, h3⟩ := Classical.choose_spec (key j hj)
      rw [hx] at h1
      refine ⟨c, h1, h2, fun i u hi => ?_⟩
      have hlt : i < sz := by have := (List.getElem?_eq_some_iff.1 hi).1; omega
      have := h3 i hlt
      rw [hi] at this
      rw [← this]
      congr 1
      simp [Addr.add, Nat.add_assoc]

theorem cellsDot : Try.prog.cellsOf 27 = 2 := by kernel_rfl
theorem cellsEntry : Try.prog.cellsOf 46 = 4 := by kernel_rfl
theorem cellsTree : Try.prog.cellsOf 25 = 2 := by kernel_rfl
theorem cellsKid : Try.prog.cellsOf 65 = 3 := by kernel_rfl
theorem cellsOne : Try.prog.cellsOf 9 = 1 ∧ Try.prog.cellsOf 3 = 1 ∧ Try.prog.cellsOf 2 = 1 ∧ Try.prog.cellsOf 22 = 1 ∧ Try.prog.cellsOf 23 = 1 := by refine ⟨?_, ?_, ?_, ?_, ?_⟩ <;> kernel_rfl
theorem bytesEntry : Try.prog.bytesOf 46 = 40 := by kernel_rfl
theorem bytesKid : Try.prog.bytesOf 65 = 64 := by kernel_rfl

theorem dot_open {fuel : Nat} {cs : List Value} {x : DataW H × List MemPlace} (h : DataW.trod enc Try.prog w 0 (fun _ => true) true fuel 27 cs = some x) : ∃ d : Dt, DtE d cs := by
  obtain ⟨xs, n, rfl, rfl, hl, hx, hf⟩ := DataW.trod_struct Try.underlying27 h
  rw [cellsDot] at hl
  match cs, hl with
  | [c0, c1], _ =>
    match xs, hx with
    | [y0, y1], _ =>
      have f0 : DataW.trod enc Try.prog w 0 (fun _ => true) true n 3 (([c0, c1].drop 0).take (Try.prog.cellsOf 3)) = some y0 := hf 0 _ rfl
      rw [cellsOne.2.1] at f0
      have f1 : DataW.trod enc Try.prog w 0 (fun _ => true) true n 2 (([c0, c1].drop 1).take (Try.prog.cellsOf 2)) = some y1 := hf 1 _ rfl
      rw [cellsOne.2.2.1] at f1
      obtain ⟨a, e0, _, w0⟩ := DataW.trod_int Try.underlying3 (show DataW.trod enc Try.prog w 0 (fun _ => true) true n 3 [c0] = some y0 from f0)
      obtain ⟨b, e1, _, w1⟩ := DataW.trod_int Try.underlying2 (show DataW.trod enc Try.prog w 0 (fun _ => true) true n 2 [c1] = some y1 from f1)
      simp at e0 e1
      subst e0; subst e1
      exact ⟨⟨a, b⟩, rfl, wf_i64 w0, wf_i64 w1⟩
theorem entry_open {fuel : Nat} {cs : List Value} {x : DataW H × List MemPlace} (h : DataW.trod enc Try.prog w 0 (fun _ => true) true fuel 46 cs = some x) (hw : Wt Try.prog 46 x.1) : ∃ e : En, EnE e cs := by
  obtain ⟨xs, n, rfl, rfl, hl, hx, hf⟩ := DataW.trod_struct Try.underlying46 h
  rw [cellsEntry] at hl
  match cs, hl with
  | [c0, c1, c2, c3], _ =>
    match xs, hx with
    | [y0, y1, y2], _ =>
      have f0 : DataW.trod enc Try.prog w 0 (fun _ => true) true n 27 (([c0, c1, c2, c3].drop 0).take (Try.prog.cellsOf 27)) = some y0 := hf 0 _ rfl
      rw [cellsDot] at f0
      have f1 : DataW.trod enc Try.prog w 0 (fun _ => true) true n 9 (([c0, c1, c2, c3].drop 2).take (Try.prog.cellsOf 9)) = some y1 := hf 1 _ rfl
      rw [cellsOne.1] at f1
      have f2 : DataW.trod enc Try.prog w 0 (fun _ => true) true n 2 (([c0, c1, c2, c3].drop 3).take (Try.prog.cellsOf 2)) = some y2 := hf 2 _ rfl
      rw [cellsOne.2.2.1] at f2
      obtain ⟨d, ed, od⟩ := dot_open (show DataW.trod enc Try.prog w 0 (fun _ => true) true n 27 [c0, c1] = some y0 from f0)
      obtain ⟨s, e1, hy1, _⟩ := DataW.trod_string Try.underlying9 (show DataW.trod enc Try.prog w 0 (fun _ => true) true n 9 [c2] = some y1 from f1)
      obtain ⟨b, e2, _, w2⟩ := DataW.trod_int Try.underlying2 (show DataW.trod enc Try.prog w 0 (fun _ => true) true n 2 [c3] = some y2 from f2)
      have hs : s.size ≤ Big := by
        have := Wt.field Try.underlying46 hw (i := 1) (d := y1.1) rfl rfl s.size (by rw [hy1]; simp [DataW.weights])
        unfold reachBytes at this; unfold Big; omega
      simp at ed e1 e2
      obtain ⟨rfl, rfl⟩ := ed
      subst e1; subst e2
      exact ⟨⟨d.dc, d.n, s, b⟩, rfl, od.dc, od.n, wf_i64 w2, hs⟩
theorem tree_open : ∀ (fuel : Nat) (cs : List Value) (x : DataW H × List MemPlace), DataW.trod enc Try.prog w 0 (fun _ => true) true fuel 25 cs = some x → Wt Try.prog 25 x.1 → ∃ t ve vk, cs = [ve, vk] ∧ Tr.rd w w.heap.size t ve vk := by
  intro fuel
  induction fuel using Nat.strongRecOn with
  | ind fuel ih =>
  intro cs x h hw
  obtain ⟨xs, n, rfl, rfl, hl, hx, hf⟩ := DataW.trod_struct Try.underlying25 h
  rw [cellsTree] at hl
  match cs, hl with
  | [c0, c1], _ =>
    match xs, hx with
    | [y0, y1], _ =>
      have f0 : DataW.trod enc Try.prog w 0 (fun _ => true) true n 22 (([c0, c1].drop 0).take (Try.prog.cellsOf 22)) = some y0 := hf 0 _ rfl
      rw [cellsOne.2.2.2.1] at f0
      have f1 : DataW.trod enc Try.prog w 0 (fun _ => true) true n 23 (([c0, c1].drop 1).take (Try.prog.cellsOf 23)) = some y1 := hf 1 _ rfl
      rw [cellsOne.2.2.2.2] at f1
      obtain ⟨v0, es, e0, h0⟩ := slc_open (E := EnE) Try.underlying22 cellsEntry (by decide) bytesEntry (by decide) (show DataW.trod enc Try.prog w 0 (fun _ => true) true n 22 [c0] = some y0 from f0) (Wt.field Try.underlying25 hw (i := 0) rfl rfl)
        (fun m cs y _ hy hwy => entry_open hy hwy)
      obtain ⟨v1, ks, e1, h1⟩ := slc_open (E := KdE w w.heap.size) Try.underlying23 cellsKid (by decide) bytesKid (by decide) (show DataW.trod enc Try.prog w 0 (fun _ => true) true n 23 [c1] = some y1 from f1) (Wt.field Try.underlying25 hw (i := 1) rfl rfl)
        (fun m cs y hm hy hwy => by
          obtain ⟨zs, k, rfl, rfl, hl, hz, hg⟩ := DataW.trod_struct Try.underlying65 hy
          rw [cellsKid] at hl
          match cs, hl with
          | [d0, d1, d2], _ =>
            match zs, hz with
            | [z0, z1], _ =>
              have g0 : DataW.trod enc Try.prog w 0 (fun _ => true) true k 9 (([d0, d1, d2].drop 0).take (Try.prog.cellsOf 9)) = some z0 := hg 0 _ rfl
              rw [cellsOne.1] at g0
              have g1 : DataW.trod enc Try.prog w 0 (fun _ => true) true k 25 (([d0, d1, d2].drop 1).take (Try.prog.cellsOf 25)) = some z1 := hg 1 _ rfl
              rw [cellsTree] at g1
              obtain ⟨s, u1, hy1, _⟩ := DataW.trod_string Try.underlying9 (show DataW.trod enc Try.prog w 0 (fun _ => true) true k 9 [d0] = some z0 from g0)
              obtain ⟨t, ve, vk, u2, ht⟩ := ih k (by omega) [d1, d2] z1 (show DataW.trod enc Try.prog w 0 (fun _ => true) true k 25 [d1, d2] = some z1 from g1) (Wt.field Try.underlying65 hwy (i := 1) rfl rfl)
              have hs : s.size ≤ Big := by
                have := Wt.field Try.underlying65 hwy (i := 0) (d := z0.1) rfl rfl s.size (by rw [hy1]; simp [DataW.weights])
                unfold reachBytes at this; unfold Big; omega
              simp at u1 u2
              obtain ⟨rfl, rfl⟩ := u2
              subst u1
              exact ⟨(s, t), d1, d2, rfl, hs, ht⟩)
      simp at e0 e1
      subst e0; subst e1
      exact ⟨.mk es ks, c0, c1, rfl, rd_iff.2 ⟨h0, h1⟩⟩

/-- Behind a call that turns nothing that was there, the arguments read as before. -/
theorem trodAll_below (hl : laidOutB Try.prog = true) {W' : World} : ∀ (ts : List TypeId) (vs : List Value) (ds : List (DataW H)) (ps : List MemPlace), (∀ t ∈ ts, Try.prog.readableRec t = true ∧ t < Try.prog.types.size) →
    DataW.TrodAll enc Try.prog w 0 (fun _ => true) true ts vs ds ps → Below w.heap.size w W' → (∀ x ∈ ps, x.block < w.heap.size) → DataW.TrodAll enc Try.prog W' 0 (fun b => decide (b < w.heap.size)) true ts vs ds ps
  | [], [], [], ps, _, h, _, _ => h
  | t :: ts, v :: vs, d :: ds, ps, hr, h, hb, hlt => by
    obtain ⟨p, q, h1, h2, rfl⟩ := h
    exact ⟨p, q, Below.trod hl (hr t (by simp)).1 (hr t (by simp)).2 h1 hb (fun x hx => hlt x (List.mem_append_left _ hx)), trodAll_below hl ts vs ds q (fun t ht => hr t (by simp [ht])) h2 hb (fun x hx => hlt x (List.mem_append_right _ hx)), rfl⟩
end
end Go.Proofs.Ytdmhfiofgioihaa

namespace Go.Proofs.Ytdmhfiofgioihaa
open Go.ChangeShapes Go.WideShapes Go.ChangeAt Go.RowKit
set_option maxRecDepth 100000

theorem own : ownKnob Try.prog.godebug = none := by kernel_rfl
theorem laidOut : laidOutB Try.prog = true := by kernel_rfl
theorem okTree : Try.prog.readableRec 25 = true ∧ 25 < Try.prog.types.size := ⟨by kernel_rfl, of_decide_eq_true (by kernel_rfl)⟩
theorem okDot : Try.prog.readableRec 27 = true ∧ 27 < Try.prog.types.size := ⟨by kernel_rfl, of_decide_eq_true (by kernel_rfl)⟩
theorem okInt64 : Try.prog.readableRec 2 = true ∧ 2 < Try.prog.types.size := ⟨by kernel_rfl, of_decide_eq_true (by kernel_rfl)⟩

theorem tree_arg {H : Type} {enc : TypeId × Value → H} {W : World} {base : Nat} {v : Value} {d : DataW H} {p : List MemPlace} (hv : Value.okWide Try.prog W .any base 25 v) (h : DataW.Trod enc Try.prog W 0 (fun _ => true) true 25 v d p) (hw : Wt Try.prog 25 d) :
    ∃ t ve vk, v = .agg #[ve, vk] ∧ Tr.rd W W.heap.size t ve vk := by
  obtain ⟨cs, rfl, hs⟩ := okWide_struct Try.underlying25 hv
  obtain ⟨fuel, hf⟩ := h
  obtain ⟨t, ve, vk, e, ht⟩ := tree_open fuel _ _ hf hw
  refine ⟨t, ve, vk, ?_, ht⟩
  simp [Value.cells] at e
  obtain ⟨l⟩ := cs
  simp at e
  rw [e]
theorem dot_arg {H : Type} {enc : TypeId × Value → H} {W : World} {base : Nat} {v : Value} {d : DataW H} {p : List MemPlace} (hv : Value.okWide Try.prog W .any base 27 v) (h : DataW.Trod enc Try.prog W 0 (fun _ => true) true 27 v d p) :
    ∃ x : Dt, v = .agg #[.int .i64 x.dc, .int .i64 x.n] ∧ x.Ok := by
  obtain ⟨cs, rfl, hs⟩ := okWide_struct Try.underlying27 hv
  obtain ⟨fuel, hf⟩ := h
  obtain ⟨x, e, ho⟩ := dot_open hf
  refine ⟨x, ?_, ho⟩
  simp [Value.cells] at e
  obtain ⟨l⟩ := cs
  simp at e
  rw [e]
theorem int_arg {H : Type} {enc : TypeId × Value → H} {W : World} {base : Nat} {v : Value} {d : DataW H} {p : List MemPlace} (hv : Value.okWide Try.prog W .any base 2 v) (h : DataW.Trod enc Try.prog W 0 (fun _ => true) true 2 v d p) :
    ∃ n : Int, v = .int .i64 n ∧ I64 n := by
  obtain ⟨n, rfl, _, _, hw⟩ := open_int Try.underlying2 hv h
  exact ⟨n, rfl, wf_i64 hw⟩
end Go.Proofs.Ytdmhfiofgioihaa
