/- What the laws need, part 2: tributaryref08.Build. No condition but that there are not too many. ormap.Keys. No condition but that there are not too many. Four growing rows of a call's own, held by an array of the call's own. No condition. context.apart. No condition but that there are not too many. slices.Grow at no run, slices.Concat at two lists of runs. No condition but that there are not too many. tributaryref06.By, Of. No condition but that there are not too many, and that numbers are right. tributaryref06.Of. No condition but that there are not too many, and that numbers are right. Sets of numbers as lists of runs, in plain Lean: what the reference's sweep makes is a set, of which numbers; two sets of the same numbers are the same. No condition. tributaryref07.By, Union, Of. No condition but that there are not too many, and that numbers are right. tributaryref08.Leaves, Dots. No condition but that there are not too many, and that numbers are right. tributaryref08.Get. No condition but that there are not too many. tributaryref10.Check. No condition but that there are not too many. tributaryref10.Put, Gone. No condition but that there are not too many, and that numbers are right. tributaryref10.Put. No condition but that there are not too many, and that numbers are right. Plain law of tributaryref08.Build: the leaves of a tree in order, built again, are the tree; what is built has the leaves that it was built of. No condition. span.joined, and what it makes of runs in order: a set. No condition but that there are not too many, and that numbers are right. slices.IndexFunc and slices.ContainsFunc at runs, whatever the test; span.Has. No condition. context.Has. No condition but that there are not too many. -/
import Derived.Deep.LoopGhost
import Derived.Deep.QuietTactic
import Derived.Deep.RegionLaw
import Derived.Lib.AppendZerosOnto
import Derived.Lib.SliceRun
import Derived.RegionTactic
import Derived.Shelf.Abstract
import Derived.Test.YtdmhfiofgioihaaRv1
namespace Go.Proofs.Ytdmhfiofgioihaa
open Go.RowKit
set_option maxRecDepth 100000

theorem cell_cells {w : World} {n i : Nat} {cs : Array Value} {e : TypeId} {z : Nat × Nat} (h : w.heap[n]? = some (.cells cs e z)) : w.cell? ⟨n, i, none⟩ = cs[i]? := by
  unfold World.cell?; simp only [h]; rfl
theorem nil_or_snoc {α : Type} (l : List α) : l = [] ∨ ∃ L b, l = L ++ [b] := by
  rcases List.eq_nil_or_concat l with h | ⟨L, b, h⟩
  · exact .inl h
  · exact .inr ⟨L, b, by rw [h, List.concat_eq_append]⟩
theorem cells_frz {w : World} {n i : Nat} {cs : Array Value} {e : TypeId} (h : w.heap[n]? = some (.cells cs e (0, 0))) : w.frozen? ⟨n, i, none⟩ = false := by
  simp [World.frozen?, h]
theorem cells_set {w : World} {n i : Nat} {cs : Array Value} {e : TypeId} {z : Nat × Nat} (h : w.heap[n]? = some (.cells cs e z)) (v : Value) : (w.setCell ⟨n, i, none⟩ v).heap[n]? = some (.cells (cs.setIfInBounds i v) e z) := by
  have hlt := lt_of_block h
  have h' : w.heap[n] = .cells cs e z := by simpa [Array.getElem?_eq_getElem hlt] using h
  show (w.heap.modify n _)[n]? = _
  rw [Array.getElem?_eq_getElem (by simpa using hlt), Array.getElem_modify_self, h']
  rfl
theorem OwnP.setOther {α : Type} {w : World} {base : Nat} {e : TypeId} {sz : Nat} {E : α → List Value → Prop} {v : Value} {xs : List α} (h : OwnP w base e sz E v xs) {a : Addr} (ha : a.block < base) (u : Value) : OwnP (w.setCell a u) base e sz E v xs := by
  obtain ⟨css, h1, h2⟩ := h
  exact ⟨css, h1, ownsRow_setCell_below h2 ha u⟩
theorem OwnD.setOther {α : Type} {w : World} {base : Nat} {e : TypeId} {sz : Nat} {E : World → (Nat → Prop) → α → List Value → Prop} {okp : Nat → Prop} {v : Value} {xs : List α} (h : OwnD w base e sz E okp v xs) (hE : Emon E) {a : Addr} (ha : a.block < base) (ho : ¬ okp a.block) (u : Value) : OwnD (w.setCell a u) base e sz E okp v xs :=
  (OwnP.setOther h ha u).imp fun _ _ _ hx => hE.up (w := w) (fun b hb => Below.heap_setCell w a u b (fun e => ho (e ▸ hb.1))) (fun b hb => ⟨hb.1, by simpa [World.setCell] using hb.2.1, hb.2.2⟩) hx
theorem kid_one {w : World} {ok okq : Nat → Prop} {q : ByteArray} {t : Tr} {ve vk : Value} {B : Nat} (h : t.rda w ok ve vk) (hq : q.size ≤ Big) (hok : ∀ b, ok b → b < w.heap.size ∧ okq b) (e : TypeId) (hB : w.heap.size < B) :
    SlP (w.alloc (.cells #[.string q, ve, vk] e)) B 3 (KdA (w.alloc (.cells #[.string q, ve, vk] e)) okq) (.slice (some ⟨w.heap.size, 0, none⟩) 1 1) [(q, t)] :=
  SlP.oneB (x := (q, t)) (cs := [.string q, ve, vk]) ⟨ve, vk, rfl, hq, rda_up (fun b hb => heap_old (hok b hb).1) (fun b hb => (hok b hb).2) _ _ _ h⟩ rfl e rfl hB
def bestC : Option En → List Value
  | none => [.int .i64 0, .int .i64 0, .string ByteArray.empty, .int .i64 0]
  | some e => [.int .i64 e.dc, .int .i64 e.n, .string e.s, .int .i64 e.v]
def lastD (es : List En) : Option Dt := es.getLast?.map En.dot
/-- The first loop's words. -/
def BuildA (l : List Lf) (w : World) (n : Nat) (wr : World) : Prop :=
  ∃ (es : List En) (ve : Value), OwnP wr (w.heap.size + 2) 46 4 EnE ve es ∧ wr.heap[w.heap.size + 1]? = some (.cells #[ve, .slice none 0 0] 25 (0, 0)) ∧ wr.heap[w.heap.size]? = some (.cells #[.slice none 0 0, .slice none 0 0] 25 (0, 0)) ∧
    w.heap.size + 2 ≤ wr.heap.size ∧ Below w.heap.size w wr ∧ Hid (entsGo l n es = selEnts l) ∧ Hid (ahE l (lastD es) < n) ∧ Hid (es.length + ahE l (lastD es) ≤ l.length)

/-- The second loop's words. -/
def BuildK (f : List Lf → Tr) (l : List Lf) (w w1 : World) (ve : Value) (n : Nat) (vl : Value) (wr : World) : Prop :=
  ∃ (last : ByteArray) (ks : List Kd) (vk : Value), vl = .string last ∧ OwnD wr w1.heap.size 65 3 KdA (fun b => w1.heap.size ≤ b) vk ks ∧ wr.heap[w.heap.size + 1]? = some (.cells #[ve, vk] 25 (0, 0)) ∧ wr.heap[w.heap.size]? = some (.cells #[.slice none 0 0, .slice none 0 0] 25 (0, 0)) ∧
    Keeps (fun b => w.heap.size + 2 ≤ b ∧ b < w1.heap.size) w1 wr ∧ w1.heap.size ≤ wr.heap.size ∧ Below w.heap.size w wr ∧ Hid (ks ++ kidsGo f l n last = kidsGo f l (l.length + 1) ByteArray.empty) ∧ Hid (ahK l last < n) ∧ Hid (ks.length + ahK l last ≤ l.length)

set_option maxHeartbeats 4000000 in
theorem build_one (f : List Lf → Tr) (l : List Lf) (vl : Value) (w : World) (ih : ∀ x ∈ l, ∀ q qs, x.1 = q :: qs → ∀ vl w, SlP w w.heap.size 5 (LfA w (fun b => b < w.heap.size)) vl (underL l q) →
      Calls Try.prog 45 #[vl] w fun e w' => ∃ ve vk, e = .returned (.agg #[ve, vk]) ∧ (f (underL l q)).rda w' (fun b => w.heap.size ≤ b ∧ b < w'.heap.size) ve vk ∧ Below w.heap.size w w')
    (h : SlP w w.heap.size 5 (LfA w (fun b => b < w.heap.size)) vl l) (hN : l.length ≤ 900000) :
    Calls Try.prog 45 #[vl] w fun e w' => ∃ ve vk, e = .returned (.agg #[ve, vk]) ∧ (Tr.mk (selEnts l) (kidsGo f l (l.length + 1) ByteArray.empty)).rda w' (fun b => w.heap.size ≤ b ∧ b < w'.heap.size) ve vk ∧ Below w.heap.size w w' := by
  have HLW : Hid (∀ w', Below w.heap.size w w' → SlP w' w'.heap.size 5 (LfA w' (fun b => True ∧ b < w'.heap.size)) vl l) := fun w' hb' =>
    h.imp hb' hb'.size fun _ _ _ hx => LfA.mon.up (fun b hb => hb'.block b hb) (fun b hb => ⟨trivial, Nat.lt_of_lt_of_le hb hb'.size⟩) hx
  obtain ⟨A, c, rfl, l1, l2, l3⟩ := h
  unfold Big at l2
  have IH := hid ih
  clear ih
  go_enter Try.func45, Try.ntmps45
  go_wp2_with fail
  go_loopg [] (l.length + 1) (fun n wr => BuildA l w n wr)
  case atStart =>
    refine ⟨[], .slice none 0 0, OwnP.nil, ?_, ?_, ?_, ?_, rfl, ?_, ?_⟩
    · exact heap_new (by simp)
    · rw [heap_old (by simp)]; exact heap_new rfl
    · simp
    · exact (((Below.refl _ w).alloc (Nat.le_refl _) _).alloc (by simp) _)
    · have := ahE_le l (lastD []); unfold Hid; omega
    · have := ahE_le l (lastD []); unfold Hid; simp; omega
  case round =>
    obtain ⟨es, ve, hown, hg3, hg2, hsz, hb, hgo, hah, hle⟩ := hrel
    have hel : es.length ≤ 900000 := by have := hle.out; omega
    obtain ⟨Ae, ce, rfl⟩ := hown.shape
    have hsp := hown.sl (by unfold Big; omega)
    go_wp2_with fail
    obtain ⟨wo, rfl⟩ : ∃ wo : World, wo = wr := ⟨_, rfl⟩
    go_loopw [5, 13] (fun f i wr => ∃ (k : Nat), k ≤ l.length ∧ i = .int .i64 k ∧ f = .bool ((l.take k).foldl (selS (lastD es)) none).isSome ∧ wr.heap[wo.heap.size]? = some (.cells (bestC ((l.take k).foldl (selS (lastD es)) none)).toArray 46 (0, 0)) ∧ Below wo.heap.size wo wr) (fun _ i _ => l.length - (intOf i).toNat)
    case atStart => exact ⟨0, Nat.zero_le _, rfl, rfl, heap_new rfl, (Below.refl _ _).alloc (Nat.le_refl _) _⟩
    case round =>
      obtain ⟨k, hk, rfl, rfl, hbx, hbr⟩ := hrel
      have hs2 := hbr.size
      have hs3 : wo.heap.size < wr.heap.size := (Array.getElem?_eq_some_iff.1 hbx).1
      have hB : Below w.heap.size w wr := hb.trans (hbr.mono (by omega))
      by_cases hlt : k < l.length
      · obtain ⟨⟨p, x⟩, hx⟩ : ∃ x, l[k]? = some x := ⟨_, List.getElem?_eq_getElem hlt⟩
        obtain ⟨b, off, rfl, hbB, hc⟩ := l3 (by rintro rfl; simp at hlt)
        obtain ⟨cs, ⟨A7, c7, rfl, hp, hok⟩, _, hu⟩ := hc k _ hx
        have hut := bestE_take hx (lastD es) none
        have e0 : wr.cell? ⟨b, off + k * 5, none⟩ = some (.slice A7 p.length c7) := (hB.cell hbB).trans (hu 0 _ rfl)
        have q0 := far_cell (B := wr.heap.size) e0 (by omega)
        have e1 := (hB.cell hbB).trans (hu 1 _ rfl)
        have e2 := (hB.cell hbB).trans (hu 2 _ rfl)
        have q1 := far_cell (B := wr.heap.size) e1 (by omega)
        have q2 := far_cell (B := wr.heap.size) e2 (by omega)
        have hg3r : wr.heap[w.heap.size + 1]? = some (.cells #[.slice Ae es.length ce, .slice none 0 0] 25 (0, 0)) := (hbr.block _ (by omega)).trans hg3
        have z0 : wr.cell? ⟨w.heap.size + 1, 0, none⟩ = some (.slice Ae es.length ce) := cell_cells (i := 0) hg3r
        have r0 := far_cell (B := wr.heap.size) z0 (by omega)
        have hbp : ∀ m', Below wr.heap.size wr m' → m'.heap[wo.heap.size]? = some (.cells (bestC ((l.take k).foldl (selS (lastD es)) none)).toArray 46 (0, 0)) := fun m' hm => (hm.block _ hs3).trans hbx
        cases p with
        | cons q qs =>
          have HX : Hid ((l.take (k + 1)).foldl (selS (lastD es)) none = (l.take k).foldl (selS (lastD es)) none) := by unfold Hid; rw [hut]; simp [selS, selC]
          have HBP := hid hbp
          obtain ⟨np, hnp, hne⟩ : ∃ np, np = (q :: qs).length ∧ ((np : Int) == 0) = false := ⟨_, rfl, by simp; omega⟩
          rw [← hnp] at q0
          clear hu hx hc l3 hok hp hut hbp hbx hg3r e0 e1 e2 hnp
          go_upto_region 8 with (fail)
          refine wp_region_far wr.heap.size (by kernel_rfl) (by kernel_rfl) ?_
          repeat (go_big_quiet_step ((go_at_call 66; exact Calls.far_of (Nat.le_refl _) (r05less_any ⟨_, _⟩ ⟨_, _⟩ _))))
          refine wpQuiet_nil ?_
          intro wq hbq
          go_wp2_with fail
          go_roundw
          case rel => exact ⟨k + 1, by omega, by go_num, by rw [HX.out], by rw [HX.out]; exact HBP.out _ hbq, hbr.trans (hbq.mono (by omega))⟩
          case measure => simp [intOf]; omega
        | nil =>
          obtain ⟨q1', q2'⟩ := And.intro q1 q2
          have e3 := (hB.cell hbB).trans (hu 3 _ rfl)
          have e4 := (hB.cell hbB).trans (hu 4 _ rfl)
          have HE : Hid (∀ m', Below wr.heap.size wr m' → m'.cell? ⟨b, off + k * 5 + 1, none⟩ = some (.int .i64 x.dc) ∧ m'.cell? ⟨b, off + k * 5 + 2, none⟩ = some (.int .i64 x.n) ∧ m'.cell? ⟨b, off + k * 5 + 3, none⟩ = some (.string x.s) ∧ m'.cell? ⟨b, off + k * 5 + 4, none⟩ = some (.int .i64 x.v)) :=
            fun m' hm => ⟨(hm.cell (by simp; omega)).trans e1, (hm.cell (by simp; omega)).trans e2, (hm.cell (by simp; omega)).trans e3, (hm.cell (by simp; omega)).trans e4⟩
          simp only [List.length_nil] at q0
          clear hu hx hc l3 hp e0 e1 e2 e3 e4 hg3r
          rcases nil_or_snoc es with rfl | ⟨es', z, rfl⟩
          · generalize hbst : (l.take k).foldl (selS (lastD [])) none = bst at *
            simp only [List.length_nil] at r0 z0
            cases bst with
            | none =>
              have HX : Hid ((l.take (k + 1)).foldl (selS (lastD [])) none = some x) := by unfold Hid; rw [hut]; simp [selS, selC, okP, lastD]
              clear hut hbst
              have HBP := hid hbp
              clear hbp hbx
              go_upto_region 8 with (fail)
              refine wp_region_far wr.heap.size (by kernel_rfl) (by kernel_rfl) ?_
              repeat (go_big_quiet_step ((go_at_call 66; exact Calls.far_of (Nat.le_refl _) (r05less_any ⟨_, _⟩ ⟨_, _⟩ _))))
              refine wpQuiet_nil ?_
              intro wq hbq
              have hqs := hbq.size
              obtain ⟨f1, f2, f3, f4⟩ := HE.out wq hbq
              have hfb := HBP.out wq hbq
              have FB := hid hfb
              have c0 := cell_cells (i := 0) hfb
              have c1 := cell_cells (i := 1) hfb
              have c2 := cell_cells (i := 2) hfb
              have c3 := cell_cells (i := 3) hfb
              have z0 := cells_frz (i := 0) hfb
              have z1 := cells_frz (i := 1) hfb
              have z2 := cells_frz (i := 2) hfb
              have z3 := cells_frz (i := 3) hfb
              simp only [bestC, List.getElem?_toArray, List.getElem?_cons_zero, List.getElem?_cons_succ] at c0 c1 c2 c3
              clear hfb
              go_wp2_with fail
              go_roundw
              case rel => exact ⟨k + 1, by omega, by go_num, by rw [HX.out] <;> rfl, by rw [HX.out]; simpa [bestC] using cells_set (i := 3) (cells_set (i := 2) (cells_set (i := 1) (cells_set (i := 0) FB.out _) _) _) _, (((((hbr.trans (hbq.mono (by omega))).setCell (Nat.le_refl _) _).setCell (Nat.le_refl _) _).setCell (Nat.le_refl _) _).setCell (Nat.le_refl _) _)⟩
              case measure => simp [intOf]; omega
            | some y =>
              rcases hyx : Dt.lt ⟨x.dc, x.n⟩ ⟨y.dc, y.n⟩
              · have HX : Hid ((l.take (k + 1)).foldl (selS (lastD [])) none = some y) := by unfold Hid; rw [hut]; simp [selS, selC, okP, lastD, En.dot, hyx]
                clear hut hbst
                have y0' : wr.cell? ⟨wo.heap.size, 0, none⟩ = some (.int .i64 y.dc) := cell_cells (i := 0) hbx
                have y1' : wr.cell? ⟨wo.heap.size, 1, none⟩ = some (.int .i64 y.n) := cell_cells (i := 1) hbx
                have y0 := far_cell (B := wr.heap.size) y0' hs3
                have y1 := far_cell (B := wr.heap.size) y1' hs3
                clear y0' y1'
                have HBP := hid hbp
                clear hbp hbx
                go_upto_region 8 with (fail)
                refine wp_region_far wr.heap.size (by kernel_rfl) (by kernel_rfl) ?_
                repeat (go_big_quiet_step ((go_at_call 66; exact Calls.far_of (Nat.le_refl _) (r05less_any ⟨_, _⟩ ⟨_, _⟩ _))))
                refine wpQuiet_nil ?_
                intro wq hbq
                go_wp2_with fail
                go_roundw
                case rel => exact ⟨k + 1, by omega, by go_num, by rw [HX.out] <;> rfl, by rw [HX.out]; exact HBP.out _ hbq, hbr.trans (hbq.mono (by omega))⟩
                case measure => simp [intOf]; omega
              · have HX : Hid ((l.take (k + 1)).foldl (selS (lastD [])) none = some x) := by unfold Hid; rw [hut]; simp [selS, selC, okP, lastD, En.dot, hyx]
                clear hut hbst
                have y0' : wr.cell? ⟨wo.heap.size, 0, none⟩ = some (.int .i64 y.dc) := cell_cells (i := 0) hbx
                have y1' : wr.cell? ⟨wo.heap.size, 1, none⟩ = some (.int .i64 y.n) := cell_cells (i := 1) hbx
                have y0 := far_cell (B := wr.heap.size) y0' hs3
                have y1 := far_cell (B := wr.heap.size) y1' hs3
                clear y0' y1'
                have HBP := hid hbp
                clear hbp hbx
                go_upto_region 8 with (fail)
                refine wp_region_far wr.heap.size (by kernel_rfl) (by kernel_rfl) ?_
                repeat (go_big_quiet_step ((go_at_call 66; exact Calls.far_of (Nat.le_refl _) (r05less_any ⟨_, _⟩ ⟨_, _⟩ _))))
                refine wpQuiet_nil ?_
                intro wq hbq
                have hqs := hbq.size
                obtain ⟨f1, f2, f3, f4⟩ := HE.out wq hbq
                have hfb := HBP.out wq hbq
                have FB := hid hfb
                have c0 := cell_cells (i := 0) hfb
                have c1 := cell_cells (i := 1) hfb
                have c2 := cell_cells (i := 2) hfb
                have c3 := cell_cells (i := 3) hfb
                have z0 := cells_frz (i := 0) hfb
                have z1 := cells_frz (i := 1) hfb
                have z2 := cells_frz (i := 2) hfb
                have z3 := cells_frz (i := 3) hfb
                simp only [bestC, List.getElem?_toArray, List.getElem?_cons_zero, List.getElem?_cons_succ] at c0 c1 c2 c3
                clear hfb
                go_wp2_with fail
                go_roundw
                case rel => exact ⟨k + 1, by omega, by go_num, by rw [HX.out] <;> rfl, by rw [HX.out]; simpa [bestC] using cells_set (i := 3) (cells_set (i := 2) (cells_set (i := 1) (cells_set (i := 0) FB.out _) _) _) _, (((((hbr.trans (hbq.mono (by omega))).setCell (Nat.le_refl _) _).setCell (Nat.le_refl _) _).setCell (Nat.le_refl _) _).setCell (Nat.le_refl _) _)⟩
                case measure => simp [intOf]; omega
          · generalize hlst : lastD (es' ++ [z]) = lst at *
            have HLST := hid hlst
            obtain rfl : lst = some z.dot := by rw [← hlst]; simp [lastD]
            obtain ⟨np, hnp, hne, hnp1⟩ : ∃ np : Nat, (es' ++ [z]).length = np + 1 ∧ (((np : Int) + 1) == 0) = false ∧ np < 900000 := ⟨es'.length, by simp, by simp; omega, by simp at hel; omega⟩
            obtain ⟨A9, c9, hv9, _, _, hcz⟩ := hsp
            simp only [Value.slice.injEq] at hv9
            obtain ⟨rfl, _, rfl⟩ := hv9
            obtain ⟨bz, oz, rfl, hbz, hcz⟩ := hcz (by simp)
            have hzn : (es' ++ [z])[np]? = some z := by
              have e : np = es'.length := by simpa using hnp.symm
              rw [e]; simp
            obtain ⟨cz, ⟨rfl, hokz⟩, _, huz⟩ := hcz np z hzn
            have w0 := far_cell (B := wr.heap.size) ((hbr.cell (p := ⟨bz, oz + np * 4, none⟩) hbz).trans (huz 0 _ rfl)) (by omega)
            have w1 := far_cell (B := wr.heap.size) ((hbr.cell (p := ⟨bz, oz + np * 4 + 1, none⟩) hbz).trans (huz 1 _ rfl)) (by omega)
            have hwr : IntKind.i64.wrap (((np + 1 : Nat) : Int) - 1) = (np : Int) := by rw [show (((np + 1 : Nat) : Int)) - 1 = (np : Int) by omega]; exact IntWalk.i64_in _ (by omega)
            have hne2 : ((((np + 1 : Nat) : Int)) == 0) = false := by simp; omega
            clear hcz huz hzn
            rw [hnp] at r0 z0
            have HNP := hid hnp
            clear hnp
            rcases hzx : Dt.lt ⟨z.dc, z.n⟩ ⟨x.dc, x.n⟩
            · have HX : Hid ((l.take (k + 1)).foldl (selS (some z.dot)) none = (l.take k).foldl (selS (some z.dot)) none) := by unfold Hid; rw [hut]; simp [selS, selC, okP, En.dot, hzx]
              clear hut
              have HBP := hid hbp
              clear hbp hbx
              go_upto_region 8 with (fail)
              refine wp_region_far wr.heap.size (by kernel_rfl) (by kernel_rfl) ?_
              repeat (go_big_quiet_step ((go_at_call 66; exact Calls.far_of (Nat.le_refl _) (r05less_any ⟨_, _⟩ ⟨_, _⟩ _))))
              refine wpQuiet_nil ?_
              intro wq hbq
              go_wp2_with fail
              go_roundw
              case rel => exact ⟨k + 1, by omega, by go_num, by rw [HX.out] <;> rfl, by rw [HX.out]; exact HBP.out _ hbq, hbr.trans (hbq.mono (by omega))⟩
              case measure => simp [intOf]; omega
            · generalize hbst : (l.take k).foldl (selS (some z.dot)) none = bst at *
              cases bst with
              | none =>
                have HX : Hid ((l.take (k + 1)).foldl (selS (some z.dot)) none = some x) := by unfold Hid; rw [hut]; simp [selS, selC, okP, En.dot, hzx]
                clear hut hbst
                have HBP := hid hbp
                clear hbp hbx
                go_upto_region 8 with (fail)
                refine wp_region_far wr.heap.size (by kernel_rfl) (by kernel_rfl) ?_
                repeat (go_big_quiet_step ((go_at_call 66; exact Calls.far_of (Nat.le_refl _) (r05less_any ⟨_, _⟩ ⟨_, _⟩ _))))
                refine wpQuiet_nil ?_
                intro wq hbq
                have hqs := hbq.size
                obtain ⟨f1, f2, f3, f4⟩ := HE.out wq hbq
                have hfb := HBP.out wq hbq
                have FB := hid hfb
                have c0 := cell_cells (i := 0) hfb
                have c1 := cell_cells (i := 1) hfb
                have c2 := cell_cells (i := 2) hfb
                have c3 := cell_cells (i := 3) hfb
                have z0 := cells_frz (i := 0) hfb
                have z1 := cells_frz (i := 1) hfb
                have z2 := cells_frz (i := 2) hfb
                have z3 := cells_frz (i := 3) hfb
                simp only [bestC, List.getElem?_toArray, List.getElem?_cons_zero, List.getElem?_cons_succ] at c0 c1 c2 c3
                clear hfb
                go_wp2_with fail
                go_roundw
                case rel => exact ⟨k + 1, by omega, by go_num, by rw [HX.out] <;> rfl, by rw [HX.out]; simpa [bestC] using cells_set (i := 3) (cells_set (i := 2) (cells_set (i := 1) (cells_set (i := 0) FB.out _) _) _) _, (((((hbr.trans (hbq.mono (by omega))).setCell (Nat.le_refl _) _).setCell (Nat.le_refl _) _).setCell (Nat.le_refl _) _).setCell (Nat.le_refl _) _)⟩
                case measure => simp [intOf]; omega
              | some y =>
                rcases hyx : Dt.lt ⟨x.dc, x.n⟩ ⟨y.dc, y.n⟩
                · have HX : Hid ((l.take (k + 1)).foldl (selS (some z.dot)) none = some y) := by unfold Hid; rw [hut]; simp [selS, selC, okP, En.dot, hzx, hyx]
                  clear hut hbst
                  have y0' : wr.cell? ⟨wo.heap.size, 0, none⟩ = some (.int .i64 y.dc) := cell_cells (i := 0) hbx
                  have y1' : wr.cell? ⟨wo.heap.size, 1, none⟩ = some (.int .i64 y.n) := cell_cells (i := 1) hbx
                  have y0 := far_cell (B := wr.heap.size) y0' hs3
                  have y1 := far_cell (B := wr.heap.size) y1' hs3
                  clear y0' y1'
                  have HBP := hid hbp
                  clear hbp hbx
                  go_upto_region 8 with (fail)
                  refine wp_region_far wr.heap.size (by kernel_rfl) (by kernel_rfl) ?_
                  repeat (go_big_quiet_step ((go_at_call 66; exact Calls.far_of (Nat.le_refl _) (r05less_any ⟨_, _⟩ ⟨_, _⟩ _))))
                  refine wpQuiet_nil ?_
                  intro wq hbq
                  go_wp2_with fail
                  go_roundw
                  case rel => exact ⟨k + 1, by omega, by go_num, by rw [HX.out] <;> rfl, by rw [HX.out]; exact HBP.out _ hbq, hbr.trans (hbq.mono (by omega))⟩
                  case measure => simp [intOf]; omega
                · have HX : Hid ((l.take (k + 1)).foldl (selS (some z.dot)) none = some x) := by unfold Hid; rw [hut]; simp [selS, selC, okP, En.dot, hzx, hyx]
                  clear hut hbst
                  have y0' : wr.cell? ⟨wo.heap.size, 0, none⟩ = some (.int .i64 y.dc) := cell_cells (i := 0) hbx
                  have y1' : wr.cell? ⟨wo.heap.size, 1, none⟩ = some (.int .i64 y.n) := cell_cells (i := 1) hbx
                  have y0 := far_cell (B := wr.heap.size) y0' hs3
                  have y1 := far_cell (B := wr.heap.size) y1' hs3
                  clear y0' y1'
                  have HBP := hid hbp
                  clear hbp hbx
                  go_upto_region 8 with (fail)
                  refine wp_region_far wr.heap.size (by kernel_rfl) (by kernel_rfl) ?_
                  repeat (go_big_quiet_step ((go_at_call 66; exact Calls.far_of (Nat.le_refl _) (r05less_any ⟨_, _⟩ ⟨_, _⟩ _))))
                  refine wpQuiet_nil ?_
                  intro wq hbq
                  have hqs := hbq.size
                  obtain ⟨f1, f2, f3, f4⟩ := HE.out wq hbq
                  have hfb := HBP.out wq hbq
                  have FB := hid hfb
                  have c0 := cell_cells (i := 0) hfb
                  have c1 := cell_cells (i := 1) hfb
                  have c2 := cell_cells (i := 2) hfb
                  have c3 := cell_cells (i := 3) hfb
                  have z0 := cells_frz (i := 0) hfb
                  have z1 := cells_frz (i := 1) hfb
                  have z2 := cells_frz (i := 2) hfb
                  have z3 := cells_frz (i := 3) hfb
                  simp only [bestC, List.getElem?_toArray, List.getElem?_cons_zero, List.getElem?_cons_succ] at c0 c1 c2 c3
                  clear hfb
                  go_wp2_with fail
                  go_roundw
                  case rel => exact ⟨k + 1, by omega, by go_num, by rw [HX.out] <;> rfl, by rw [HX.out]; simpa [bestC] using cells_set (i := 3) (cells_set (i := 2) (cells_set (i := 1) (cells_set (i := 0) FB.out _) _) _) _, (((((hbr.trans (hbq.mono (by omega))).setCell (Nat.le_refl _) _).setCell (Nat.le_refl _) _).setCell (Nat.le_refl _) _).setCell (Nat.le_refl _) _)⟩
                  case measure => simp [intOf]; omega
      · obtain rfl : k = l.length := by omega
        rw [List.take_of_length_le (Nat.le_refl _)] at hbx ⊢
        have hg3r : wr.heap[w.heap.size + 1]? = some (.cells #[.slice Ae es.length ce, .slice none 0 0] 25 (0, 0)) := (hbr.block _ (by omega)).trans hg3
        have hg2r : wr.heap[w.heap.size]? = some (.cells #[.slice none 0 0, .slice none 0 0] 25 (0, 0)) := (hbr.block _ (by omega)).trans hg2
        generalize hbst : l.foldl (selS (lastD es)) none = bst at *
        obtain ⟨n, rfl⟩ : ∃ n, gk = n + 1 := ⟨gk - 1, by have := hah.out; omega⟩
        have hgo' := hgo.out
        rw [entsGo, show es.getLast?.map En.dot = lastD es from rfl, show bestE l (lastD es) = bst from hbst] at hgo'
        cases bst with
        | some y =>
          obtain ⟨⟨x, hx, hx1, hx2⟩, hy2⟩ := bestE_spec (show bestE l (lastD es) = some y from hbst)
          have hoky : y.Ok := by
            obtain ⟨j, hj⟩ := List.getElem?_of_mem hx
            obtain ⟨b, off, _, hbB, hc⟩ := l3 (by rintro rfl; simp at hj)
            obtain ⟨cs, ⟨A7, c7, _, _, hok⟩, _, _⟩ := hc j _ hj
            exact hx2 ▸ hok
          have hlt2 := ahE_lt (show bestE l (lastD es) = some y from hbst)
          have HGO : Hid (entsGo l n (es ++ [y]) = selEnts l) := hgo'
          have HAH : Hid (ahE l (lastD (es ++ [y])) < n) := by have := hah.out; unfold Hid; simp only [lastD, List.getLast?_append, List.getLast?_singleton, Option.some_or, Option.map_some]; omega
          have HLE : Hid ((es ++ [y]).length + ahE l (lastD (es ++ [y])) ≤ l.length) := by have := hle.out; unfold Hid; simp only [lastD, List.getLast?_append, List.getLast?_singleton, Option.some_or, Option.map_some, List.length_append, List.length_singleton]; omega
          have HL : Hid (es.length + [y].length ≤ Few) := by unfold Hid Few; simp; omega
          have HY : Hid (EnE y [.int .i64 y.dc, .int .i64 y.n, .string y.s, .int .i64 y.v]) := ⟨rfl, hoky⟩
          have y0 : wr.cell? ⟨wo.heap.size, 0, none⟩ = some (.int .i64 y.dc) := cell_cells (i := 0) hbx
          have y1 : wr.cell? ⟨wo.heap.size, 1, none⟩ = some (.int .i64 y.n) := cell_cells (i := 1) hbx
          have y2 : wr.cell? ⟨wo.heap.size, 2, none⟩ = some (.string y.s) := cell_cells (i := 2) hbx
          have y3 : wr.cell? ⟨wo.heap.size, 3, none⟩ = some (.int .i64 y.v) := cell_cells (i := 3) hbx
          have z0 : wr.cell? ⟨w.heap.size + 1, 0, none⟩ = some (.slice Ae es.length ce) := cell_cells (i := 0) hg3r
          have HG3 := hid hg3r
          have HG2 := hid hg2r
          have hown' := hown.grow hbr
          clear hgo' hbst hbx hg3r hg2r hg3 hg2 hlt2 hx hx1 hx2 hy2 hoky l3 hsp hown hah hle hgo
          go_wp2_with (at_builtin; go_loud ((with_reducible refine wpList_few rfl (.tmp 70) (.tmp 72) _ rfl eiEntry (by decide) (by decide) (fun _ _ h => h.one) rfl (hown'.alloc _) rfl (SlP.one (x := y) HY.out rfl _ rfl) HL.out (by rw [World.size_alloc]; omega) ?_); intro v1 w1 hown1 hb1 _; obtain ⟨A1, c1, rfl⟩ := hown1.shape; have hb2 := ((Below.refl (w.heap.size + 2) wr).alloc (by omega) _).trans hb1; have hg31 := hid ((hb2.block (w.heap.size + 1) (by omega)).trans HG3.out); have hg21 := hid ((hb2.block w.heap.size (by omega)).trans HG2.out); have hc1 : w1.cell? ⟨w.heap.size + 1, 0, none⟩ = some (.slice Ae es.length ce) := cell_cells (i := 0) hg31.out; have hf1 := cells_frz (i := 0) hg31.out))
          go_roundg n
          case measure => omega
          case rel => exact ⟨es ++ [y], _, hown1.setOther (by simp) _, by simpa using cells_set (i := 0) hg31.out _, (Below.heap_setCell _ _ _ _ (by simp)).trans hg21.out, by have := hb2.size; simp [World.setCell]; omega, ((hB.trans (hb2.mono (by omega))).setCell (by simp) _), HGO, HAH, HLE⟩
        | none =>
          have HES : Hid (es = selEnts l) := hgo'
          have z0 : wr.cell? ⟨w.heap.size + 1, 0, none⟩ = some (.slice Ae es.length ce) := cell_cells (i := 0) hg3r
          have hown' := hown.grow hbr
          clear hgo' hbst hbx hg3 hg2 hsp hown hah hle hgo
          have HG3 := hid hg3r
          have HG2 := hid hg2r
          clear hg3r hg2r z0 hbr
          go_wp2_with fail
          obtain ⟨w1, rfl⟩ : ∃ w1 : World, w1 = wr := ⟨_, rfl⟩
          go_loopg [8] (l.length + 1) (fun n vl wr => BuildK f l w w1 (.slice Ae es.length ce) n vl wr)
          case atStart => exact ⟨ByteArray.empty, [], _, rfl, OwnD.nil, HG3.out, HG2.out, fun _ _ => rfl, Nat.le_refl _, hB, rfl, by have := ahK_le l ByteArray.empty; unfold Hid; omega, by have := ahK_le l ByteArray.empty; unfold Hid; simp; omega⟩
          case round =>
            obtain ⟨last, ks, vk, rfl, hownk, hg3, hg2, hkp, hsw, hBk, hgo, hah, hle⟩ := hrel
            have hszk := hownk.lt
            have hkl : ks.length ≤ 900000 := by have := hle.out; omega
            obtain ⟨Ak, ck, rfl⟩ := hownk.shape
            go_wp2_with fail
            obtain ⟨wo, rfl⟩ : ∃ wo : World, wo = wr := ⟨_, rfl⟩
            go_loopw [9, 77] (fun b i wr => ∃ (k : Nat), k ≤ l.length ∧ i = .int .i64 k ∧ b = .string ((l.take k).foldl (keyS last) ByteArray.empty) ∧ wr = wo) (fun _ i _ => l.length - (intOf i).toNat)
            case atStart => exact ⟨0, Nat.zero_le _, rfl, rfl, rfl⟩
            case round =>
              obtain ⟨k, hk, rfl, rfl, rfl⟩ := hrel
              by_cases hlt : k < l.length
              · obtain ⟨⟨p, x⟩, hx⟩ : ∃ x, l[k]? = some x := ⟨_, List.getElem?_eq_getElem hlt⟩
                obtain ⟨b, off, rfl, hbB, hc⟩ := l3 (by rintro rfl; simp at hlt)
                obtain ⟨cs, ⟨A7, c7, rfl, hp, hok⟩, _, hu⟩ := hc k _ hx
                have hut := bestK_take hx last ByteArray.empty
                have e0 : wr.cell? ⟨b, off + k * 5, none⟩ = some (.slice A7 p.length c7) := (hBk.cell hbB).trans (hu 0 _ rfl)
                generalize hbst : (l.take k).foldl (keyS last) ByteArray.empty = bst at *
                cases p with
                | nil =>
                  have HX : Hid ((l.take (k + 1)).foldl (keyS last) ByteArray.empty = bst) := by unfold Hid; rw [hut]; simp [keyS, keyC]
                  simp only [List.length_nil] at e0
                  clear hu hx hc l3 hok hp hut hbst hg3 hg2
                  go_wp2_with fail
                  go_roundw
                  case rel => exact ⟨k + 1, by omega, by go_num, by rw [HX.out], trivial⟩
                  case measure => simp [intOf]; omega
                | cons q qs =>
                  obtain ⟨A7', c7', hv7, m1, m2, m3⟩ := hp
                  simp only [Value.slice.injEq] at hv7
                  obtain ⟨rfl, _, rfl⟩ := hv7
                  obtain ⟨b7, o7, rfl, hb7, hc7⟩ := m3 (by simp)
                  obtain ⟨cs7, ⟨rfl, hq7⟩, _, hu7⟩ := hc7 0 q rfl
                  have e7 : wr.cell? ⟨b7, o7, none⟩ = some (.string q) := (hBk.cell (p := ⟨b7, o7, none⟩) hb7).trans (by simpa using hu7 0 _ rfl)
                  unfold Big at m2
                  obtain ⟨np, hnp, hnp0⟩ : ∃ np, np = (q :: qs).length ∧ 0 < np := ⟨_, rfl, by simp⟩
                  rw [← hnp] at e0 m1 m2
                  have t1 : decide ((0 : Int) < (np : Int)) = true := by simp; omega
                  clear hu hx hc l3 hok hc7 hu7 m3 hnp hbst hg3 hg2
                  have hkc : keyC last bst (q :: qs, x) = (ltS last q && (decide (bst = ByteArray.empty) || ltS q bst)) := rfl
                  rw [ltS_gt] at hkc
                  rcases g1 : Op.bytesLess q.toList last.toList
                  case true =>
                    have HX : Hid ((l.take (k + 1)).foldl (keyS last) ByteArray.empty = bst) := by unfold Hid; rw [hut, keyS, hkc, g1]; simp
                    clear hut hkc
                    go_wp2_with fail
                    go_roundw
                    case rel => exact ⟨k + 1, by omega, by go_num, by rw [HX.out], trivial⟩
                    case measure => simp [intOf]; omega
                  rcases g2 : (q.toList == last.toList)
                  case true =>
                    have HX : Hid ((l.take (k + 1)).foldl (keyS last) ByteArray.empty = bst) := by unfold Hid; rw [hut, keyS, hkc, g2]; simp
                    have g3 : q.toList = last.toList := by simpa using g2
                    clear hut hkc
                    go_wp2_with fail
                    go_roundw
                    case rel => exact ⟨k + 1, by omega, by go_num, by rw [HX.out], trivial⟩
                    case measure => simp [intOf]; omega
                  have g3 : ¬ q.toList = last.toList := by simpa using g2
                  have hkd : keyC last bst (q :: qs, x) = (decide (bst = ByteArray.empty) || ltS q bst) := by rw [hkc, g1, g2]; rfl
                  clear hkc
                  rcases hbe : bst.toList.isEmpty
                  · have hbe3 : ¬ bst.toList = [] := by simpa using hbe
                    have hbe' : bst ≠ ByteArray.empty := fun e => by rw [e] at hbe; simp at hbe
                    rcases hqb : Op.bytesLess q.toList bst.toList
                    · have HX : Hid ((l.take (k + 1)).foldl (keyS last) ByteArray.empty = bst) := by unfold Hid; rw [hut, keyS, hkd, ltS, hqb]; simp [hbe']
                      clear hut hkd hbe'
                      go_wp2_with fail
                      go_roundw
                      case rel => exact ⟨k + 1, by omega, by go_num, by rw [HX.out], trivial⟩
                      case measure => simp [intOf]; omega
                    · have HX : Hid ((l.take (k + 1)).foldl (keyS last) ByteArray.empty = q) := by unfold Hid; rw [hut, keyS, hkd, ltS, hqb]; simp
                      clear hut hkd hbe'
                      go_wp2_with fail
                      go_roundw
                      case rel => exact ⟨k + 1, by omega, by go_num, by rw [HX.out], trivial⟩
                      case measure => simp [intOf]; omega
                  · have hbe3 : bst.toList = [] := by simpa using hbe
                    have hbe' : bst = ByteArray.empty := (bytes_inj _ _).1 (by simpa using hbe)
                    have HX : Hid ((l.take (k + 1)).foldl (keyS last) ByteArray.empty = q) := by unfold Hid; rw [hut, keyS, hkd]; simp [hbe']
                    clear hut hkd hbe'
                    go_wp2_with fail
                    go_roundw
                    case rel => exact ⟨k + 1, by omega, by go_num, by rw [HX.out], trivial⟩
                    case measure => simp [intOf]; omega
              · obtain rfl : k = l.length := by omega
                rw [List.take_of_length_le (Nat.le_refl _), show l.foldl (keyS last) ByteArray.empty = bestK l last from rfl]
                obtain ⟨n, rfl⟩ : ∃ n, gk = n + 1 := ⟨gk - 1, by have := hah.out; omega⟩
                have hgo' := hgo.out
                rw [kidsGo] at hgo'
                by_cases hq : bestK l last = ByteArray.empty
                · rw [if_pos hq, List.append_nil] at hgo'
                  have HKS := hid hgo'
                  have hqe : (bestK l last).toList.isEmpty = true := by rw [hq]; simp
                  have hqb : (bestK l last).toList = [] := by rw [hq]; simp
                  have c0 : wr.cell? ⟨w.heap.size + 1, 0, none⟩ = some (.slice Ae es.length ce) := cell_cells (i := 0) hg3
                  have c1 : wr.cell? ⟨w.heap.size + 1, 1, none⟩ = some (.slice Ak ks.length ck) := cell_cells (i := 1) hg3
                  have d0 : wr.cell? ⟨w.heap.size, 0, none⟩ = some (.slice none 0 0) := cell_cells (i := 0) hg2
                  have d1 : wr.cell? ⟨w.heap.size, 1, none⟩ = some (.slice none 0 0) := cell_cells (i := 1) hg2
                  have z0 := cells_frz (i := 0) hg2
                  have z1 := cells_frz (i := 1) hg2
                  have HG2 := hid hg2
                  have HG3 := hid hg3
                  clear hgo' hq hg2 hg3 hgo hah hle l3
                  generalize bestK l last = q at *
                  go_wp2_with fail
                  have hW0 := cells_set (i := 1) (cells_set (i := 0) HG2.out (.slice Ae es.length ce)) (.slice Ak ks.length ck)
                  have hKW : ∀ b, w.heap.size + 2 ≤ b → ((wr.setCell ⟨w.heap.size, 0, none⟩ (.slice Ae es.length ce)).setCell ⟨w.heap.size, 1, none⟩ (.slice Ak ks.length ck)).heap[b]? = wr.heap[b]? := fun b hb => (Below.heap_setCell _ _ _ _ (by simp; omega)).trans (Below.heap_setCell _ _ _ _ (by simp; omega))
                  have hSW : ((wr.setCell ⟨w.heap.size, 0, none⟩ (.slice Ae es.length ce)).setCell ⟨w.heap.size, 1, none⟩ (.slice Ak ks.length ck)).heap.size = wr.heap.size := by simp [World.setCell]
                  have hBW : Below w.heap.size w ((wr.setCell ⟨w.heap.size, 0, none⟩ (.slice Ae es.length ce)).setCell ⟨w.heap.size, 1, none⟩ (.slice Ak ks.length ck)) := (hBk.setCell (Nat.le_refl _) _).setCell (Nat.le_refl _) _
                  generalize (wr.setCell ⟨w.heap.size, 0, none⟩ (.slice Ae es.length ce)).setCell ⟨w.heap.size, 1, none⟩ (.slice Ak ks.length ck) = W at *
                  have r0 : W.cell? ⟨w.heap.size, 0, none⟩ = some (.slice Ae es.length ce) := (cell_cells (i := 0) hW0).trans (by simp)
                  have r1 : W.cell? ⟨w.heap.size, 1, none⟩ = some (.slice Ak ks.length ck) := (cell_cells (i := 1) hW0).trans (by simp)
                  clear c0 c1 d0 d1 z0 z1 hqe hqb
                  refine bodyPost_ret (v := .agg #[.slice Ae es.length ce, .slice Ak ks.length ck]) (by simp [results, Try.results45, go_sem, r0, r1]) rfl ⟨_, _, rfl, ?_, hBW⟩
                  rw [← HES.out, ← HKS.out, rda_iff]
                  refine ⟨(hown'.sla (by unfold Big; omega)).up (fun b hb => (hKW b hb.1).trans (hkp b ⟨hb.1, hb.2.1⟩)) (fun b hb => ⟨by have := hb.1; omega, by have := hb.2.1; omega⟩) (fun _ _ _ h => h), (OwnP.sla hownk (by unfold Big; omega)).up (fun b hb => hKW b (by have := hb.1; omega)) (fun b hb => ⟨by have := hb.1; omega, by have := hb.2.1; omega⟩) ?_⟩
                  intro x _ cs hx
                  exact KdA.mon.up (fun b hb => hKW b (by have := hb.1; omega)) (fun b hb => ⟨by have := hb.1; omega, by have := hb.2.1; omega⟩) hx
                · rw [if_neg hq] at hgo'
                  have hlt2 := ahK_lt hq
                  obtain ⟨⟨x, hx, qs, hxe⟩, _⟩ := bestK_spec hq
                  have IHQ := hid (IH.out x hx _ _ hxe)
                  generalize hqd : bestK l last = q at *
                  have hqb : (q.toList == ([] : List UInt8)) = false := by simp; exact fun e => hq ((bytes_inj _ _).1 (by simpa using e))
                  have hqe : q.toList.isEmpty = false := by simpa using hqb
                  have hqs : q.size ≤ Big := by
                    obtain ⟨j, hj⟩ := List.getElem?_of_mem hx
                    obtain ⟨b, off, _, hbB, hc⟩ := l3 (by rintro rfl; simp at hj)
                    obtain ⟨cs, ⟨A7, c7, _, ⟨_, _, _, _, _, hp⟩, hok⟩, _, _⟩ := hc j _ hj
                    obtain ⟨b7, o7, _, _, hc7⟩ := hp (by rw [hxe]; simp)
                    obtain ⟨cs7, ⟨_, hq7⟩, _, _⟩ := hc7 0 q (by rw [hxe]; rfl)
                    exact hq7
                  have HQS := hid hqs
                  have HGO : Hid ((ks ++ [(q, f (underL l q))]) ++ kidsGo f l n q = kidsGo f l (l.length + 1) ByteArray.empty) := by unfold Hid; rw [← hgo']; simp
                  have HAH : Hid (ahK l q < n) := by have := hah.out; unfold Hid; omega
                  have HLE : Hid ((ks ++ [(q, f (underL l q))]).length + ahK l q ≤ l.length) := by have := hle.out; unfold Hid; simp; omega
                  have HL : Hid (ks.length + [(q, f (underL l q))].length ≤ Few) := by unfold Hid Few; simp; omega
                  have HG3 := hid hg3
                  have HG2 := hid hg2
                  have HKP := hid hkp
                  have HGW : Hid (∀ W, Below wr.heap.size wr W → W.heap[w.heap.size + 1]? = some (.cells #[.slice Ae es.length ce, .slice Ak ks.length ck] 25 (0, 0))) := fun W hW => (hW.block _ (by omega)).trans hg3
                  have HS : Hid (∀ w', Below wr.heap.size wr w' → w'.cell? ⟨w.heap.size + 1, 1, none⟩ = some (.slice Ak ks.length ck)) := fun w' hb' => (hb'.cell (p := ⟨w.heap.size + 1, 1, none⟩) (by simp; omega)).trans (cell_cells (i := 1) hg3)
                  clear l3 hgo' hlt2 hx hxe hq hqs hg3 hg2 hkp hgo hah hle
                  have HOWN : Hid (∀ W, Below wr.heap.size wr W → OwnD W w1.heap.size 65 3 KdA (fun b => w1.heap.size ≤ b) (.slice Ak ks.length ck) ks) := fun W hW => hownk.grow KdA.mon hW
                  have HUL : Hid ((underL l q).length ≤ Big) := by have := underL_len l q; unfold Hid Big; omega
                  have HW0 : Hid (Below w.heap.size w wr) := hBk
                  have hw1 : w.heap.size + 1 < w1.heap.size := by omega
                  clear hownk hBk
                  go_upto_region 23 with (fail)
                  have z1 := HS.out wr (Below.refl _ _)
                  have z2 := HS.out wr.drew ((Below.refl _ _).drew)
                  go_region_law
                    (first | (go_simp; go_at_call 64; go_loud ((refine (r08under_any l q (fun _ => True) _ _ (HLW.out _ HW0.out.drew) hN).mono ?_); rintro e w2 ⟨vU, rfl, hU, hb2⟩; have hb2 : Below wr.heap.size wr w2 := ((Below.refl wr.heap.size wr).drew).trans hb2; have hc2 := HS.out w2 hb2))
                           | (go_simp; go_at_call 45; go_loud ((refine (IHQ.out _ _ ((hU.sl LfA.mon HUL.out).imp (Below.refl _ _) (Nat.le_refl _) (fun _ _ _ hx => LfA.mon.up (fun _ _ => rfl) (fun b hb => hb.2) hx))).mono ?_); rintro e w3 ⟨ve3, vk3, rfl, hrd, hb3⟩; obtain ⟨Av, nv, Aw, nw, rfl, rfl⟩ := rda_shape hrd; have hs2 := hb2.size; have hb3' := hid (hb2.trans (hb3.mono hb2.size)); have hc3 := HS.out w3 hb3'.out; have hc3a := fun (o : Obj) => HS.out (w3.alloc o) (hb3'.out.alloc hb3'.out.size o)))
                           | (have hQ3 := hb3'; go_loud ((refine step_d (v := .slice Ak ks.length ck) rfl (.tmp 125) (.tmp 132) _ rfl KdA.mon eiKid (by decide) (by decide) rfl (HOWN.out _ (hb3'.out.alloc hb3'.out.size _)) rfl (kid_one hrd HQS.out (fun b hb => ⟨hb.2, by have := hb.1; simp only [World.size_drew] at *; omega, by rw [World.size_alloc]; have := hb.2; omega, fun e => by have := hszk b e; have := hb.1; simp only [World.size_drew] at *; omega⟩) _ (by rw [World.size_alloc]; omega)) HL.out (by rw [World.size_alloc]; have := hb3'.out.size; omega) ?_); intro v1 w4 hown4 hb4 _ _; have hsh4 : ∃ A c, v1 = .slice A (ks ++ [(q, f (underL l q))]).length c := OwnP.shape hown4; obtain ⟨A1, c1, hv1⟩ := hsh4; subst hv1; have hg34 := hid ((hb4.block _ hw1).trans (HGW.out _ (hb3'.out.alloc hb3'.out.size _))); have hc4 : w4.cell? ⟨w.heap.size + 1, 1, none⟩ = some (.slice Ak ks.length ck) := cell_cells (i := 1) hg34.out; have hf4 := cells_frz (i := 1) hg34.out)))
                  all_goals go_wp2_with fail
                  all_goals (go_roundg n; (case measure => omega); (case rel =>
                    have hW := hb3'.out.alloc hb3'.out.size (.cells #[.string q, .slice Av (f (underL l q)).es.length nv, .slice Aw (f (underL l q)).ks.length nw] 65)
                    have hwo := hsw
                    exact ⟨q, ks ++ [(q, f (underL l q))], _, rfl, OwnD.setOther hown4 KdA.mon hw1 (by simp; omega) _, by simpa using cells_set (i := 1) hg34.out _,
                      (Below.heap_setCell _ _ _ _ (by simp)).trans ((hb4.block _ (by omega)).trans ((hW.block _ (by omega)).trans HG2.out)),
                      fun b hb => (Below.heap_setCell _ _ _ _ (by have := hb.1; simp; omega)).trans ((hb4.block _ hb.2).trans ((hW.block _ (by have := hb.2; omega)).trans (HKP.out b hb))),
                      by have := hb4.size; have := hW.size; simp [World.setCell] at *; omega, (((HW0.out.trans (hW.mono (by omega))).trans (hb4.mono (by omega))).setCell (by simp) _), HGO, HAH, HLE⟩))

theorem r08build_any : ∀ (d : Nat) (l : List Lf) (vl : Value) (w : World), (∀ x ∈ l, x.1.length ≤ d) → SlP w w.heap.size 5 (LfA w (fun b => b < w.heap.size)) vl l → l.length ≤ 900000 →
    Calls Try.prog 45 #[vl] w fun e w' => ∃ ve vk, e = .returned (.agg #[ve, vk]) ∧ (buildT d l).rda w' (fun b => w.heap.size ≤ b ∧ b < w'.heap.size) ve vk ∧ Below w.heap.size w w'
  | 0, l, vl, w, hd, h, hN => build_one _ l vl w (fun x hx q qs hq => absurd (hd x hx) (by rw [hq]; simp)) h hN
  | d + 1, l, vl, w, hd, h, hN => build_one _ l vl w (fun x hx q qs hq vl w h => r08build_any d _ vl w (fun y hy => by
      unfold underL at hy
      obtain ⟨z, hz, hzy⟩ := List.mem_filterMap.1 hy
      obtain ⟨p, e⟩ := z
      have := hd _ hz
      cases p with
      | nil => cases hzy
      | cons u us =>
        simp only [underF] at hzy
        split at hzy
        · cases hzy; simp at this; exact this
        · cases hzy) h (Nat.le_trans (underL_len l q) hN)) h hN
end Go.Proofs.Ytdmhfiofgioihaa

namespace Go.Proofs.Ytdmhfiofgioihaa
open Go.RowKit
set_option maxRecDepth 100000

theorem SlP.oneN {α : Type} {w : World} {o : Obj} {sz n : Nat} {E : α → List Value → Prop} {x : α} {cs : List Value} (hE : E x cs) (hl : cs.length = sz) (e : TypeId) (hn : n = w.heap.size + 1) :
    SlP ((w.alloc o).alloc (.cells cs.toArray e)) ((w.alloc o).alloc (.cells cs.toArray e)).heap.size sz E (.slice (some ⟨n, 0, none⟩) 1 1) [x] :=
  SlP.oneB hE hl e (hn.trans (World.size_alloc _ _).symm) (by rw [World.size_alloc, World.size_alloc]; omega)
/-- What ormap.Keys tells. -/
def keysOf (t : Tr) : List ByteArray := if t.right 5 then t.ks.map (·.1) else []
set_option maxHeartbeats 4000000 in
theorem okeys_any (t : Tr) (w : World) (ve vk : Value) (h : t.rd w w.heap.size ve vk) (hN : t.ks.length ≤ 900000) :
    Calls Try.prog 18 #[.agg #[ve, vk]] w (RetO w 9 1 (fun _ => StE) (keysOf t)) := by
  have HC : Hid (∀ w', Below w.heap.size w w' → t.rd w' w'.heap.size ve vk) := fun w' hb => rd_below hb hb.size _ _ _ h
  have HK0 : Hid (keysOf t = if t.right 5 then t.ks.map (·.1) else []) := rfl
  obtain ⟨es, ks⟩ := t
  rw [rd_iff] at h
  obtain ⟨⟨A0, n0, rfl, d1, d2, d3⟩, ⟨A, m, rfl, c1, c2, c3⟩⟩ := h
  unfold Big at c2 d2
  simp only [Tr.ks] at hN HK0 ⊢
  have hb0 : Below w.heap.size w (w.alloc (.cells #[.slice A0 es.length n0, .slice A ks.length m] 25)) := (Below.refl _ w).alloc (Nat.le_refl _) _
  go_enter Try.func18, Try.ntmps18
  go_wp2_with fail
  refine (tRight_any _ _ _ _ (HC.out _ hb0)).mono ?_
  rintro e w1 ⟨rfl, hb1⟩
  have hs1 := hb1.size
  simp only [World.size_alloc] at hs1
  have hB1 : Below w.heap.size w w1 := hb0.trans (hb1.mono (by simp))
  have b1 : w1.cell? ⟨w.heap.size, 1, none⟩ = some (.slice A ks.length m) := by rw [hb1.cell (p := ⟨w.heap.size, 1, none⟩) (by simp)]; simp
  cases hr : (Tr.mk es ks).right 5
  · have HK : Hid (keysOf (.mk es ks) = []) := by unfold Hid; rw [HK0.out, hr]; rfl
    clear hr
    go_wp2_with fail
    go_ret
    exact ⟨_, rfl, by rw [HK.out]; exact OwnP.nil, hB1⟩
  have HK : Hid (keysOf (.mk es ks) = ks.map (·.1)) := by unfold Hid; rw [HK0.out, hr]; rfl
  clear hr d3 d2 d1
  go_wp2_with fail
  go_loopw [3, 11] (fun v i wr => ∃ k : Nat, k ≤ ks.length ∧ i = .int .i64 k ∧ OwnP wr (w.heap.size + 1) 9 1 StE v ((ks.take k).map (·.1)) ∧ Below (w.heap.size + 1) w1 wr) (fun _ i _ => ks.length - (intOf i).toNat)
  case atStart => exact ⟨0, Nat.zero_le _, rfl, OwnP.nil, Below.refl _ _⟩
  case round =>
    obtain ⟨k, hk, rfl, hown, hb⟩ := hrel
    have hsz := hb.size
    have hB0 : Below w.heap.size w wr := hB1.trans (hb.mono (by omega))
    by_cases hlt : k < ks.length
    · obtain ⟨⟨key, t⟩, hx⟩ : ∃ x, ks[k]? = some x := ⟨_, List.getElem?_eq_getElem hlt⟩
      obtain ⟨b, off, rfl, hbB, hc⟩ := c3 (by rintro rfl; simp at hlt)
      obtain ⟨cs, ⟨ve', vk', rfl, hkb, hrd⟩, _, hu⟩ := hc k _ hx
      obtain ⟨A5, n5, A6, n6, rfl, rfl⟩ := rd_shape hrd
      have e0 : wr.cell? ⟨b, off + k * 3, none⟩ = some (.string key) := (hB0.cell hbB).trans (hu 0 _ rfl)
      have e1 : wr.cell? ⟨b, off + k * 3 + 1, none⟩ = some (.slice A5 t.es.length n5) := (hB0.cell hbB).trans (hu 1 _ rfl)
      have e2 : wr.cell? ⟨b, off + k * 3 + 2, none⟩ = some (.slice A6 t.ks.length n6) := (hB0.cell hbB).trans (hu 2 _ rfl)
      have HX : Hid ((ks.take (k + 1)).map (·.1) = (ks.take k).map (·.1) ++ [key]) := by unfold Hid; rw [List.take_add_one, hx]; simp
      have HL : Hid (((ks.take k).map (·.1)).length + [key].length ≤ Few) := by unfold Hid Few; simp; omega
      have HKY : Hid (StE key [.string key]) := ⟨rfl, hkb⟩
      clear hu hc c3 hx hrd hb0 hb1 b1
      go_wp2_with (at_builtin; go_loud ((with_reducible refine wpList_few rfl (.tmp 15) (.tmp 18) _ rfl eiStr (by decide) (by decide) (fun _ _ h => StE.one h) rfl ((hown.alloc _).alloc _) rfl (SlP.oneN (x := key) HKY.out rfl _ rfl) HL.out (by simp only [World.size_alloc]; omega) ?_); intro v1 w2 hown1 hb2 _; have hb3 := (((Below.refl (w.heap.size + 1) wr).alloc (by omega) _).alloc (by simp only [World.size_alloc]; omega) _).trans hb2))
      go_roundw
      case rel => exact ⟨k + 1, by omega, by go_num, by rw [HX.out]; exact hown1, hb.trans hb3⟩
      case measure => simp [intOf]; omega
    · obtain rfl : k = ks.length := by omega
      rw [List.take_of_length_le (Nat.le_refl _)] at hown
      go_wp2_with fail
      go_ret
      exact ⟨_, rfl, by rw [HK.out]; exact hown.mono (by omega), hB0⟩
end Go.Proofs.Ytdmhfiofgioihaa

namespace Go.Proofs.Ytdmhfiofgioihaa
open Go.RowKit

theorem step_few4 {α : Type} {P : Program} {ops : Array Oper} {o : Oper} {a : Act} {K : Act → World → Prop} {Q : Exit → Act → World → Prop} {F : Prop} {w : World} (hg : o.guard = none) (s x : Operand) (t : TypeId)
    (hop : o.op = .call { callee := .builtin .append, args := #[s, x], argTypes := #[t, t] }) {e : TypeId} {sz bytes base B : Nat} {E : α → List Value → Prop} {v sv : Value} {xs ys : List α} (hi : ElemInfo P t e sz bytes) (hsz : 0 < sz) (hby : bytes ≤ 1000)
    (hone : ∀ x cs, E x cs → ∀ u ∈ cs, u.oneCell' = true) (hs : a.eval s = v) (hown : OwnP w base e sz E v xs) (hx : a.eval x = sv) (hys : SlP w B sz E sv ys) (hl : xs.length + ys.length ≤ Few) (hbase : base ≤ w.heap.size)
    (h : ∀ v' w', OwnP w' base e sz E v' (xs ++ ys) → Below base w w' → w.grownBy w' v.ownBlock → (v'.ownBlock = v.ownBlock ∨ v'.ownBlock = some w.heap.size) → K (a.put o.dst v') w') :
    if Region.wanted o (yielded ops a.tmps) = true then Oper.wp P o a w K Q else F := by
  have hw : Region.wanted o (yielded ops a.tmps) = true := by simp [Region.wanted, hg]
  rw [if_pos hw]
  unfold Few at hl
  obtain ⟨v', w', r1, r2, r3, r4⟩ := run_app (P := P) (ty := o.type) hi hsz hone hown hys (Nat.le_trans (Nat.mul_le_mul hl hby) (by omega)) (by unfold Big; omega) hbase
  unfold Oper.wp execOp
  simp only [hop, resolve, invoke, builtin, Sem.run_bind, Sem.run_pure, Result.andThen_ok, List.map_toArray, List.map_cons, List.map_nil, hs, hx, r1]
  exact h v' w' r2 ((Below.refl base w).grown r3 hbase fun g hg => (hown.lt g hg).1) r3 r4

/-- The array in block Bp holds the four rows vs, which own the lists ls. -/
structure Rows4 {α : Type} (w : World) (base Bp : Nat) (T e : TypeId) (sz : Nat) (E : α → List Value → Prop) (vs : Nat → Value) (ls : Nat → List α) : Prop where
  arr : w.heap[Bp]? = some (.cells #[vs 0, vs 1, vs 2, vs 3] T (0, 0))
  lo : Bp < base
  own : ∀ i, i < 4 → OwnP w base e sz E (vs i) (ls i)
  apart : ∀ i j, i < 4 → j < 4 → i ≠ j → ∀ g, (vs i).ownBlock = some g → (vs j).ownBlock ≠ some g

section
variable {α : Type} {w w' : World} {base Bp : Nat} {T e : TypeId} {sz : Nat} {E : α → List Value → Prop} {vs : Nat → Value} {ls : Nat → List α}
theorem four_get {β : Type} (f : Nat → β) {d : Nat} (h : d < 4) : (#[f 0, f 1, f 2, f 3] : Array β)[d]? = some (f d) := by
  match d, h with
  | 0, _ => rfl
  | 1, _ => rfl
  | 2, _ => rfl
  | 3, _ => rfl
theorem four_set {β : Type} (f : Nat → β) {d : Nat} (h : d < 4) (x : β) : (#[f 0, f 1, f 2, f 3] : Array β).setIfInBounds d x =
    #[(fun i => if i = d then x else f i) 0, (fun i => if i = d then x else f i) 1, (fun i => if i = d then x else f i) 2, (fun i => if i = d then x else f i) 3] := by
  match d, h with
  | 0, _ => simp
  | 1, _ => simp
  | 2, _ => simp
  | 3, _ => simp
theorem Rows4.start (h : w.heap[Bp]? = some (.cells #[.slice none 0 0, .slice none 0 0, .slice none 0 0, .slice none 0 0] T (0, 0))) (hlo : Bp < base) : Rows4 w base Bp T e sz E (fun _ => .slice none 0 0) (fun _ => ([] : List α)) :=
  ⟨h, hlo, fun _ _ => OwnP.nil, fun _ _ _ _ _ g hg => by cases hg⟩
theorem Rows4.at (h : Rows4 w base Bp T e sz E vs ls) {d : Nat} (hd : d < 4) : w.cell? ⟨Bp, d, none⟩ = some (vs d) := (cell_cells h.arr).trans (four_get vs hd)
theorem Rows4.frz (h : Rows4 w base Bp T e sz E vs ls) (d : Nat) : w.frozen? ⟨Bp, d, none⟩ = false := cells_frz h.arr
theorem Rows4.grow (h : Rows4 w base Bp T e sz E vs ls) (hb : Below w.heap.size w w') : Rows4 w' base Bp T e sz E vs ls :=
  ⟨(hb.block _ (Array.getElem?_eq_some_iff.1 h.arr).1).trans h.arr, h.lo, fun i hi => (h.own i hi).grow hb, h.apart⟩
theorem Rows4.same (h : Rows4 w base Bp T e sz E vs ls) (hb : w'.heap = w.heap) : Rows4 w' base Bp T e sz E vs ls :=
  ⟨by rw [hb]; exact h.arr, h.lo, fun i hi => (h.own i hi).keep fun _ _ => by rw [hb], h.apart⟩
theorem Rows4.sl (h : Rows4 w base Bp T e sz E vs ls) {d : Nat} (hd : d < 4) (hl : (ls d).length ≤ Big) : SlP w w.heap.size sz E (vs d) (ls d) := (h.own d hd).sl hl
/-- Row d has grown, and stands in the array again. -/
theorem Rows4.put (h : Rows4 w base Bp T e sz E vs ls) {d : Nat} (hd : d < 4) {v' : Value} {xs : List α} (ho : OwnP w' base e sz E v' xs) (hg : w.grownBy w' (vs d).ownBlock) (hv : v'.ownBlock = (vs d).ownBlock ∨ v'.ownBlock = some w.heap.size) :
    Rows4 (w'.setCell ⟨Bp, d, none⟩ v') base Bp T e sz E (fun i => if i = d then v' else vs i) (fun i => if i = d then xs else ls i) := by
  have hBp : w'.heap[Bp]? = some (.cells #[vs 0, vs 1, vs 2, vs 3] T (0, 0)) :=
    (hg.block Bp (Array.getElem?_eq_some_iff.1 h.arr).1 (fun e => by have := (h.own d hd).lt Bp e.symm; have := h.lo; omega)).trans h.arr
  refine ⟨?_, h.lo, fun i hi => ?_, fun i j hi hj hij g hgi => ?_⟩
  · rw [cells_set hBp v', four_set vs hd v']
  · by_cases e : i = d
    · subst e; simp only [if_pos]; exact ho.setOther h.lo v'
    · simp only [if_neg e]
      refine ((h.own i hi).keep fun g hgi => ?_).setOther h.lo v'
      exact hg.block g ((h.own i hi).lt g hgi).2 (fun e' => h.apart i d hi hd e g hgi e'.symm)
  · by_cases e : i = d
    · subst e
      simp only [if_pos] at hgi
      rw [if_neg (fun e' => hij e'.symm)]
      intro hgj
      rcases hv with hv | hv
      · rw [hv] at hgi; exact h.apart i j hi hj hij g hgi hgj
      · rw [hv] at hgi; cases hgi; exact absurd ((h.own j hj).lt _ hgj).2 (Nat.lt_irrefl _)
    · simp only [if_neg e] at hgi
      by_cases e2 : j = d
      · subst e2
        rw [if_pos rfl]
        intro hgj
        rcases hv with hv | hv
        · rw [hv] at hgj; exact h.apart i j hi hj hij g hgi hgj
        · rw [hv] at hgj; cases hgj; exact absurd ((h.own i hi).lt _ hgi).2 (Nat.lt_irrefl _)
      · rw [if_neg e2]; exact h.apart i j hi hj hij g hgi
end

theorem SlA.shape {α : Type} {w : World} {ok : Nat → Prop} {sz : Nat} {E : α → List Value → Prop} {v : Value} {xs : List α} (h : SlA w ok sz E v xs) : ∃ A c, v = .slice A xs.length c := by
  obtain ⟨A, c, rfl, _⟩ := h; exact ⟨A, c, rfl⟩
theorem SlA.slp {α : Type} {w w' : World} {ok : Nat → Prop} {sz : Nat} {E : α → List Value → Prop} {v : Value} {xs : List α} (h : SlA w ok sz E v xs) (hk : ∀ b, ok b → b < w.heap.size) (hb : Below w.heap.size w w') : SlP w' w'.heap.size sz E v xs :=
  SlP_iff.2 (h.up (fun b hb' => hb.block b (hk b hb')) (fun b hb' => Nat.lt_of_lt_of_le (hk b hb') hb.size) (fun _ _ _ h => h))
theorem rda_rd {w w' : World} {ok : Nat → Prop} {t : Tr} {ve vk : Value} (h : t.rda w ok ve vk) (hk : ∀ b, ok b → b < w.heap.size) (hb : Below w.heap.size w w') : t.rd w' w'.heap.size ve vk :=
  (rd_rda t ve vk).2 (rda_up (fun b hb' => hb.block b (hk b hb')) (fun b hb' => Nat.lt_of_lt_of_le (hk b hb') hb.size) t ve vk h)

end Go.Proofs.Ytdmhfiofgioihaa

namespace Go.Proofs.Ytdmhfiofgioihaa
open Go.RowKit
set_option maxRecDepth 100000

def dcsOk : Int → List Sp → Bool
  | _, [] => true
  | last, s :: c => decide (last ≤ s.dc) && decide (s.dc < 4) && dcsOk s.dc c
/-- A context that may be taken apart. -/
def apartB (c : List Sp) : Bool := dcsOk 0 c && (List.range 4).all fun (dc : Nat) => runsR none (partL c dc)
def nilV : Value := .slice none 0 0
/-- What context.apart hands back. -/
def RetA (w : World) (c : List Sp) (e : Ending) (w' : World) : Prop :=
  ∃ vs : Nat → Value, e = .returned (.tuple #[.agg #[vs 0, vs 1, vs 2, vs 3], .bool (apartB c)]) ∧ (∀ i, i < 4 → SlA w' (fun b => w.heap.size ≤ b ∧ b < w'.heap.size) 2 RuE (vs i) (if apartB c then partL c i else [])) ∧ Below w.heap.size w w'
/-- The state of the first loop. -/
def ApA (c : List Sp) (w : World) (k : Nat) (wr : World) : Prop :=
  ∃ vs : Nat → Value, Rows4 wr (w.heap.size + 2) (w.heap.size + 1) 100 132 2 RuE vs (fun i => partL (c.take k) i) ∧
    wr.heap[w.heap.size]? = some (.cells #[.slice none 0 0, .slice none 0 0, .slice none 0 0, .slice none 0 0] 100 (0, 0)) ∧ Below w.heap.size w wr

set_option maxHeartbeats 4000000 in
theorem apart_any (c : List Sp) (vc : Value) (w : World) (h : SlP w w.heap.size 3 SpE vc c) (hN : c.length ≤ 900000) :
    Calls Try.prog 72 #[vc] w (RetA w c) := by
  obtain ⟨A, n, rfl, b1, b2, b3⟩ := h
  unfold Big at b2
  go_enter Try.func72, Try.ntmps72
  go_wp2_with fail
  go_loopw [5, 12] (fun l i wr => ∃ (k : Nat) (L : Int), k ≤ c.length ∧ i = .int .i64 k ∧ l = .int .i64 L ∧ 0 ≤ L ∧ L ≤ 4 ∧ Hid (dcsOk L (c.drop k) = dcsOk 0 c) ∧ ApA c w k wr) (fun _ i _ => c.length - (intOf i).toNat)
  case atStart =>
    refine ⟨0, 0, Nat.zero_le _, rfl, rfl, by omega, by omega, rfl, fun _ => .slice none 0 0, Rows4.start (heap_new (by simp)) (by omega), ?_, ((Below.refl _ w).alloc (Nat.le_refl _) _).alloc (by simp) _⟩
    rw [heap_old (by simp)]; exact heap_new rfl
  case round =>
    obtain ⟨k, L, hk, rfl, rfl, hL0, hL1, hrel, vs, hr4, hg2, hb⟩ := hrel
    have hsz := hb.size
    have hsz2 : w.heap.size + 1 < wr.heap.size := (Array.getElem?_eq_some_iff.1 hr4.arr).1
    have hsz3 : w.heap.size < wr.heap.size := by omega
    have hsz4 : w.heap.size ≠ wr.heap.size := by omega
    have hsz5 : w.heap.size + 1 ≠ wr.heap.size := by omega
    by_cases hlt : k < c.length
    · obtain ⟨⟨dc, fr, hi⟩, hx⟩ : ∃ x, c[k]? = some x := ⟨_, List.getElem?_eq_getElem hlt⟩
      obtain ⟨b, off, rfl, hbB, hc⟩ := b3 (by rintro rfl; simp at hlt)
      obtain ⟨cs, ⟨rfl, hok⟩, _, hu⟩ := hc k _ hx
      have e0 : wr.cell? ⟨b, off + k * 3, none⟩ = some (.int .i64 dc) := (hb.cell hbB).trans (hu 0 _ rfl)
      have e1 : wr.cell? ⟨b, off + k * 3 + 1, none⟩ = some (.int .i64 fr) := (hb.cell hbB).trans (hu 1 _ rfl)
      have e2 : wr.cell? ⟨b, off + k * 3 + 2, none⟩ = some (.int .i64 hi) := (hb.cell hbB).trans (hu 2 _ rfl)
      have HD : Hid (dcsOk 0 c = (decide (L ≤ dc) && decide (dc < 4) && dcsOk dc (c.drop (k + 1)))) := by
        have := hrel.out
        rw [drop_cons hx] at this
        exact this.symm
      have HG := hid hg2
      have HR4 := hid hr4
      have HP : ∀ (d : Nat), (dc = (d : Int)) → Hid ((fun i : Nat => partL (c.take (k + 1)) i) = fun i => if i = d then partL (c.take k) d ++ [(fr, hi)] else partL (c.take k) i) := fun d hd => by
        unfold Hid; funext i
        rw [partL_take hx]
        by_cases e : i = d
        · subst e; rw [if_pos rfl, if_pos (by exact hd)]
        · rw [if_neg e, if_neg (by show ¬ dc = (i : Int); omega), List.append_nil]
      have hpl := partL_len (c.take k)
      clear hu hx hc b3 hrel hg2 hr4
      by_cases h1 : dc < L ∨ 4 ≤ dc
      · have HF : Hid (apartB c = false) := by
          unfold Hid apartB
          rw [HD.out]
          rcases h1 with h1 | h1
          · rw [show decide (L ≤ dc) = false by simp; omega]; simp
          · rw [show decide (dc < 4) = false by simp; omega]; simp
        have z0 := cells_frz (i := 0) HG.out
        have z1 := cells_frz (i := 1) HG.out
        have z2 := cells_frz (i := 2) HG.out
        have z3 := cells_frz (i := 3) HG.out
        have c0 : wr.cell? ⟨w.heap.size, 0, none⟩ = some (.slice none 0 0) := cell_cells (i := 0) HG.out
        have c1 : wr.cell? ⟨w.heap.size, 1, none⟩ = some (.slice none 0 0) := cell_cells (i := 1) HG.out
        have c2 : wr.cell? ⟨w.heap.size, 2, none⟩ = some (.slice none 0 0) := cell_cells (i := 2) HG.out
        have c3 : wr.cell? ⟨w.heap.size, 3, none⟩ = some (.slice none 0 0) := cell_cells (i := 3) HG.out
        have hz := HG
        have hBz := hb
        by_cases h2 : dc < L
        · go_wp2_with fail
          have hW0 := cells_set (i := 3) (cells_set (i := 2) (cells_set (i := 1) (cells_set (i := 0) hz.out (.slice none 0 0)) (.slice none 0 0)) (.slice none 0 0)) (.slice none 0 0)
          have hBW : Below w.heap.size w ((((((wr).setCell ⟨w.heap.size, 0, none⟩ (.slice none 0 0)).setCell ⟨w.heap.size, 1, none⟩ (.slice none 0 0)).setCell ⟨w.heap.size, 2, none⟩ (.slice none 0 0)).setCell ⟨w.heap.size, 3, none⟩ (.slice none 0 0))) := (((hBz.setCell (Nat.le_refl _) _).setCell (Nat.le_refl _) _).setCell (Nat.le_refl _) _).setCell (Nat.le_refl _) _
          clear c0 c1 c2 c3 z0 z1 z2 z3
          generalize (((((wr).setCell ⟨w.heap.size, 0, none⟩ (.slice none 0 0)).setCell ⟨w.heap.size, 1, none⟩ (.slice none 0 0)).setCell ⟨w.heap.size, 2, none⟩ (.slice none 0 0)).setCell ⟨w.heap.size, 3, none⟩ (.slice none 0 0)) = W at *
          have hWs : w.heap.size < W.heap.size := (Array.getElem?_eq_some_iff.1 hW0).1
          have r0 : (W.alloc (.cells #[.int .i64 dc, .int .i64 fr, .int .i64 hi] 78)).cell? ⟨w.heap.size, 0, none⟩ = some (.slice none 0 0) := (cell_cells (i := 0) (((heap_old hWs).trans) hW0)).trans (by simp)
          have r1 : (W.alloc (.cells #[.int .i64 dc, .int .i64 fr, .int .i64 hi] 78)).cell? ⟨w.heap.size, 1, none⟩ = some (.slice none 0 0) := (cell_cells (i := 1) (((heap_old hWs).trans) hW0)).trans (by simp)
          have r2 : (W.alloc (.cells #[.int .i64 dc, .int .i64 fr, .int .i64 hi] 78)).cell? ⟨w.heap.size, 2, none⟩ = some (.slice none 0 0) := (cell_cells (i := 2) (((heap_old hWs).trans) hW0)).trans (by simp)
          have r3 : (W.alloc (.cells #[.int .i64 dc, .int .i64 fr, .int .i64 hi] 78)).cell? ⟨w.heap.size, 3, none⟩ = some (.slice none 0 0) := (cell_cells (i := 3) (((heap_old hWs).trans) hW0)).trans (by simp)
          have hBX : Below w.heap.size w (W.alloc (.cells #[.int .i64 dc, .int .i64 fr, .int .i64 hi] 78)) := (fun h => h.alloc (by omega) _) hBW
          refine bodyPost_ret (v := .tuple #[.agg #[.slice none 0 0, .slice none 0 0, .slice none 0 0, .slice none 0 0], .bool false]) (by simp [results, Try.results72, go_sem, r0, r1, r2, r3]) rfl ⟨fun _ => .slice none 0 0, by rw [HF.out], fun i _ => by rw [HF.out]; exact ⟨none, 0, rfl, Nat.le_refl _, by simp, fun h => absurd rfl h⟩, hBX⟩
        · have h4 : 4 ≤ dc := by omega
          go_wp2_with fail
          have hW0 := cells_set (i := 3) (cells_set (i := 2) (cells_set (i := 1) (cells_set (i := 0) hz.out (.slice none 0 0)) (.slice none 0 0)) (.slice none 0 0)) (.slice none 0 0)
          have hBW : Below w.heap.size w ((((((wr).setCell ⟨w.heap.size, 0, none⟩ (.slice none 0 0)).setCell ⟨w.heap.size, 1, none⟩ (.slice none 0 0)).setCell ⟨w.heap.size, 2, none⟩ (.slice none 0 0)).setCell ⟨w.heap.size, 3, none⟩ (.slice none 0 0))) := (((hBz.setCell (Nat.le_refl _) _).setCell (Nat.le_refl _) _).setCell (Nat.le_refl _) _).setCell (Nat.le_refl _) _
          clear c0 c1 c2 c3 z0 z1 z2 z3
          generalize (((((wr).setCell ⟨w.heap.size, 0, none⟩ (.slice none 0 0)).setCell ⟨w.heap.size, 1, none⟩ (.slice none 0 0)).setCell ⟨w.heap.size, 2, none⟩ (.slice none 0 0)).setCell ⟨w.heap.size, 3, none⟩ (.slice none 0 0)) = W at *
          have hWs : w.heap.size < W.heap.size := (Array.getElem?_eq_some_iff.1 hW0).1
          have r0 : (W.alloc (.cells #[.int .i64 dc, .int .i64 fr, .int .i64 hi] 78)).cell? ⟨w.heap.size, 0, none⟩ = some (.slice none 0 0) := (cell_cells (i := 0) (((heap_old hWs).trans) hW0)).trans (by simp)
          have r1 : (W.alloc (.cells #[.int .i64 dc, .int .i64 fr, .int .i64 hi] 78)).cell? ⟨w.heap.size, 1, none⟩ = some (.slice none 0 0) := (cell_cells (i := 1) (((heap_old hWs).trans) hW0)).trans (by simp)
          have r2 : (W.alloc (.cells #[.int .i64 dc, .int .i64 fr, .int .i64 hi] 78)).cell? ⟨w.heap.size, 2, none⟩ = some (.slice none 0 0) := (cell_cells (i := 2) (((heap_old hWs).trans) hW0)).trans (by simp)
          have r3 : (W.alloc (.cells #[.int .i64 dc, .int .i64 fr, .int .i64 hi] 78)).cell? ⟨w.heap.size, 3, none⟩ = some (.slice none 0 0) := (cell_cells (i := 3) (((heap_old hWs).trans) hW0)).trans (by simp)
          have hBX : Below w.heap.size w (W.alloc (.cells #[.int .i64 dc, .int .i64 fr, .int .i64 hi] 78)) := (fun h => h.alloc (by omega) _) hBW
          refine bodyPost_ret (v := .tuple #[.agg #[.slice none 0 0, .slice none 0 0, .slice none 0 0, .slice none 0 0], .bool false]) (by simp [results, Try.results72, go_sem, r0, r1, r2, r3]) rfl ⟨fun _ => .slice none 0 0, by rw [HF.out], fun i _ => by rw [HF.out]; exact ⟨none, 0, rfl, Nat.le_refl _, by simp, fun h => absurd rfl h⟩, hBX⟩
      · obtain ⟨d, rfl⟩ : ∃ d : Nat, dc = (d : Int) := ⟨dc.toNat, by omega⟩
        have hd4 : d < 4 := by omega
        have hdi : (d : Int) < 4 := by omega
        have hdL : L ≤ (d : Int) := by omega
        have HDR : Hid (dcsOk (d : Int) (c.drop (k + 1)) = dcsOk 0 c) := by
          unfold Hid; rw [HD.out, show decide (L ≤ (d : Int)) = true by simp; omega, show decide ((d : Int) < 4) = true by simp; omega]; rfl
        have HPD := HP d rfl
        have HL : Hid ((partL (c.take k) d).length + [(fr, hi)].length ≤ Few) := by have := hpl d; rw [List.length_take] at this; unfold Hid Few; simp; omega
        have HRE : Hid (RuE (fr, hi) [.int .i64 fr, .int .i64 hi]) := ⟨rfl, hok.fr, hok.hi⟩
        have hbp : wr.cell? ⟨w.heap.size + 1, d, none⟩ = some (vs d) := HR4.out.at hd4
        have HOWN : Hid (∀ W, Below wr.heap.size wr W → OwnP W (w.heap.size + 2) 132 2 RuE (vs d) (partL (c.take k) d)) := fun W hW => (HR4.out.own d hd4).grow hW
        have HLT := hid ((HR4.out.own d hd4).lt)
        have HGB : Hid (∀ W3 w4, Below wr.heap.size wr W3 → W3.grownBy w4 (vs d).ownBlock → ∀ b, b < w.heap.size + 2 → w4.heap[b]? = wr.heap[b]?) := fun W3 w4 h3 h4 b hb =>
          (h4.block b (by have := h3.size; omega) (fun e => by have := HLT.out b e.symm; omega)).trans (h3.block b (by omega))
        clear HP hpl h1 hok HD
        go_wp2_with fail
        refine wp_region_pop_n (S := fun w' => w'.cell? ⟨wr.heap.size, 0, none⟩ = some (.int .i64 (d : Int)) ∧ w'.cell? ⟨wr.heap.size, 1, none⟩ = some (.int .i64 fr) ∧ w'.cell? ⟨wr.heap.size, 2, none⟩ = some (.int .i64 hi) ∧ w'.cell? ⟨w.heap.size + 1, d, none⟩ = some (vs d)) 14 (by kernel_rfl) (by kernel_rfl) ?_
        simp only [List.take_succ_cons, List.take_zero, List.drop_succ_cons, List.drop_zero]
        have hHeld : (fun w' : World => w'.cell? ⟨wr.heap.size, 0, none⟩ = some (.int .i64 (d : Int)) ∧ w'.cell? ⟨wr.heap.size, 1, none⟩ = some (.int .i64 fr) ∧ w'.cell? ⟨wr.heap.size, 2, none⟩ = some (.int .i64 hi) ∧ w'.cell? ⟨w.heap.size + 1, d, none⟩ = some (vs d)) (wr.alloc (.cells #[.int .i64 (d : Int), .int .i64 fr, .int .i64 hi] 78)).drew := by go_keep
        refine wpAnyH_take (i := 0) (oi := _) (v := ?v0) rfl (by kernel_rfl) (by kernel_rfl) (by kernel_rfl) (fun _ _ _ h => h) (Or.inl ⟨by rfl, ?h0⟩) (by assumption) ?_
        case h0 => (intro w hSw; (try dsimp only at hSw); go_simp; (try with_reducible rfl))
        simp only [Act.put, List.setIfInBounds_toArray]
        refine wpAnyH_take (i := 1) (oi := _) (v := ?v1) rfl (by kernel_rfl) (by kernel_rfl) (by kernel_rfl) (fun _ _ _ h => h) (Or.inl ⟨by rfl, ?h1⟩) (by assumption) ?_
        case h1 => (intro w hSw; (try dsimp only at hSw); go_simp; (try with_reducible rfl))
        simp only [Act.put, List.setIfInBounds_toArray]
        refine wpAnyH_take (i := 2) (oi := _) (v := ?v2) rfl (by kernel_rfl) (by kernel_rfl) (by kernel_rfl) (fun _ _ _ h => h) (Or.inl ⟨by rfl, ?h2⟩) (by assumption) ?_
        case h2 => (intro w hSw; (try dsimp only at hSw); go_simp; (try with_reducible rfl))
        simp only [Act.put, List.setIfInBounds_toArray]
        refine wpAnyH_take (i := 3) (oi := _) (v := ?v3) rfl (by kernel_rfl) (by kernel_rfl) (by kernel_rfl) (fun _ _ _ h => h) (Or.inl ⟨by rfl, ?h3⟩) (by assumption) ?_
        case h3 => (intro w hSw; (try dsimp only at hSw); go_simp; (try with_reducible rfl))
        simp only [Act.put, List.setIfInBounds_toArray]
        refine wpAnyH_take (i := 4) (oi := _) (v := ?v4) rfl (by kernel_rfl) (by kernel_rfl) (by kernel_rfl) (fun _ _ _ h => h) (Or.inl ⟨by rfl, ?h4⟩) (by assumption) ?_
        case h4 => (intro w hSw; (try dsimp only at hSw); go_simp; (try with_reducible rfl))
        simp only [Act.put, List.setIfInBounds_toArray]
        refine wpAnyH_take (i := 5) (oi := _) (v := ?v5) rfl (by kernel_rfl) (by kernel_rfl) (by kernel_rfl) (fun _ _ _ h => h) (Or.inl ⟨by rfl, ?h5⟩) (by assumption) ?_
        case h5 => (intro w hSw; (try dsimp only at hSw); go_simp; (try with_reducible rfl))
        simp only [Act.put, List.setIfInBounds_toArray]
        refine wpAnyH_take (i := 6) (oi := _) (v := ?v6) rfl (by kernel_rfl) (by kernel_rfl) (by kernel_rfl) (fun _ _ _ h => h) (Or.inl ⟨by rfl, ?h6⟩) (by assumption) ?_
        case h6 => (intro w hSw; (try dsimp only at hSw); go_simp; (try with_reducible rfl))
        simp only [Act.put, List.setIfInBounds_toArray]
        refine wpAnyH_take (i := 7) (oi := _) (v := ?v7) rfl (by kernel_rfl) (by kernel_rfl) (by kernel_rfl) (fun _ _ _ h => h) (Or.inl ⟨by rfl, ?h7⟩) (by assumption) ?_
        case h7 => (intro w hSw; (try dsimp only at hSw); go_simp; (try with_reducible rfl))
        simp only [Act.put, List.setIfInBounds_toArray]
        refine wpAnyH_take (i := 8) (oi := _) (v := ?v8) rfl (by kernel_rfl) (by kernel_rfl) (by kernel_rfl) (fun _ _ _ h => h) (Or.inl ⟨by rfl, ?h8⟩) (by assumption) ?_
        case h8 => (intro w hSw; (try dsimp only at hSw); go_simp; (try with_reducible rfl))
        simp only [Act.put, List.setIfInBounds_toArray]
        refine wpAnyH_take (i := 9) (oi := _) (v := ?v9) rfl (by kernel_rfl) (by kernel_rfl) (by kernel_rfl) (fun _ _ _ h => h) (Or.inl ⟨by rfl, ?h9⟩) (by assumption) ?_
        case h9 => (intro w hSw; (try dsimp only at hSw); go_simp; (try with_reducible rfl))
        simp only [Act.put, List.setIfInBounds_toArray]
        refine wpAnyH_take (i := 10) (oi := _) (v := ?v10) rfl (by kernel_rfl) (by kernel_rfl) (by kernel_rfl) (fun _ _ _ h => h) (Or.inl ⟨by rfl, ?h10⟩) (by assumption) ?_
        case h10 => (intro w hSw; (try dsimp only at hSw); go_simp; (try with_reducible rfl))
        simp only [Act.put, List.setIfInBounds_toArray]
        refine wpAnyH_ready (rs := [11]) (by kernel_rfl) (by simp) ?_
        refine AllReadyH.cons (o := _) rfl (fun K hK => ?_) AllReadyH.nil
        go_simp
        refine hK.out _ _ ?_ (fun hHeld11 => ?_)
        · go_keep
        clear hK K
        simp only [List.setIfInBounds_toArray]
        refine wpAnyH_ready (rs := [12]) (by kernel_rfl) (by simp) ?_
        refine AllReadyH.cons (o := _) rfl (fun K hK => ?_) AllReadyH.nil
        (refine step_few4 (v := vs d) rfl (.tmp 33) (.tmp 39) _ rfl eiRun (by decide) (by decide) (fun _ _ h => h.one) rfl (HOWN.out _ ((((Below.refl wr.heap.size wr).alloc (Nat.le_refl _) _).drew).alloc (by simp) _)) rfl (SlP.one (x := (fr, hi)) HRE.out rfl _ (by simp)) HL.out (by simp; omega) ?_; intro v1 w4 hown4 hb4 hg4 hv4; have hsh4 := OwnP.shape hown4; simp only [List.length_append, List.length_singleton] at hsh4; obtain ⟨A1, c1, hv1⟩ := hsh4; subst hv1; have hg4h := hid (HGB.out _ _ ((((Below.refl wr.heap.size wr).alloc (Nat.le_refl _) _).drew).alloc (by simp) _) hg4); have hc4 : w4.cell? ⟨w.heap.size + 1, d, none⟩ = some (vs d) := (cell_cells ((hg4h.out _ (by omega)).trans HR4.out.arr)).trans (four_get vs hd4); have hf4 : w4.frozen? ⟨w.heap.size + 1, d, none⟩ = false := cells_frz ((hg4h.out _ (by omega)).trans HR4.out.arr); have hx3 := (hg4.block wr.heap.size (by simp; omega) (fun e => by have := HLT.out _ e.symm; omega)).trans ((heap_old (by simp)).trans (heap_new (o := .cells #[.int .i64 (d : Int), .int .i64 fr, .int .i64 hi] 78) rfl)); have hx4 : Hid (w4.cell? ⟨wr.heap.size, 0, none⟩ = some (.int .i64 (d : Int)) ∧ w4.cell? ⟨wr.heap.size, 1, none⟩ = some (.int .i64 fr) ∧ w4.cell? ⟨wr.heap.size, 2, none⟩ = some (.int .i64 hi) ∧ w4.cell? ⟨w.heap.size + 1, d, none⟩ = some (vs d)) := ⟨(cell_cells (i := 0) hx3).trans rfl, (cell_cells (i := 1) hx3).trans rfl, (cell_cells (i := 2) hx3).trans rfl, hc4⟩; clear hx3)
        refine hK.out _ _ ?_ (fun hHeld12 => ?_)
        · exact hx4.out
        clear hK K
        simp only [Act.put, List.setIfInBounds_toArray]
        refine wpAnyH_take (i := 13) (oi := _) (v := ?v13) rfl (by kernel_rfl) (by kernel_rfl) (by kernel_rfl) (fun _ _ _ h => h) (Or.inl ⟨by rfl, ?h13⟩) (by assumption) ?_
        case h13 => (intro w hSw; (try dsimp only at hSw); go_simp; (try with_reducible rfl))
        simp only [Act.put, List.setIfInBounds_toArray]
        refine wpAnyH_done (by kernel_rfl) ?_ _
        change wpList _ _ _ _ _ _
        go_wp2_with fail
        go_roundw
        case rel =>
          refine ⟨k + 1, (d : Int), by omega, by go_num, rfl, by omega, by omega, HDR.out, fun i => if i = d then .slice A1 ((partL (c.take k) d).length + 1) c1 else vs i, ?_, ?_, ?_⟩
          · rw [HPD.out]
            exact Rows4.put (w := ((wr.alloc (.cells #[.int .i64 (d : Int), .int .i64 fr, .int .i64 hi] 78)).alloc (.cells #[.int .i64 fr, .int .i64 hi] 132)).drew) (((HR4.out.grow ((Below.refl _ wr).alloc (Nat.le_refl _) _)).grow ((Below.refl _ _).alloc (Nat.le_refl _) _)).same rfl) hd4 hown4 hg4 hv4
          · exact (Below.heap_setCell _ _ _ _ (by simp)).trans ((hg4h.out _ (by omega)).trans HG.out)
          · exact (((((hb.alloc hsz _).drew).alloc (by simp; omega) _).trans (hb4.mono (by omega))).setCell (by simp) _)
        case measure => simp [intOf]; omega
    · obtain rfl : k = c.length := by omega
      rw [List.take_of_length_le (Nat.le_refl _)] at hr4
      have c0 : wr.cell? ⟨w.heap.size + 1, 0, none⟩ = some (vs 0) := hr4.at (by omega)
      have c1 : wr.cell? ⟨w.heap.size + 1, 1, none⟩ = some (vs 1) := hr4.at (by omega)
      have c2 : wr.cell? ⟨w.heap.size + 1, 2, none⟩ = some (vs 2) := hr4.at (by omega)
      have c3 : wr.cell? ⟨w.heap.size + 1, 3, none⟩ = some (vs 3) := hr4.at (by omega)
      have HR := hid hr4
      have HG := hid hg2
      have hD : dcsOk 0 c = true := by rw [← hrel.out]; simp [dcsOk]
      have HD := hid hD
      clear hr4 hg2 hrel hD b3
      go_wp2_with fail
      obtain ⟨wo, rfl⟩ : ∃ wo : World, wo = wr := ⟨_, rfl⟩
      go_loopw [44] (fun i wr => ∃ k : Nat, k ≤ 4 ∧ i = .int .i64 k ∧ Hid ((List.range k).all (fun (dc : Nat) => runsR none (partL c dc)) = true) ∧ Below wo.heap.size wo wr) (fun i _ => 4 - (intOf i).toNat)
      case atStart => exact ⟨0, by omega, rfl, rfl, Below.refl _ _⟩
      case round =>
        obtain ⟨k, hk, rfl, hrel, hbi⟩ := hrel
        have hsi := hbi.size
        by_cases hk4 : k < 4
        · have hidx : ∀ w, (Instr.index 100 (.agg #[vs 0, vs 1, vs 2, vs 3]) (.int .i64 (k : Int))).run Try.prog w = .ok (vs k) w := fun w => by
            match k, hk4 with
            | 0, _ => rfl
            | 1, _ => rfl
            | 2, _ => rfl
            | 3, _ => rfl
          have HSL : Hid (SlP wr wr.heap.size 2 RuE (vs k) (partL c k)) := (HR.out.sl hk4 (by have := partL_len c k; unfold Big; omega)).imp hbi hsi fun _ _ _ h => h
          have hz4 : w.heap.size < wo.heap.size := by omega
          cases hq : runsR none (partL c k)
          · have HF : Hid (apartB c = false) := by
              unfold Hid apartB
              have : (List.range 4).all (fun (dc : Nat) => runsR none (partL c dc)) = false := by
                rw [List.all_eq_false]; exact ⟨k, by simpa using hk4, by rw [hq]; simp⟩
              rw [this]; simp
            have HQ := hid hq
            clear hq c0 c1 c2 c3
            go_wp2_with (go_at_call 99; refine (sright_any (partL c k) (vs k) wr HSL.out).mono ?_; rw [HQ.out]; rintro e w1 ⟨rfl, hb1⟩; have hz := hid ((hb1.block w.heap.size (by omega)).trans ((hbi.block w.heap.size hz4).trans HG.out)); have hBz := (hb.trans (hbi.mono hsz)).trans (hb1.mono (by omega)); have z0 := cells_frz (i := 0) hz.out; have z1 := cells_frz (i := 1) hz.out; have z2 := cells_frz (i := 2) hz.out; have z3 := cells_frz (i := 3) hz.out; have c0 : w1.cell? ⟨w.heap.size, 0, none⟩ = some (.slice none 0 0) := cell_cells (i := 0) hz.out; have c1 : w1.cell? ⟨w.heap.size, 1, none⟩ = some (.slice none 0 0) := cell_cells (i := 1) hz.out; have c2 : w1.cell? ⟨w.heap.size, 2, none⟩ = some (.slice none 0 0) := cell_cells (i := 2) hz.out; have c3 : w1.cell? ⟨w.heap.size, 3, none⟩ = some (.slice none 0 0) := cell_cells (i := 3) hz.out)
            go_wp2_with fail
            have hW0 := cells_set (i := 3) (cells_set (i := 2) (cells_set (i := 1) (cells_set (i := 0) hz.out (.slice none 0 0)) (.slice none 0 0)) (.slice none 0 0)) (.slice none 0 0)
            have hBW : Below w.heap.size w ((((((w1).setCell ⟨w.heap.size, 0, none⟩ (.slice none 0 0)).setCell ⟨w.heap.size, 1, none⟩ (.slice none 0 0)).setCell ⟨w.heap.size, 2, none⟩ (.slice none 0 0)).setCell ⟨w.heap.size, 3, none⟩ (.slice none 0 0))) := (((hBz.setCell (Nat.le_refl _) _).setCell (Nat.le_refl _) _).setCell (Nat.le_refl _) _).setCell (Nat.le_refl _) _
            clear c0 c1 c2 c3 z0 z1 z2 z3
            generalize (((((w1).setCell ⟨w.heap.size, 0, none⟩ (.slice none 0 0)).setCell ⟨w.heap.size, 1, none⟩ (.slice none 0 0)).setCell ⟨w.heap.size, 2, none⟩ (.slice none 0 0)).setCell ⟨w.heap.size, 3, none⟩ (.slice none 0 0)) = W at *
            have hWs : w.heap.size < W.heap.size := (Array.getElem?_eq_some_iff.1 hW0).1
            have r0 : (W).cell? ⟨w.heap.size, 0, none⟩ = some (.slice none 0 0) := (cell_cells (i := 0) ((id) hW0)).trans (by simp)
            have r1 : (W).cell? ⟨w.heap.size, 1, none⟩ = some (.slice none 0 0) := (cell_cells (i := 1) ((id) hW0)).trans (by simp)
            have r2 : (W).cell? ⟨w.heap.size, 2, none⟩ = some (.slice none 0 0) := (cell_cells (i := 2) ((id) hW0)).trans (by simp)
            have r3 : (W).cell? ⟨w.heap.size, 3, none⟩ = some (.slice none 0 0) := (cell_cells (i := 3) ((id) hW0)).trans (by simp)
            have hBX : Below w.heap.size w (W) := (id) hBW
            refine bodyPost_ret (v := .tuple #[.agg #[.slice none 0 0, .slice none 0 0, .slice none 0 0, .slice none 0 0], .bool false]) (by simp [results, Try.results72, go_sem, r0, r1, r2, r3]) rfl ⟨fun _ => .slice none 0 0, by rw [HF.out], fun i _ => by rw [HF.out]; exact ⟨none, 0, rfl, Nat.le_refl _, by simp, fun h => absurd rfl h⟩, hBX⟩
          · have HN : Hid ((List.range (k + 1)).all (fun (dc : Nat) => runsR none (partL c dc)) = true) := by
              unfold Hid; rw [List.range_succ, List.all_append, hrel.out]; simp [hq]
            have HQ := hid hq
            clear hq
            go_wp2_with (go_at_call 99; refine (sright_any (partL c k) (vs k) wr HSL.out).mono ?_; rw [HQ.out]; rintro e w1 ⟨rfl, hb1⟩)
            go_roundw
            case rel => exact ⟨k + 1, by omega, by go_num, HN.out, hbi.trans (hb1.mono hsi)⟩
            case measure => simp [intOf]; omega
        · obtain rfl : k = 4 := by omega
          have HT : Hid (apartB c = true) := by unfold Hid apartB; rw [HD.out, hrel.out]; rfl
          have HR2 := hid (HR.out.grow hbi)
          have hz := hid ((hbi.block w.heap.size (by omega)).trans HG.out)
          have hBz := hb.trans (hbi.mono hsz)
          have hsz6 : w.heap.size < wr.heap.size := by omega
          have hsz7 : w.heap.size + 1 < wr.heap.size := by omega
          clear c0 c1 c2 c3
          have z0 := cells_frz (i := 0) hz.out
          have z1 := cells_frz (i := 1) hz.out
          have z2 := cells_frz (i := 2) hz.out
          have z3 := cells_frz (i := 3) hz.out
          have c0 : wr.cell? ⟨w.heap.size, 0, none⟩ = some (.slice none 0 0) := cell_cells (i := 0) hz.out
          have c1 : wr.cell? ⟨w.heap.size, 1, none⟩ = some (.slice none 0 0) := cell_cells (i := 1) hz.out
          have c2 : wr.cell? ⟨w.heap.size, 2, none⟩ = some (.slice none 0 0) := cell_cells (i := 2) hz.out
          have c3 : wr.cell? ⟨w.heap.size, 3, none⟩ = some (.slice none 0 0) := cell_cells (i := 3) hz.out
          have d0 : wr.cell? ⟨w.heap.size + 1, 0, none⟩ = some (vs 0) := HR2.out.at (by omega)
          have d1 : wr.cell? ⟨w.heap.size + 1, 1, none⟩ = some (vs 1) := HR2.out.at (by omega)
          have d2 : wr.cell? ⟨w.heap.size + 1, 2, none⟩ = some (vs 2) := HR2.out.at (by omega)
          have d3 : wr.cell? ⟨w.heap.size + 1, 3, none⟩ = some (vs 3) := HR2.out.at (by omega)
          obtain ⟨A0, m0, g0⟩ := (HR2.out.own 0 (by omega)).shape
          obtain ⟨A1, m1, g1⟩ := (HR2.out.own 1 (by omega)).shape
          obtain ⟨A2, m2, g2⟩ := (HR2.out.own 2 (by omega)).shape
          obtain ⟨A3, m3, g3⟩ := (HR2.out.own 3 (by omega)).shape
          have G0 := hid g0
          have G1 := hid g1
          have G2 := hid g2
          have G3 := hid g3
          simp only [g0, g1, g2, g3] at d0 d1 d2 d3 ⊢
          clear g0 g1 g2 g3
          go_wp2_with fail
          have hW0 := cells_set (i := 3) (cells_set (i := 2) (cells_set (i := 1) (cells_set (i := 0) hz.out (vs 0)) (vs 1)) (vs 2)) (vs 3)
          have hBW : Below w.heap.size w ((((wr.setCell ⟨w.heap.size, 0, none⟩ (vs 0)).setCell ⟨w.heap.size, 1, none⟩ (vs 1)).setCell ⟨w.heap.size, 2, none⟩ (vs 2)).setCell ⟨w.heap.size, 3, none⟩ (vs 3)) := (((hBz.setCell (Nat.le_refl _) _).setCell (Nat.le_refl _) _).setCell (Nat.le_refl _) _).setCell (Nat.le_refl _) _
          have hOW : ∀ i, i < 4 → OwnP ((((wr.setCell ⟨w.heap.size, 0, none⟩ (vs 0)).setCell ⟨w.heap.size, 1, none⟩ (vs 1)).setCell ⟨w.heap.size, 2, none⟩ (vs 2)).setCell ⟨w.heap.size, 3, none⟩ (vs 3)) (w.heap.size + 2) 132 2 RuE (vs i) (partL c i) := fun i hi =>
            ((((HR2.out.own i hi).setOther (a := ⟨w.heap.size, 0, none⟩) (by simp) _).setOther (a := ⟨w.heap.size, 1, none⟩) (by simp) _).setOther (a := ⟨w.heap.size, 2, none⟩) (by simp) _).setOther (a := ⟨w.heap.size, 3, none⟩) (by simp) _
          rw [G0.out, G1.out, G2.out, G3.out] at hW0 hBW
          simp only [G0.out, G1.out, G2.out, G3.out] at hOW
          clear c0 c1 c2 c3 z0 z1 z2 z3 d0 d1 d2 d3
          generalize ((((wr.setCell ⟨w.heap.size, 0, none⟩ (.slice A0 (partL c ((0 : Nat) : Int)).length m0)).setCell ⟨w.heap.size, 1, none⟩ (.slice A1 (partL c ((1 : Nat) : Int)).length m1)).setCell ⟨w.heap.size, 2, none⟩ (.slice A2 (partL c ((2 : Nat) : Int)).length m2)).setCell ⟨w.heap.size, 3, none⟩ (.slice A3 (partL c ((3 : Nat) : Int)).length m3)) = W at *
          have r0 : W.cell? ⟨w.heap.size, 0, none⟩ = some _ := (cell_cells (i := 0) hW0).trans rfl
          have r1 : W.cell? ⟨w.heap.size, 1, none⟩ = some _ := (cell_cells (i := 1) hW0).trans rfl
          have r2 : W.cell? ⟨w.heap.size, 2, none⟩ = some _ := (cell_cells (i := 2) hW0).trans rfl
          have r3 : W.cell? ⟨w.heap.size, 3, none⟩ = some _ := (cell_cells (i := 3) hW0).trans rfl
          refine bodyPost_ret (v := .tuple #[.agg #[vs 0, vs 1, vs 2, vs 3], .bool true]) (by simp [results, Try.results72, go_sem, r0, r1, r2, r3, G0.out, G1.out, G2.out, G3.out]) rfl ⟨vs, by rw [HT.out], fun i hi => by rw [HT.out]; exact ((hOW i hi).sla (by have := partL_len c i; unfold Big; simp; omega)).up (fun _ _ => rfl) (fun b hb => ⟨by have := hb.1; omega, hb.2.1⟩) (fun _ _ _ h => h), hBW⟩
end Go.Proofs.Ytdmhfiofgioihaa

namespace Go.Proofs.Ytdmhfiofgioihaa
open Go.RowKit
set_option maxRecDepth 100000

def RetG (w : World) (e : Ending) (w' : World) : Prop := ∃ v, e = .returned v ∧ OwnP w' w.heap.size 132 2 RuE v [] ∧ Below w.heap.size w w'
set_option maxHeartbeats 2000000 in
theorem grow_any (n : Nat) (w : World) (hn : n ≤ 900000) : Calls Try.prog 125 #[.slice none 0 0, .int .i64 n] w (RetG w) := by
  rcases Nat.eq_zero_or_pos n with rfl | hp
  · go_enter Try.func125, Try.ntmps125
    go_wp2_with fail
    go_ret
    exact ⟨_, rfl, OwnP.nil, Below.refl _ _⟩
  · have ht := Try.underlying98
    obtain ⟨i, hi, hz, hs, hby⟩ := info_parts (show (Try.prog.info? 132).map (fun i => (i.zero, i.size, i.bytes)) = some (some (.agg #[.int .i64 0, .int .i64 0]), 2, 16) by kernel_rfl)
    have hold : (Builtin.firstCells i.size 0 (.slice none 0 0)).run Try.prog w.drew = .ok (#[] : Array Value) w.drew := run_firstCells_none w.drew i.size 0 0 0
    have hrz : ∀ ty, (Builtin.append_ #[98, 3] ty #[.slice none 0 0, .int .i64 (n : Int)]).run Try.prog w = .ok (.slice (some ⟨w.heap.size, 0, none⟩) n (grownCap w n 0 132)) (w.drew.alloc (.cells (#[] ++ Builtin.zeroCells #[.int .i64 0, .int .i64 0] n ++ Builtin.zeroCells #[.int .i64 0, .int .i64 0] (grownCap w n 0 132 - n)) 132)) := fun ty => by
      have h := Lib.run_append_grow_zeros w 98 3 ty 132 i (.agg #[.int .i64 0, .int .i64 0]) .i64 .i64 ht Try.underlying3 hi hz none 0 0 [] hold n hp (by omega) (by omega) (by omega) (by rw [hby]; omega) (by rw [hby, Nat.zero_add]; exact growslice_fits hp (by omega))
      simpa [Value.cells] using h
    have hge := grownCap_ge w n 0 132
    have hle := grownCap_le_maxLen w n 0 132 (by unfold maxLen; omega)
    generalize grownCap w n 0 132 = G at *
    have hG63 : G ≤ 9223372036854775807 := by unfold maxLen at hle; omega
    have HLE := hid hle
    clear hle hold ht hi hz hs hby
    go_enter Try.func125, Try.ntmps125
    go_wp2_with (at_builtin; refine Lib.wpList_append_run _ rfl _ _ _ _ rfl _ _ rfl rfl _ _ (hrz _) ?_)
    all_goals
      go_ret
      refine ⟨_, rfl, ⟨[], ⟨rfl, fun j x h => by simp at h⟩, by simp, .inr ⟨w.heap.size, G, _, rfl, Nat.le_refl _, heap_alloc_new _ _, Nat.zero_le _, HLE.out, ?_, by simp⟩⟩, ((Below.refl w.heap.size w).drew).alloc (Nat.le_refl _) _⟩
      simp [size_zeroCells]
      omega

/-- The first k of two lists, one behind the other. -/
def catK {α : Type} (a b : List α) : Nat → List α | 0 => [] | 1 => a | _ + 2 => a ++ b
set_option maxHeartbeats 4000000 in
theorem concat_any (a b : List (Int × Int)) (va vb : Value) (B : Nat) (w : World) (h0 : w.cell? ⟨B, 0, none⟩ = some va) (h1 : w.cell? ⟨B, 1, none⟩ = some vb) (hB : B < w.heap.size) (ha : SlP w w.heap.size 2 RuE va a) (hb : SlP w w.heap.size 2 RuE vb b) (hN : a.length ≤ 300000) (hN' : b.length ≤ 300000) :
    Calls Try.prog 108 #[.slice (some ⟨B, 0, none⟩) 2 2] w (RetO w 132 2 (fun _ => RuE) (a ++ b)) := by
  have HA := hid ha
  have HB := hid hb
  obtain ⟨A1, c1, rfl, _⟩ := ha
  obtain ⟨A2, c2, rfl, _⟩ := hb
  have hla : ((catK a b 2).length : Int) = a.length + b.length := by simp [catK]
  go_enter Try.func108, Try.ntmps108
  go_wp2_with fail
  go_loop [3, 11] (fun s i => ∃ k : Nat, k ≤ 2 ∧ i = .int .i64 k ∧ s = .int .i64 ((catK a b k).length : Nat)) (fun _ i => 2 - (intOf i).toNat)
  case atStart => exact ⟨0, by omega, rfl, rfl⟩
  case round =>
    obtain ⟨k, hk, rfl, rfl⟩ := hrel
    match k, hk with
    | 0, _ =>
      clear hla
      simp only [catK, List.length_nil]
      go_wp2_with fail
      go_round
      case rel => exact ⟨1, by omega, rfl, by simp⟩
      case measure => simp [intOf]
    | 1, _ =>
      clear hla
      simp only [catK]
      go_wp2_with fail
      go_round
      case rel => exact ⟨2, by omega, rfl, by simp⟩
      case measure => simp [intOf]
    | 2, _ =>
      obtain ⟨m, hm⟩ : ∃ m : Nat, m = (catK a b 2).length := ⟨_, rfl⟩
      rw [← hm] at hla ⊢
      have hm2 : m ≤ 600000 := by omega
      clear hla hm
      go_wp2_with fail
      refine (grow_any m w (by omega)).mono ?_
      rintro e w1 ⟨v1, rfl, ho1, hb1⟩
      have hs1 := hb1.size
      go_wp2_with fail
      go_loopw [6, 27] (fun v i wr => ∃ k : Nat, k ≤ 2 ∧ i = .int .i64 k ∧ OwnP wr w.heap.size 132 2 RuE v (catK a b k) ∧ Below w.heap.size w wr) (fun _ i _ => 2 - (intOf i).toNat)
      case atStart => exact ⟨0, by omega, rfl, ho1, hb1⟩
      case round =>
        obtain ⟨k, hk, rfl, hown, hbr⟩ := hrel
        have hsz := hbr.size
        have e0 : wr.cell? ⟨B, 0, none⟩ = some (.slice A1 a.length c1) := (hbr.cell (p := ⟨B, 0, none⟩) hB).trans h0
        have e1 : wr.cell? ⟨B, 1, none⟩ = some (.slice A2 b.length c2) := (hbr.cell (p := ⟨B, 1, none⟩) hB).trans h1
        have HSA := hid (HA.out.imp hbr hsz fun _ _ _ h => h)
        have HSB := hid (HB.out.imp hbr hsz fun _ _ _ h => h)
        match k, hk with
        | 0, _ =>
          have HL : Hid ((catK a b 0).length + a.length ≤ Few) := by unfold Hid Few; simp [catK]; omega
          go_wp2_with (at_builtin; refine wpList_few rfl (.tmp 31) (.tmp 32) _ rfl eiRun (by decide) (by decide) (fun _ _ h => h.one) rfl hown rfl HSA.out HL.out hsz ?_; intro v2 w2 hown2 hb2 _)
          go_roundw
          case rel => exact ⟨1, by omega, rfl, by simpa [catK] using hown2, hbr.trans hb2⟩
          case measure => simp [intOf]
        | 1, _ =>
          have HL : Hid ((catK a b 1).length + b.length ≤ Few) := by unfold Hid Few; simp [catK]; omega
          go_wp2_with (at_builtin; refine wpList_few rfl (.tmp 31) (.tmp 32) _ rfl eiRun (by decide) (by decide) (fun _ _ h => h.one) rfl hown rfl HSB.out HL.out hsz ?_; intro v2 w2 hown2 hb2 _)
          go_roundw
          case rel => exact ⟨2, by omega, rfl, by simpa [catK] using hown2, hbr.trans hb2⟩
          case measure => simp [intOf]
        | 2, _ =>
          go_wp2_with fail
          go_ret
          exact ⟨_, rfl, hown, hbr⟩
end Go.Proofs.Ytdmhfiofgioihaa

namespace Go.Proofs.Ytdmhfiofgioihaa
open Go.RowKit
set_option maxRecDepth 100000

def inn (how : Int) (p q : Bool) : Bool := if how = 2 then p && !q else if how = 1 then p && q else p || q
def byOut (out : List (Int × Int)) (at' to' : Int) : List (Int × Int) :=
  match out.getLast? with
  | some r => if r.2 = at' - 1 then out.set (out.length - 1) (r.1, to' - 1) else out ++ [(at', to' - 1)]
  | none => [(at', to' - 1)]
def byGo (a b : List (Int × Int)) (how : Int) (ps : List Int) : Nat → Int × Bool → List (Int × Int) → List (Int × Int)
  | 0, _, out => out
  | n + 1, s, out => if s.2 then byGo a b how ps n (nextL ps s.1) (if inn how (hasL a s.1) (hasL b s.1) then byOut out s.1 (nextL ps s.1).1 else out) else out
def byL (a b : List (Int × Int)) (how : Int) : List (Int × Int) := byGo a b how (endsL a ++ endsL b) ((endsL a ++ endsL b).length + 1) (nextL (endsL a ++ endsL b) 0) []
def cnt (ps : List Int) (x : Int) : Nat := (ps.filter fun y => decide (x ≤ y)).length

theorem byGo_false (a b : List (Int × Int)) (how : Int) (ps : List Int) (n : Nat) (x : Int) (out : List (Int × Int)) : byGo a b how ps n (x, false) out = out := by
  cases n <;> simp [byGo]

theorem nextL_mem : ∀ (l : List Int) (above : Int) (s : Int × Bool), (s.2 = true → above < s.1) → (l.foldl (nextS above) s = s ∨ (l.foldl (nextS above) s).1 ∈ l) ∧ ((l.foldl (nextS above) s).2 = true → above < (l.foldl (nextS above) s).1)
  | [], _, s, hs => ⟨.inl rfl, hs⟩
  | x :: l, above, s, hs => by
    simp only [List.foldl_cons]
    by_cases hc : above < x ∧ (s.2 = false ∨ x < s.1)
    · have e : nextS above s x = (x, true) := by simp [nextS, hc]
      rw [e]
      obtain ⟨h1, h2⟩ := nextL_mem l above (x, true) (fun _ => hc.1)
      refine ⟨.inr ?_, h2⟩
      rcases h1 with h1 | h1
      · rw [h1]; simp
      · exact List.mem_cons_of_mem _ h1
    · have e : nextS above s x = s := by simp only [nextS, if_neg hc]
      rw [e]
      obtain ⟨h1, h2⟩ := nextL_mem l above s hs
      refine ⟨?_, h2⟩
      rcases h1 with h1 | h1
      · exact .inl h1
      · exact .inr (List.mem_cons_of_mem _ h1)
theorem nextL_spec {l : List Int} {above : Int} (h : (nextL l above).2 = true) : (nextL l above).1 ∈ l ∧ above < (nextL l above).1 := by
  obtain ⟨h1, h2⟩ := nextL_mem l above (0, false) (fun h => by cases h)
  refine ⟨?_, h2 h⟩
  rcases h1 with h1 | h1
  · unfold nextL at h; rw [h1] at h; cases h
  · exact h1
theorem nextL_bd {l : List Int} {above lo hi : Int} (hl : ∀ x ∈ l, lo ≤ x ∧ x ≤ hi) (h0 : lo ≤ 0) (h1 : 0 ≤ hi) : lo ≤ (nextL l above).1 ∧ (nextL l above).1 ≤ hi := by
  obtain ⟨h2, _⟩ := nextL_mem l above (0, false) (fun h => by cases h)
  rcases h2 with h2 | h2
  · unfold nextL; rw [h2]; exact ⟨h0, h1⟩
  · exact hl _ h2
theorem cnt_lt {l : List Int} {x y : Int} (hx : x ∈ l) (h : x < y) : cnt l y < cnt l x := by
  unfold cnt
  induction l with
  | nil => cases hx
  | cons z l ih =>
    have hle : (l.filter fun u => decide (y ≤ u)).length ≤ (l.filter fun u => decide (x ≤ u)).length := by
      clear ih hx
      induction l with
      | nil => simp
      | cons u l ih =>
        simp only [List.filter_cons]
        by_cases h1 : y ≤ u
        · have : x ≤ u := by omega
          simp [h1, this]; exact ih
        · by_cases h2 : x ≤ u
          · simp [h1, h2]; omega
          · simp [h1, h2]; exact ih
    simp only [List.filter_cons]
    rcases List.mem_cons.1 hx with rfl | hx
    · have : ¬ y ≤ x := by omega
      simp [this]; omega
    · have := ih hx
      by_cases h1 : y ≤ z
      · have : x ≤ z := by omega
        simp [h1, this]; omega
      · by_cases h2 : x ≤ z
        · simp [h1, h2]; omega
        · simp [h1, h2]; omega
theorem cnt_pos {l : List Int} {x : Int} (hx : x ∈ l) : 0 < cnt l x := by
  unfold cnt; exact List.length_pos_of_mem (List.mem_filter.2 ⟨hx, by simp⟩)
theorem cnt_le (l : List Int) (x : Int) : cnt l x ≤ l.length := List.length_filter_le _ _
theorem endsL_bd {l : List (Int × Int)} (h : RunsOk l) : ∀ x ∈ endsL l, 0 ≤ x ∧ x ≤ 1099511627778 := fun x hx => by
  unfold endsL at hx
  obtain ⟨r, hr, hx⟩ := List.mem_flatMap.1 hx
  have := h r hr
  simp at hx
  omega
theorem endsL_len (l : List (Int × Int)) : (endsL l).length = 2 * l.length := by
  unfold endsL; rw [List.length_flatMap]; simp [List.map_const']; omega

set_option maxHeartbeats 4000000 in
theorem r06by_any (a b : List (Int × Int)) (how : Int) (va vb : Value) (w : World) (ha : SlP w w.heap.size 2 RuE va a) (hb : SlP w w.heap.size 2 RuE vb b) (hN : a.length ≤ 100000) (hN' : b.length ≤ 100000) (hR : RunsOk a) (hR' : RunsOk b) (hh : how = 0 ∨ how = 1 ∨ how = 2) :
    Calls Try.prog 78 #[va, vb, .int .i64 how] w (RetO w 110 2 (fun _ => RuE) (byL a b how)) := by
  have hps : ∀ x ∈ endsL a ++ endsL b, 0 ≤ x ∧ x ≤ 1099511627778 := fun x hx => by
    rcases List.mem_append.1 hx with h | h
    · exact endsL_bd hR x h
    · exact endsL_bd hR' x h
  have hla := endsL_len a
  have hlb := endsL_len b
  have HLE : Hid ((endsL a).length + (endsL b).length ≤ Few) := by unfold Hid Few; omega
  have hpl : Hid ((endsL a ++ endsL b).length ≤ 400000) := by unfold Hid; simp; omega
  clear hla hlb
  go_enter Try.func78, Try.ntmps78
  go_wp2_with fail
  refine (r06ends_any a va _ ha (by omega) hR).mono ?_
  rintro e w1 ⟨v1, rfl, ho1, hb1⟩
  have hs1 := hb1.size
  go_wp2_with fail
  refine (r06ends_any b vb _ (hb.imp hb1 hs1 fun _ _ _ h => h) (by omega) hR').mono ?_
  rintro e w2 ⟨v2, rfl, ho2, hb2⟩
  have hs2 := hb2.size
  go_wp2_with (at_builtin; refine wpList_few rfl (.tmp 17) (.tmp 19) _ rfl eiInt64 (by decide) (by decide) (fun _ _ h => h.one) rfl (ho1.grow hb2) rfl (ho2.sl (by have := HLE.out; unfold Few at this; unfold Big; omega)) HLE.out (by omega) ?_; intro vp w3 ho3 hb3 _)
  have hB3 : Below w.heap.size w w3 := (hb1.trans (hb2.mono hs1)).trans hb3
  have hs3 := hb3.size
  have hby : byL a b how = byGo a b how (endsL a ++ endsL b) ((endsL a ++ endsL b).length + 1) (nextL (endsL a ++ endsL b) 0) [] := rfl
  generalize hpsd : endsL a ++ endsL b = ps at *
  have hsp := ho3.sl (by have := hpl.out; unfold Big; omega)
  have HY := hid hby
  have ha3 := ha.imp hB3 (by omega : w.heap.size ≤ w3.heap.size) fun _ _ _ h => h
  have hb3' := hb.imp hB3 (by omega : w.heap.size ≤ w3.heap.size) fun _ _ _ h => h
  have hbd : ∀ x, 0 ≤ (nextL ps x).1 ∧ (nextL ps x).1 ≤ 1099511627778 := fun x => nextL_bd hps (by omega) (by omega)
  have HM : ∀ x, x ∈ ps → ∀ n, (cnt ps x ≤ n + 1) → (nextL ps x).2 = true → (nextL ps x).1 ∈ ps ∧ cnt ps (nextL ps x).1 ≤ n := fun x hx n hc h => ⟨(nextL_spec h).1, by have := cnt_lt hx (nextL_spec h).2; omega⟩
  have HM0 : (nextL ps 0).2 = true → (nextL ps 0).1 ∈ ps ∧ cnt ps (nextL ps 0).1 ≤ ps.length + 1 := fun h => ⟨(nextL_spec h).1, by have := cnt_le ps (nextL ps 0).1; omega⟩
  clear hby hps ho1 ho2 hpsd HLE ho3
  have HBD := hid hbd
  have HMH := hid HM
  have HM0H := hid HM0
  clear hbd HM HM0
  refine (r06next_any ps 0 vp w3 _ hsp).mono ?_
  rintro e wx ⟨rfl, rfl⟩
  go_wp2_with fail
  go_loopg [8, 9, 10] (ps.length + 1) (fun n vo vx vk wr => ∃ (outL : List (Int × Int)) (x : Int) (k : Bool), OwnP wr w3.heap.size 110 2 RuE vo outL ∧ vx = .int .i64 x ∧ vk = .bool k ∧ 0 ≤ x ∧ x ≤ 1099511627778 ∧ Below w3.heap.size w3 wr ∧
    Hid (byGo a b how ps n (x, k) outL = byL a b how) ∧ Hid (k = true → x ∈ ps ∧ cnt ps x ≤ n) ∧ Hid (outL.length + n ≤ ps.length + 1))
  case atStart => exact ⟨[], _, _, OwnP.nil, rfl, rfl, (HBD.out 0).1, (HBD.out 0).2, Below.refl _ _, HY.out.symm, HM0H.out, by unfold Hid; simp⟩
  case round =>
    obtain ⟨outL, x, k, hown, rfl, rfl, hx0, hx1, hbr, hrel, hmem, hlen⟩ := hrel
    have hsz := hbr.size
    cases k
    · have hr := hrel.out
      rw [byGo_false] at hr
      have HR := hid hr
      clear hr
      go_wp2_with fail
      go_ret
      exact ⟨_, rfl, by rw [← HR.out]; exact hown.mono (by omega), hB3.trans (hbr.mono (by omega))⟩
    · obtain ⟨n, rfl⟩ : ∃ n, gk = n + 1 := ⟨gk - 1, by have := hmem.out rfl; have := cnt_pos this.1; omega⟩
      have HMM := hid (hmem.out rfl)
      have HI : Hid (byGo a b how ps n (nextL ps x) (if inn how (hasL a x) (hasL b x) then byOut outL x (nextL ps x).1 else outL) = byL a b how) := hrel.out
      have har := ha3.imp hbr (Nat.le_refl _) fun _ _ _ h => h
      have hbr' := hb3'.imp hbr (Nat.le_refl _) fun _ _ _ h => h
      have hpr := hsp.imp hbr (Nat.le_refl _) fun _ _ _ h => h
      have hn0 := (HBD.out x).1
      have hn1 := (HBD.out x).2
      go_wp2_with fail
      refine (r06next_any ps x vp _ _ hpr).mono ?_
      rintro e wx ⟨rfl, rfl⟩
      go_wp2_with fail
      refine (r06has_any a x va _ _ har).mono ?_
      rintro e wx ⟨rfl, rfl⟩
      go_wp2_with fail
      refine (r06has_any b x vb _ _ hbr').mono ?_
      rintro e wx ⟨rfl, rfl⟩
      go_upto_region 7 with (fail)
      have JN : Hid (RuE (x, (nextL ps x).1 - 1) [.int .i64 x, .int .i64 ((nextL ps x).1 - 1)]) := ⟨rfl, ⟨by omega, by omega⟩, ⟨by show _ ≤ (nextL ps x).1 - 1; omega, by show (nextL ps x).1 - 1 ≤ _; omega⟩⟩
      have HNX : Hid ((nextL ps x).2 = true → (nextL ps x).1 ∈ ps ∧ cnt ps (nextL ps x).1 ≤ n) := fun h => HMH.out x HMM.out.1 n HMM.out.2 h
      have HL : Hid (outL.length + [(x, (nextL ps x).1 - 1)].length ≤ Few) := by have := hlen.out; have := hpl.out; unfold Hid Few; simp; omega
      have hob : outL.length ≤ 400001 := by have := hlen.out; have := hpl.out; omega
      generalize hasL a x = p at *
      generalize hasL b x = q at *
      cases p <;> cases q <;> rcases hh with rfl | rfl | rfl
      · go_wp2_with fail
        go_roundg n
        case measure => omega
        case rel => exact ⟨outL, _, _, hown, rfl, rfl, HBD.out x |>.1, HBD.out x |>.2, hbr, by have := HI.out; rw [if_neg (by decide)] at this; exact this, HNX.out, by have := hlen.out; unfold Hid; omega⟩
      · go_wp2_with fail
        go_roundg n
        case measure => omega
        case rel => exact ⟨outL, _, _, hown, rfl, rfl, HBD.out x |>.1, HBD.out x |>.2, hbr, by have := HI.out; rw [if_neg (by decide)] at this; exact this, HNX.out, by have := hlen.out; unfold Hid; omega⟩
      · go_wp2_with fail
        go_roundg n
        case measure => omega
        case rel => exact ⟨outL, _, _, hown, rfl, rfl, HBD.out x |>.1, HBD.out x |>.2, hbr, by have := HI.out; rw [if_neg (by decide)] at this; exact this, HNX.out, by have := hlen.out; unfold Hid; omega⟩
      · rcases Nat.eq_zero_or_pos outL.length with hz | hz
        · obtain rfl : outL = [] := List.eq_nil_of_length_eq_zero hz
          have HO : Hid (byOut [] x (nextL ps x).1 = [] ++ [(x, (nextL ps x).1 - 1)]) := rfl
          obtain ⟨A8, c8, rfl⟩ := hown.shape
          clear hz
          simp only [List.length_nil] at hown HL ⊢
          go_wp2_with (at_builtin; with_reducible refine wpList_few rfl (.tmp 83) (.tmp 88) _ rfl eiPair (by decide) (by decide) (fun _ _ h => h.one) rfl (hown.alloc _) rfl (SlP.one (x := (x, (nextL ps x).1 - 1)) JN.out rfl _ rfl) HL.out (by rw [World.size_alloc]; omega) ?_; intro v1 w1 hown1 hb1 _)
          go_roundg n
          case measure => omega
          case rel => exact ⟨[] ++ [(x, (nextL ps x).1 - 1)], _, _, hown1, rfl, rfl, HBD.out x |>.1, HBD.out x |>.2, (hbr.alloc hsz _).trans hb1, by have := HI.out; rw [if_pos (by decide), HO.out] at this; exact this, HNX.out, by have := hlen.out; unfold Hid; simp at this ⊢; omega⟩
        obtain ⟨r, hr⟩ : ∃ r, outL[outL.length - 1]? = some r := ⟨_, List.getElem?_eq_getElem (by omega)⟩
        obtain ⟨g, cap, rfl, hg1, hg2, c0, c1, hfz, hset⟩ := hown.setRun hr (z := (nextL ps x).1 - 1) ⟨by omega, by omega⟩
        have hfz1 := hfz ((outL.length - 1) * 2 + 1)
        have HBO : Hid (byOut outL x (nextL ps x).1 = if r.2 = x - 1 then outL.set (outL.length - 1) (r.1, (nextL ps x).1 - 1) else outL ++ [(x, (nextL ps x).1 - 1)]) := by
          unfold Hid byOut; rw [List.getLast?_eq_getElem?, hr]
        clear hr hfz
        by_cases hq : r.2 = x - 1
        · have HO : Hid (byOut outL x (nextL ps x).1 = outL.set (outL.length - 1) (r.1, (nextL ps x).1 - 1)) := by unfold Hid; rw [HBO.out, if_pos hq]
          have hq' : (r.2 == x - 1) = true := by simpa using hq
          have HQ := hid hq
          have HS := hid hset
          clear hq hset
          go_wp2_with fail
          go_roundg n
          case measure => omega
          case rel => exact ⟨outL.set (outL.length - 1) (r.1, (nextL ps x).1 - 1), _, _, HS.out, rfl, rfl, HBD.out x |>.1, HBD.out x |>.2, hbr.setCell (by exact hg1) _, by have := HI.out; rw [if_pos (by decide), HO.out] at this; exact this, HNX.out, by have := hlen.out; unfold Hid; rw [List.length_set]; omega⟩
        · have HO : Hid (byOut outL x (nextL ps x).1 = outL ++ [(x, (nextL ps x).1 - 1)]) := by unfold Hid; rw [HBO.out, if_neg hq]
          have hq' : (r.2 == x - 1) = false := by simpa using hq
          have HQ := hid hq
          clear hq hset
          go_wp2_with (at_builtin; with_reducible refine wpList_few rfl (.tmp 83) (.tmp 88) _ rfl eiPair (by decide) (by decide) (fun _ _ h => h.one) rfl (hown.alloc _) rfl (SlP.one (x := (x, (nextL ps x).1 - 1)) JN.out rfl _ rfl) HL.out (by rw [World.size_alloc]; omega) ?_; intro v1 w1 hown1 hb1 _)
          go_roundg n
          case measure => omega
          case rel => exact ⟨outL ++ [(x, (nextL ps x).1 - 1)], _, _, hown1, rfl, rfl, HBD.out x |>.1, HBD.out x |>.2, (hbr.alloc hsz _).trans hb1, by have := HI.out; rw [if_pos (by decide), HO.out] at this; exact this, HNX.out, by have := hlen.out; unfold Hid; simp; omega⟩
      · go_wp2_with fail
        go_roundg n
        case measure => omega
        case rel => exact ⟨outL, _, _, hown, rfl, rfl, HBD.out x |>.1, HBD.out x |>.2, hbr, by have := HI.out; rw [if_neg (by decide)] at this; exact this, HNX.out, by have := hlen.out; unfold Hid; omega⟩
      · go_wp2_with fail
        go_roundg n
        case measure => omega
        case rel => exact ⟨outL, _, _, hown, rfl, rfl, HBD.out x |>.1, HBD.out x |>.2, hbr, by have := HI.out; rw [if_neg (by decide)] at this; exact this, HNX.out, by have := hlen.out; unfold Hid; omega⟩
      · rcases Nat.eq_zero_or_pos outL.length with hz | hz
        · obtain rfl : outL = [] := List.eq_nil_of_length_eq_zero hz
          have HO : Hid (byOut [] x (nextL ps x).1 = [] ++ [(x, (nextL ps x).1 - 1)]) := rfl
          obtain ⟨A8, c8, rfl⟩ := hown.shape
          clear hz
          simp only [List.length_nil] at hown HL ⊢
          go_wp2_with (at_builtin; with_reducible refine wpList_few rfl (.tmp 83) (.tmp 88) _ rfl eiPair (by decide) (by decide) (fun _ _ h => h.one) rfl (hown.alloc _) rfl (SlP.one (x := (x, (nextL ps x).1 - 1)) JN.out rfl _ rfl) HL.out (by rw [World.size_alloc]; omega) ?_; intro v1 w1 hown1 hb1 _)
          go_roundg n
          case measure => omega
          case rel => exact ⟨[] ++ [(x, (nextL ps x).1 - 1)], _, _, hown1, rfl, rfl, HBD.out x |>.1, HBD.out x |>.2, (hbr.alloc hsz _).trans hb1, by have := HI.out; rw [if_pos (by decide), HO.out] at this; exact this, HNX.out, by have := hlen.out; unfold Hid; simp at this ⊢; omega⟩
        obtain ⟨r, hr⟩ : ∃ r, outL[outL.length - 1]? = some r := ⟨_, List.getElem?_eq_getElem (by omega)⟩
        obtain ⟨g, cap, rfl, hg1, hg2, c0, c1, hfz, hset⟩ := hown.setRun hr (z := (nextL ps x).1 - 1) ⟨by omega, by omega⟩
        have hfz1 := hfz ((outL.length - 1) * 2 + 1)
        have HBO : Hid (byOut outL x (nextL ps x).1 = if r.2 = x - 1 then outL.set (outL.length - 1) (r.1, (nextL ps x).1 - 1) else outL ++ [(x, (nextL ps x).1 - 1)]) := by
          unfold Hid byOut; rw [List.getLast?_eq_getElem?, hr]
        clear hr hfz
        by_cases hq : r.2 = x - 1
        · have HO : Hid (byOut outL x (nextL ps x).1 = outL.set (outL.length - 1) (r.1, (nextL ps x).1 - 1)) := by unfold Hid; rw [HBO.out, if_pos hq]
          have hq' : (r.2 == x - 1) = true := by simpa using hq
          have HQ := hid hq
          have HS := hid hset
          clear hq hset
          go_wp2_with fail
          go_roundg n
          case measure => omega
          case rel => exact ⟨outL.set (outL.length - 1) (r.1, (nextL ps x).1 - 1), _, _, HS.out, rfl, rfl, HBD.out x |>.1, HBD.out x |>.2, hbr.setCell (by exact hg1) _, by have := HI.out; rw [if_pos (by decide), HO.out] at this; exact this, HNX.out, by have := hlen.out; unfold Hid; rw [List.length_set]; omega⟩
        · have HO : Hid (byOut outL x (nextL ps x).1 = outL ++ [(x, (nextL ps x).1 - 1)]) := by unfold Hid; rw [HBO.out, if_neg hq]
          have hq' : (r.2 == x - 1) = false := by simpa using hq
          have HQ := hid hq
          clear hq hset
          go_wp2_with (at_builtin; with_reducible refine wpList_few rfl (.tmp 83) (.tmp 88) _ rfl eiPair (by decide) (by decide) (fun _ _ h => h.one) rfl (hown.alloc _) rfl (SlP.one (x := (x, (nextL ps x).1 - 1)) JN.out rfl _ rfl) HL.out (by rw [World.size_alloc]; omega) ?_; intro v1 w1 hown1 hb1 _)
          go_roundg n
          case measure => omega
          case rel => exact ⟨outL ++ [(x, (nextL ps x).1 - 1)], _, _, hown1, rfl, rfl, HBD.out x |>.1, HBD.out x |>.2, (hbr.alloc hsz _).trans hb1, by have := HI.out; rw [if_pos (by decide), HO.out] at this; exact this, HNX.out, by have := hlen.out; unfold Hid; simp; omega⟩
      · go_wp2_with fail
        go_roundg n
        case measure => omega
        case rel => exact ⟨outL, _, _, hown, rfl, rfl, HBD.out x |>.1, HBD.out x |>.2, hbr, by have := HI.out; rw [if_neg (by decide)] at this; exact this, HNX.out, by have := hlen.out; unfold Hid; omega⟩
      · rcases Nat.eq_zero_or_pos outL.length with hz | hz
        · obtain rfl : outL = [] := List.eq_nil_of_length_eq_zero hz
          have HO : Hid (byOut [] x (nextL ps x).1 = [] ++ [(x, (nextL ps x).1 - 1)]) := rfl
          obtain ⟨A8, c8, rfl⟩ := hown.shape
          clear hz
          simp only [List.length_nil] at hown HL ⊢
          go_wp2_with (at_builtin; with_reducible refine wpList_few rfl (.tmp 83) (.tmp 88) _ rfl eiPair (by decide) (by decide) (fun _ _ h => h.one) rfl (hown.alloc _) rfl (SlP.one (x := (x, (nextL ps x).1 - 1)) JN.out rfl _ rfl) HL.out (by rw [World.size_alloc]; omega) ?_; intro v1 w1 hown1 hb1 _)
          go_roundg n
          case measure => omega
          case rel => exact ⟨[] ++ [(x, (nextL ps x).1 - 1)], _, _, hown1, rfl, rfl, HBD.out x |>.1, HBD.out x |>.2, (hbr.alloc hsz _).trans hb1, by have := HI.out; rw [if_pos (by decide), HO.out] at this; exact this, HNX.out, by have := hlen.out; unfold Hid; simp at this ⊢; omega⟩
        obtain ⟨r, hr⟩ : ∃ r, outL[outL.length - 1]? = some r := ⟨_, List.getElem?_eq_getElem (by omega)⟩
        obtain ⟨g, cap, rfl, hg1, hg2, c0, c1, hfz, hset⟩ := hown.setRun hr (z := (nextL ps x).1 - 1) ⟨by omega, by omega⟩
        have hfz1 := hfz ((outL.length - 1) * 2 + 1)
        have HBO : Hid (byOut outL x (nextL ps x).1 = if r.2 = x - 1 then outL.set (outL.length - 1) (r.1, (nextL ps x).1 - 1) else outL ++ [(x, (nextL ps x).1 - 1)]) := by
          unfold Hid byOut; rw [List.getLast?_eq_getElem?, hr]
        clear hr hfz
        by_cases hq : r.2 = x - 1
        · have HO : Hid (byOut outL x (nextL ps x).1 = outL.set (outL.length - 1) (r.1, (nextL ps x).1 - 1)) := by unfold Hid; rw [HBO.out, if_pos hq]
          have hq' : (r.2 == x - 1) = true := by simpa using hq
          have HQ := hid hq
          have HS := hid hset
          clear hq hset
          go_wp2_with fail
          go_roundg n
          case measure => omega
          case rel => exact ⟨outL.set (outL.length - 1) (r.1, (nextL ps x).1 - 1), _, _, HS.out, rfl, rfl, HBD.out x |>.1, HBD.out x |>.2, hbr.setCell (by exact hg1) _, by have := HI.out; rw [if_pos (by decide), HO.out] at this; exact this, HNX.out, by have := hlen.out; unfold Hid; rw [List.length_set]; omega⟩
        · have HO : Hid (byOut outL x (nextL ps x).1 = outL ++ [(x, (nextL ps x).1 - 1)]) := by unfold Hid; rw [HBO.out, if_neg hq]
          have hq' : (r.2 == x - 1) = false := by simpa using hq
          have HQ := hid hq
          clear hq hset
          go_wp2_with (at_builtin; with_reducible refine wpList_few rfl (.tmp 83) (.tmp 88) _ rfl eiPair (by decide) (by decide) (fun _ _ h => h.one) rfl (hown.alloc _) rfl (SlP.one (x := (x, (nextL ps x).1 - 1)) JN.out rfl _ rfl) HL.out (by rw [World.size_alloc]; omega) ?_; intro v1 w1 hown1 hb1 _)
          go_roundg n
          case measure => omega
          case rel => exact ⟨outL ++ [(x, (nextL ps x).1 - 1)], _, _, hown1, rfl, rfl, HBD.out x |>.1, HBD.out x |>.2, (hbr.alloc hsz _).trans hb1, by have := HI.out; rw [if_pos (by decide), HO.out] at this; exact this, HNX.out, by have := hlen.out; unfold Hid; simp; omega⟩
      · rcases Nat.eq_zero_or_pos outL.length with hz | hz
        · obtain rfl : outL = [] := List.eq_nil_of_length_eq_zero hz
          have HO : Hid (byOut [] x (nextL ps x).1 = [] ++ [(x, (nextL ps x).1 - 1)]) := rfl
          obtain ⟨A8, c8, rfl⟩ := hown.shape
          clear hz
          simp only [List.length_nil] at hown HL ⊢
          go_wp2_with (at_builtin; with_reducible refine wpList_few rfl (.tmp 83) (.tmp 88) _ rfl eiPair (by decide) (by decide) (fun _ _ h => h.one) rfl (hown.alloc _) rfl (SlP.one (x := (x, (nextL ps x).1 - 1)) JN.out rfl _ rfl) HL.out (by rw [World.size_alloc]; omega) ?_; intro v1 w1 hown1 hb1 _)
          go_roundg n
          case measure => omega
          case rel => exact ⟨[] ++ [(x, (nextL ps x).1 - 1)], _, _, hown1, rfl, rfl, HBD.out x |>.1, HBD.out x |>.2, (hbr.alloc hsz _).trans hb1, by have := HI.out; rw [if_pos (by decide), HO.out] at this; exact this, HNX.out, by have := hlen.out; unfold Hid; simp at this ⊢; omega⟩
        obtain ⟨r, hr⟩ : ∃ r, outL[outL.length - 1]? = some r := ⟨_, List.getElem?_eq_getElem (by omega)⟩
        obtain ⟨g, cap, rfl, hg1, hg2, c0, c1, hfz, hset⟩ := hown.setRun hr (z := (nextL ps x).1 - 1) ⟨by omega, by omega⟩
        have hfz1 := hfz ((outL.length - 1) * 2 + 1)
        have HBO : Hid (byOut outL x (nextL ps x).1 = if r.2 = x - 1 then outL.set (outL.length - 1) (r.1, (nextL ps x).1 - 1) else outL ++ [(x, (nextL ps x).1 - 1)]) := by
          unfold Hid byOut; rw [List.getLast?_eq_getElem?, hr]
        clear hr hfz
        by_cases hq : r.2 = x - 1
        · have HO : Hid (byOut outL x (nextL ps x).1 = outL.set (outL.length - 1) (r.1, (nextL ps x).1 - 1)) := by unfold Hid; rw [HBO.out, if_pos hq]
          have hq' : (r.2 == x - 1) = true := by simpa using hq
          have HQ := hid hq
          have HS := hid hset
          clear hq hset
          go_wp2_with fail
          go_roundg n
          case measure => omega
          case rel => exact ⟨outL.set (outL.length - 1) (r.1, (nextL ps x).1 - 1), _, _, HS.out, rfl, rfl, HBD.out x |>.1, HBD.out x |>.2, hbr.setCell (by exact hg1) _, by have := HI.out; rw [if_pos (by decide), HO.out] at this; exact this, HNX.out, by have := hlen.out; unfold Hid; rw [List.length_set]; omega⟩
        · have HO : Hid (byOut outL x (nextL ps x).1 = outL ++ [(x, (nextL ps x).1 - 1)]) := by unfold Hid; rw [HBO.out, if_neg hq]
          have hq' : (r.2 == x - 1) = false := by simpa using hq
          have HQ := hid hq
          clear hq hset
          go_wp2_with (at_builtin; with_reducible refine wpList_few rfl (.tmp 83) (.tmp 88) _ rfl eiPair (by decide) (by decide) (fun _ _ h => h.one) rfl (hown.alloc _) rfl (SlP.one (x := (x, (nextL ps x).1 - 1)) JN.out rfl _ rfl) HL.out (by rw [World.size_alloc]; omega) ?_; intro v1 w1 hown1 hb1 _)
          go_roundg n
          case measure => omega
          case rel => exact ⟨outL ++ [(x, (nextL ps x).1 - 1)], _, _, hown1, rfl, rfl, HBD.out x |>.1, HBD.out x |>.2, (hbr.alloc hsz _).trans hb1, by have := HI.out; rw [if_pos (by decide), HO.out] at this; exact this, HNX.out, by have := hlen.out; unfold Hid; simp; omega⟩
      · rcases Nat.eq_zero_or_pos outL.length with hz | hz
        · obtain rfl : outL = [] := List.eq_nil_of_length_eq_zero hz
          have HO : Hid (byOut [] x (nextL ps x).1 = [] ++ [(x, (nextL ps x).1 - 1)]) := rfl
          obtain ⟨A8, c8, rfl⟩ := hown.shape
          clear hz
          simp only [List.length_nil] at hown HL ⊢
          go_wp2_with (at_builtin; with_reducible refine wpList_few rfl (.tmp 83) (.tmp 88) _ rfl eiPair (by decide) (by decide) (fun _ _ h => h.one) rfl (hown.alloc _) rfl (SlP.one (x := (x, (nextL ps x).1 - 1)) JN.out rfl _ rfl) HL.out (by rw [World.size_alloc]; omega) ?_; intro v1 w1 hown1 hb1 _)
          go_roundg n
          case measure => omega
          case rel => exact ⟨[] ++ [(x, (nextL ps x).1 - 1)], _, _, hown1, rfl, rfl, HBD.out x |>.1, HBD.out x |>.2, (hbr.alloc hsz _).trans hb1, by have := HI.out; rw [if_pos (by decide), HO.out] at this; exact this, HNX.out, by have := hlen.out; unfold Hid; simp at this ⊢; omega⟩
        obtain ⟨r, hr⟩ : ∃ r, outL[outL.length - 1]? = some r := ⟨_, List.getElem?_eq_getElem (by omega)⟩
        obtain ⟨g, cap, rfl, hg1, hg2, c0, c1, hfz, hset⟩ := hown.setRun hr (z := (nextL ps x).1 - 1) ⟨by omega, by omega⟩
        have hfz1 := hfz ((outL.length - 1) * 2 + 1)
        have HBO : Hid (byOut outL x (nextL ps x).1 = if r.2 = x - 1 then outL.set (outL.length - 1) (r.1, (nextL ps x).1 - 1) else outL ++ [(x, (nextL ps x).1 - 1)]) := by
          unfold Hid byOut; rw [List.getLast?_eq_getElem?, hr]
        clear hr hfz
        by_cases hq : r.2 = x - 1
        · have HO : Hid (byOut outL x (nextL ps x).1 = outL.set (outL.length - 1) (r.1, (nextL ps x).1 - 1)) := by unfold Hid; rw [HBO.out, if_pos hq]
          have hq' : (r.2 == x - 1) = true := by simpa using hq
          have HQ := hid hq
          have HS := hid hset
          clear hq hset
          go_wp2_with fail
          go_roundg n
          case measure => omega
          case rel => exact ⟨outL.set (outL.length - 1) (r.1, (nextL ps x).1 - 1), _, _, HS.out, rfl, rfl, HBD.out x |>.1, HBD.out x |>.2, hbr.setCell (by exact hg1) _, by have := HI.out; rw [if_pos (by decide), HO.out] at this; exact this, HNX.out, by have := hlen.out; unfold Hid; rw [List.length_set]; omega⟩
        · have HO : Hid (byOut outL x (nextL ps x).1 = outL ++ [(x, (nextL ps x).1 - 1)]) := by unfold Hid; rw [HBO.out, if_neg hq]
          have hq' : (r.2 == x - 1) = false := by simpa using hq
          have HQ := hid hq
          clear hq hset
          go_wp2_with (at_builtin; with_reducible refine wpList_few rfl (.tmp 83) (.tmp 88) _ rfl eiPair (by decide) (by decide) (fun _ _ h => h.one) rfl (hown.alloc _) rfl (SlP.one (x := (x, (nextL ps x).1 - 1)) JN.out rfl _ rfl) HL.out (by rw [World.size_alloc]; omega) ?_; intro v1 w1 hown1 hb1 _)
          go_roundg n
          case measure => omega
          case rel => exact ⟨outL ++ [(x, (nextL ps x).1 - 1)], _, _, hown1, rfl, rfl, HBD.out x |>.1, HBD.out x |>.2, (hbr.alloc hsz _).trans hb1, by have := HI.out; rw [if_pos (by decide), HO.out] at this; exact this, HNX.out, by have := hlen.out; unfold Hid; simp; omega⟩
      · go_wp2_with fail
        go_roundg n
        case measure => omega
        case rel => exact ⟨outL, _, _, hown, rfl, rfl, HBD.out x |>.1, HBD.out x |>.2, hbr, by have := HI.out; rw [if_neg (by decide)] at this; exact this, HNX.out, by have := hlen.out; unfold Hid; omega⟩

end Go.Proofs.Ytdmhfiofgioihaa

namespace Go.Proofs.Ytdmhfiofgioihaa
open Go.RowKit
set_option maxRecDepth 100000

def ofOut (out : List (Int × Int)) (x : Int) : List (Int × Int) :=
  match out.getLast? with
  | some r => if r.2 = x - 1 then out.set (out.length - 1) (r.1, x) else out ++ [(x, x)]
  | none => [(x, x)]
def ofGo (ps : List Int) : Nat → Int × Bool → List (Int × Int) → List (Int × Int)
  | 0, _, out => out
  | n + 1, s, out => if s.2 then ofGo ps n (nextL ps s.1) (ofOut out s.1) else out
def ofL (ps : List Int) : List (Int × Int) := ofGo ps (ps.length + 1) (nextL ps 0) []
theorem ofGo_false (ps : List Int) (n : Nat) (x : Int) (out : List (Int × Int)) : ofGo ps n (x, false) out = out := by
  cases n <;> simp [ofGo]
theorem ofOut_len (out : List (Int × Int)) (x : Int) : (ofOut out x).length ≤ out.length + 1 := by
  unfold ofOut
  cases h : out.getLast? with
  | none => simp
  | some r => dsimp only; split <;> simp
theorem ofGo_len (ps : List Int) : ∀ (n : Nat) (s : Int × Bool) (out : List (Int × Int)), (ofGo ps n s out).length ≤ out.length + n
  | 0, s, out => by simp [ofGo]
  | n + 1, s, out => by
    rw [ofGo]
    split
    · have := ofGo_len ps n (nextL ps s.1) (ofOut out s.1); have := ofOut_len out s.1; omega
    · omega
theorem ofL_len (ps : List Int) : (ofL ps).length ≤ ps.length + 1 := by have := ofGo_len ps (ps.length + 1) (nextL ps 0) []; simpa [ofL] using this

set_option maxHeartbeats 4000000 in
theorem r06of_any (ps : List Int) (vp : Value) (w : World) (hsp : SlP w w.heap.size 1 InE vp ps) (hN : ps.length ≤ 400000) (hps : ∀ x ∈ ps, 0 ≤ x ∧ x ≤ 1099511627778) :
    Calls Try.prog 57 #[vp] w (RetO w 110 2 (fun _ => RuE) (ofL ps)) := by
  have HY : Hid (ofL ps = ofGo ps (ps.length + 1) (nextL ps 0) []) := rfl
  have HBD : Hid (∀ x, 0 ≤ (nextL ps x).1 ∧ (nextL ps x).1 ≤ 1099511627778) := fun x => nextL_bd hps (by omega) (by omega)
  have HMH : Hid (∀ x, x ∈ ps → ∀ n, (cnt ps x ≤ n + 1) → (nextL ps x).2 = true → (nextL ps x).1 ∈ ps ∧ cnt ps (nextL ps x).1 ≤ n) := fun x hx n hc h => ⟨(nextL_spec h).1, by have := cnt_lt hx (nextL_spec h).2; omega⟩
  have HM0H : Hid ((nextL ps 0).2 = true → (nextL ps 0).1 ∈ ps ∧ cnt ps (nextL ps 0).1 ≤ ps.length + 1) := fun h => ⟨(nextL_spec h).1, by have := cnt_le ps (nextL ps 0).1; omega⟩
  clear hps
  go_enter Try.func57, Try.ntmps57
  go_wp2_with (go_at_call 79; with_reducible refine (r06next_any ps 0 vp w _ hsp).mono ?_; rintro e wx ⟨rfl, rfl⟩)
  go_loopg [3, 4, 5] (ps.length + 1) (fun n vo vx vk wr => ∃ (outL : List (Int × Int)) (x : Int) (k : Bool), OwnP wr w.heap.size 110 2 RuE vo outL ∧ vx = .int .i64 x ∧ vk = .bool k ∧ 0 ≤ x ∧ x ≤ 1099511627778 ∧ Below w.heap.size w wr ∧
    Hid (ofGo ps n (x, k) outL = ofL ps) ∧ Hid (k = true → x ∈ ps ∧ cnt ps x ≤ n) ∧ Hid (outL.length + n ≤ ps.length + 1))
  case atStart => exact ⟨[], _, _, OwnP.nil, rfl, rfl, (HBD.out 0).1, (HBD.out 0).2, Below.refl _ _, HY.out.symm, HM0H.out, by unfold Hid; simp⟩
  case round =>
    obtain ⟨outL, x, k, hown, rfl, rfl, hx0, hx1, hbr, hrel, hmem, hlen⟩ := hrel
    have hsz := hbr.size
    cases k
    · have hr := hrel.out
      rw [ofGo_false] at hr
      have HR := hid hr
      clear hr
      go_wp2_with fail
      go_ret
      exact ⟨_, rfl, by rw [← HR.out]; exact hown, hbr⟩
    · obtain ⟨n, rfl⟩ : ∃ n, gk = n + 1 := ⟨gk - 1, by have := hmem.out rfl; have := cnt_pos this.1; omega⟩
      have HMM := hid (hmem.out rfl)
      have HI : Hid (ofGo ps n (nextL ps x) (ofOut outL x) = ofL ps) := hrel.out
      have HPR : Hid (∀ w', Below w.heap.size w w' → SlP w' w.heap.size 1 InE vp ps) := fun w' hb' => hsp.imp hb' (Nat.le_refl _) fun _ _ _ h => h
      have JN : Hid (RuE (x, x) [.int .i64 x, .int .i64 x]) := ⟨rfl, ⟨by omega, by omega⟩, ⟨by show _ ≤ x; omega, by show x ≤ _; omega⟩⟩
      have HNX : Hid ((nextL ps x).2 = true → (nextL ps x).1 ∈ ps ∧ cnt ps (nextL ps x).1 ≤ n) := fun h => HMH.out x HMM.out.1 n HMM.out.2 h
      have HL : Hid (outL.length + [(x, x)].length ≤ Few) := by have := hlen.out; unfold Hid Few; simp; omega
      have hob : outL.length ≤ 400001 := by have := hlen.out; omega
      rcases Nat.eq_zero_or_pos outL.length with hz | hz
      · obtain rfl : outL = [] := List.eq_nil_of_length_eq_zero hz
        have HO : Hid (ofOut [] x = [] ++ [(x, x)]) := rfl
        obtain ⟨A8, c8, rfl⟩ := hown.shape
        clear hz
        simp only [List.length_nil] at hown ⊢
        have HL : Hid (([] : List (Int × Int)).length + [(x, x)].length ≤ Few) := by unfold Hid Few; simp
        go_wp2_with (first | (at_builtin; with_reducible refine wpList_few rfl (.tmp 34) (.tmp 38) _ rfl eiPair (by decide) (by decide) (fun _ _ h => h.one) rfl (hown.alloc _) rfl (SlP.one (x := (x, x)) JN.out rfl _ rfl) HL.out (by rw [World.size_alloc]; omega) ?_; intro v1 w1 hown1 hb1 _) | (go_at_call 79; with_reducible refine (r06next_any ps x vp _ _ (HPR.out _ ((hbr.alloc hsz _).trans hb1))).mono ?_; rintro e wx ⟨rfl, rfl⟩))
        go_roundg n
        case measure => omega
        case rel => exact ⟨[] ++ [(x, x)], _, _, hown1, rfl, rfl, HBD.out x |>.1, HBD.out x |>.2, (hbr.alloc hsz _).trans hb1, by have := HI.out; rw [HO.out] at this; exact this, HNX.out, by have := hlen.out; unfold Hid; simp at this ⊢; omega⟩
      obtain ⟨r, hr⟩ : ∃ r, outL[outL.length - 1]? = some r := ⟨_, List.getElem?_eq_getElem (by omega)⟩
      obtain ⟨g, cap, rfl, hg1, hg2, c0, c1, hfz, hset⟩ := hown.setRun hr (z := x) ⟨by omega, by omega⟩
      have hfz1 := hfz ((outL.length - 1) * 2 + 1)
      have HBO : Hid (ofOut outL x = if r.2 = x - 1 then outL.set (outL.length - 1) (r.1, x) else outL ++ [(x, x)]) := by
        unfold Hid ofOut; rw [List.getLast?_eq_getElem?, hr]
      clear hr hfz
      by_cases hq : r.2 = x - 1
      · have HO : Hid (ofOut outL x = outL.set (outL.length - 1) (r.1, x)) := by unfold Hid; rw [HBO.out, if_pos hq]
        have hq' : (r.2 == x - 1) = true := by simpa using hq
        have HQ := hid hq
        have HS := hid hset
        clear hq hset
        go_wp2_with (go_at_call 79; with_reducible refine (r06next_any ps x vp _ _ (HPR.out _ (hbr.setCell (by exact hg1) _))).mono ?_; rintro e wx ⟨rfl, rfl⟩)
        go_roundg n
        case measure => omega
        case rel => exact ⟨outL.set (outL.length - 1) (r.1, x), _, _, HS.out, rfl, rfl, HBD.out x |>.1, HBD.out x |>.2, hbr.setCell (by exact hg1) _, by have := HI.out; rw [HO.out] at this; exact this, HNX.out, by have := hlen.out; unfold Hid; rw [List.length_set]; omega⟩
      · have HO : Hid (ofOut outL x = outL ++ [(x, x)]) := by unfold Hid; rw [HBO.out, if_neg hq]
        have hq' : (r.2 == x - 1) = false := by simpa using hq
        have HQ := hid hq
        clear hq hset
        go_wp2_with (first | (at_builtin; with_reducible refine wpList_few rfl (.tmp 34) (.tmp 38) _ rfl eiPair (by decide) (by decide) (fun _ _ h => h.one) rfl (hown.alloc _) rfl (SlP.one (x := (x, x)) JN.out rfl _ rfl) HL.out (by rw [World.size_alloc]; omega) ?_; intro v1 w1 hown1 hb1 _) | (go_at_call 79; with_reducible refine (r06next_any ps x vp _ _ (HPR.out _ ((hbr.alloc hsz _).trans hb1))).mono ?_; rintro e wx ⟨rfl, rfl⟩))
        go_roundg n
        case measure => omega
        case rel => exact ⟨outL ++ [(x, x)], _, _, hown1, rfl, rfl, HBD.out x |>.1, HBD.out x |>.2, (hbr.alloc hsz _).trans hb1, by have := HI.out; rw [HO.out] at this; exact this, HNX.out, by have := hlen.out; unfold Hid; simp at this ⊢; omega⟩

end Go.Proofs.Ytdmhfiofgioihaa

namespace Go.Proofs.Ytdmhfiofgioihaa
open Go.RowKit
set_option maxRecDepth 100000

/-- One run that may stand in a set. -/
def runOk (r : Int × Int) : Prop := 1 ≤ r.1 ∧ r.1 ≤ r.2 ∧ r.2 ≤ 1099511627776
theorem runsR_iff (p : Option Int) (r : Int × Int) (rs : List (Int × Int)) : runsR p (r :: rs) = true ↔ runOk r ∧ okR p r.1 = true ∧ runsR (some r.2) rs = true := by
  rw [runsR_cons]
  simp only [Bool.and_eq_true, numB, decide_eq_true_eq, runOk]
  constructor
  · rintro ⟨⟨⟨⟨h1, h2⟩, h3⟩, h4⟩, h5⟩; exact ⟨by omega, h4, h5⟩
  · rintro ⟨h1, h4, h5⟩; exact ⟨⟨⟨⟨by omega, by omega⟩, by omega⟩, h4⟩, h5⟩
theorem runsR_nil (p : Option Int) : runsR p [] = true := by cases p <;> rfl
theorem runsR_one (p : Option Int) (r : Int × Int) : runsR p [r] = true ↔ runOk r ∧ okR p r.1 = true := by rw [runsR_iff, runsR_nil]; simp
theorem runsR_snoc : ∀ (L : List (Int × Int)) (p : Option Int) (q r : Int × Int), runsR p (L ++ [q] ++ [r]) = true ↔ runsR p (L ++ [q]) = true ∧ runOk r ∧ q.2 + 1 < r.1
  | [], p, q, r => by
    rw [List.nil_append, runsR_one, List.cons_append, runsR_iff, List.nil_append, runsR_one]
    simp only [okR, decide_eq_true_eq, and_assoc]
  | x :: L, p, q, r => by
    rw [List.cons_append, List.cons_append, runsR_iff, runsR_iff, runsR_snoc L (some x.2) q r]
    simp only [and_assoc]
theorem runsR_last : ∀ (L : List (Int × Int)) (p : Option Int) (q : Int × Int), runsR p (L ++ [q]) = true → runOk q
  | [], p, q, h => ((runsR_one p q).1 h).1
  | x :: L, p, q, h => by
    rw [List.cons_append, runsR_iff] at h
    exact runsR_last L _ q h.2.2
theorem runsR_wide : ∀ (L : List (Int × Int)) (p : Option Int) (q : Int × Int) (m : Int), runsR p (L ++ [q]) = true → q.2 ≤ m → m ≤ 1099511627776 → runsR p (L ++ [(q.1, m)]) = true
  | [], p, q, m, h, h1, h2 => by
    rw [List.nil_append, runsR_one] at h ⊢
    obtain ⟨h, h'⟩ := h
    unfold runOk at *
    exact ⟨⟨h.1, by show q.1 ≤ m; omega, h2⟩, h'⟩
  | x :: L, p, q, m, h, h1, h2 => by
    rw [List.cons_append, runsR_iff] at h ⊢
    exact ⟨h.1, h.2.1, runsR_wide L _ q m h.2.2 h1 h2⟩
theorem hasL_app (a b : List (Int × Int)) (n : Int) : hasL (a ++ b) n = (hasL a n || hasL b n) := by simp [hasL]
/-- Two sets of the same numbers are the same. -/
theorem runs_lo : ∀ (l : List (Int × Int)) (p : Int), runsR (some p) l = true → ∀ n, hasL l n = true → p + 1 < n
  | [], p, _, n, h => by simp [hasL] at h
  | r :: l, p, hr, n, h => by
    rw [runsR_iff] at hr
    obtain ⟨h1, h2, h3⟩ := hr
    simp only [okR, decide_eq_true_eq] at h2
    simp only [hasL, List.any_cons, Bool.or_eq_true, inR, Bool.and_eq_true, decide_eq_true_eq] at h
    unfold runOk at h1
    rcases h with h | h
    · omega
    · have := runs_lo l r.2 h3 n (by simpa [hasL, inR] using h)
      omega
theorem runs_eq : ∀ (a b : List (Int × Int)) (p q : Option Int), runsR p a = true → runsR q b = true → (∀ n, hasL a n = hasL b n) → a = b
  | [], [], _, _, _, _, _ => rfl
  | [], r :: b, _, q, _, hb, h => by
    rw [runsR_iff] at hb
    have := h r.1
    simp [hasL, inR] at this
    have := hb.1
    unfold runOk at this
    omega
  | r :: a, [], p, _, ha, _, h => by
    rw [runsR_iff] at ha
    have := h r.1
    simp [hasL, inR] at this
    have := ha.1
    unfold runOk at this
    omega
  | r :: a, s :: b, p, q, ha, hb, h => by
    rw [runsR_iff] at ha hb
    obtain ⟨a1, a2, a3⟩ := ha
    obtain ⟨b1, b2, b3⟩ := hb
    have ha' := runs_lo a r.2 a3
    have hb' := runs_lo b s.2 b3
    have hc : ∀ (x : Int × Int) (l : List (Int × Int)) n, hasL (x :: l) n = (inR x n || hasL l n) := fun x l n => by simp [hasL]
    have hin : ∀ (x : Int × Int) n, inR x n = true ↔ x.1 ≤ n ∧ n ≤ x.2 := fun x n => by simp [inR]
    unfold runOk at a1 b1
    have key : ∀ n, (inR r n = true ∨ hasL a n = true) ↔ (inR s n = true ∨ hasL b n = true) := fun n => by
      have := h n; rw [hc, hc, Bool.eq_iff_iff] at this; simpa using this
    have e1 : r.1 = s.1 := by
      have k1 := (key r.1).1 (.inl ((hin r _).2 ⟨by omega, by omega⟩))
      have k2 := (key s.1).2 (.inl ((hin s _).2 ⟨by omega, by omega⟩))
      rw [hin] at k1 k2
      have := hb' r.1; have := ha' s.1
      rcases k1 with k1 | k1 <;> rcases k2 with k2 | k2
      · omega
      · have := ha' s.1 k2; omega
      · have := hb' r.1 k1; omega
      · have := hb' r.1 k1; have := ha' s.1 k2; omega
    have e2 : r.2 = s.2 := by
      have k1 := (key r.2).1 (.inl ((hin r _).2 ⟨by omega, by omega⟩))
      have k2 := (key s.2).2 (.inl ((hin s _).2 ⟨by omega, by omega⟩))
      have k3 := key (r.2 + 1)
      have k4 := key (s.2 + 1)
      rw [hin] at k1 k2
      rw [hin, hin] at k3 k4
      rcases Int.lt_trichotomy r.2 s.2 with hlt | heq | hgt
      · have := k3.2 (.inl ⟨by omega, by omega⟩)
        rcases this with h | h
        · omega
        · have := ha' _ h; omega
      · exact heq
      · have := k4.1 (.inl ⟨by omega, by omega⟩)
        rcases this with h | h
        · omega
        · have := hb' _ h; omega
    have e : r = s := Prod.ext e1 e2
    subst e
    congr 1
    refine runs_eq a b _ _ a3 b3 fun n => ?_
    by_cases hn : inR r n = true
    · rw [hin] at hn
      have x1 : hasL a n = false := by
        cases hx : hasL a n with
        | false => rfl
        | true => have := ha' n hx; omega
      have x2 : hasL b n = false := by
        cases hx : hasL b n with
        | false => rfl
        | true => have := hb' n hx; omega
      rw [x1, x2]
    · have := key n
      simp only [hn] at this
      rw [Bool.eq_iff_iff]
      simpa using this
theorem nextL_least : ∀ (l : List Int) (a : Int) (s : Int × Bool), (s.2 = true → a < s.1) → (∀ y, (y ∈ l ∧ a < y ∨ (s.2 = true ∧ y = s.1)) → (l.foldl (nextS a) s).2 = true ∧ (l.foldl (nextS a) s).1 ≤ y)
  | [], a, s, hs, y, h => by
    rcases h with h | h
    · cases h.1
    · exact ⟨h.1, by rw [h.2]; exact Int.le_refl _⟩
  | x :: l, a, s, hs, y, h => by
    rw [List.foldl_cons]
    by_cases hc : a < x ∧ (s.2 = false ∨ x < s.1)
    · have e : nextS a s x = (x, true) := by simp [nextS, hc]
      rw [e]
      have ih := nextL_least l a (x, true) (fun _ => hc.1)
      rcases h with ⟨h, hy⟩ | h
      · rcases List.mem_cons.1 h with rfl | h
        · exact ih y (.inr ⟨rfl, rfl⟩)
        · exact ih y (.inl ⟨h, hy⟩)
      · have := ih x (.inr ⟨rfl, rfl⟩)
        refine ⟨this.1, ?_⟩
        rcases hc.2 with h2 | h2
        · rw [h.1] at h2; cases h2
        · have h3 := this.2; rw [h.2]; omega
    · have e : nextS a s x = s := by simp only [nextS, if_neg hc]
      rw [e]
      have ih := nextL_least l a s hs
      rcases h with ⟨h, hy⟩ | h
      · rcases List.mem_cons.1 h with rfl | h
        · cases hs2 : s.2 with
          | false => exact absurd ⟨hy, .inl hs2⟩ hc
          | true =>
            have hle : s.1 ≤ y := by
              rcases Int.lt_or_le y s.1 with h | h
              · exact absurd ⟨hy, .inr h⟩ hc
              · exact h
            have := ih s.1 (.inr ⟨hs2, rfl⟩)
            exact ⟨this.1, by omega⟩
        · exact ih y (.inl ⟨h, hy⟩)
      · exact ih y (.inr h)
/-- The next one: the least of those above. -/
theorem nextL_min {l : List Int} {a y : Int} (h : y ∈ l) (hy : a < y) : (nextL l a).2 = true ∧ (nextL l a).1 ≤ y :=
  nextL_least l a (0, false) (fun h => by cases h) y (.inl ⟨h, hy⟩)
theorem cnt_next {l : List Int} {a : Int} (h : (nextL l a).2 = true) : (nextL l a).1 ∈ l ∧ a < (nextL l a).1 ∧ ∀ y ∈ l, a < y → (nextL l a).1 ≤ y :=
  ⟨(nextL_spec h).1, (nextL_spec h).2, fun _ hy hlt => (nextL_min hy hlt).2⟩
theorem none_next {l : List Int} {a : Int} (h : (nextL l a).2 = false) : ∀ y ∈ l, y ≤ a := fun y hy => by
  rcases Int.lt_or_le a y with hlt | hle
  · have := (nextL_min hy hlt).1; rw [h] at this; cases this
  · exact hle

theorem hasL_last {out : List (Int × Int)} {x : Int} (h : runsR none out = true) (hl : ∀ n, hasL out n = true → n ≤ x) : ∀ q, out.getLast? = some q → q.2 ≤ x := fun q hq => by
  obtain ⟨L, rfl⟩ : ∃ L, out = L ++ [q] := by
    rcases List.eq_nil_or_concat out with rfl | ⟨L, r, rfl⟩
    · simp at hq
    · rw [List.concat_eq_append, List.getLast?_concat] at hq; cases hq; exact ⟨L, List.concat_eq_append⟩
  have hqo := runsR_last L none q h
  refine hl q.2 ?_
  rw [hasL_app]
  unfold runOk at hqo
  simp [hasL, inR]
  right; omega
/-- A run behind a set, that may touch it. -/
theorem put_right {out : List (Int × Int)} {x y : Int} (h : runsR none out = true) (hr : runOk (x, y)) (ho : ∀ q, out.getLast? = some q → q.2 < x) (f : List (Int × Int))
    (hf : f = match out.getLast? with | some r => if r.2 = x - 1 then out.set (out.length - 1) (r.1, y) else out ++ [(x, y)] | none => [(x, y)]) :
    runsR none f = true ∧ ∀ n, hasL f n = (hasL out n || inR (x, y) n) := by
  subst hf
  rcases List.eq_nil_or_concat out with rfl | ⟨L, q, rfl⟩
  · exact ⟨(runsR_one none (x, y)).2 ⟨hr, rfl⟩, fun n => by simp [hasL]⟩
  · rw [List.concat_eq_append] at *
    have hq := ho q (by simp)
    have hqo := runsR_last L none q h
    unfold runOk at *
    simp only at hr
    rw [List.getLast?_concat]
    dsimp only
    split
    · rename_i hc
      have e : (L ++ [q]).set ((L ++ [q]).length - 1) (q.1, y) = L ++ [(q.1, y)] := by simp
      rw [e]
      refine ⟨runsR_wide L none q _ h (by omega) (by omega), fun n => ?_⟩
      rw [hasL_app, hasL_app, Bool.or_assoc]
      congr 1
      rw [Bool.eq_iff_iff]
      simp [hasL, inR]
      omega
    · rename_i hc
      refine ⟨(runsR_snoc L none q (x, y)).2 ⟨h, hr, by show q.2 + 1 < x; omega⟩, fun n => ?_⟩
      rw [hasL_app]; simp [hasL]
theorem ofGo_right (ps : List Int) (hps : ∀ x ∈ ps, 1 ≤ x ∧ x ≤ 1099511627776) : ∀ (n : Nat) (a : Int) (out : List (Int × Int)), cnt ps (a + 1) < n → runsR none out = true → (∀ m, hasL out m = true ↔ m ∈ ps ∧ m ≤ a) →
    runsR none (ofGo ps n (nextL ps a) out) = true ∧ ∀ m, hasL (ofGo ps n (nextL ps a) out) m = true ↔ m ∈ ps
  | 0, a, out, hn, _, _ => by omega
  | n + 1, a, out, hn, hr, ho => by
    rw [ofGo]
    split
    · rename_i hk
      obtain ⟨h1, h2, h3⟩ := cnt_next hk
      generalize (nextL ps a).1 = x at *
      have hb := hps x h1
      have hl := hasL_last hr (x := a) (fun m hm => ((ho m).1 hm).2)
      obtain ⟨k1, k2⟩ := put_right (x := x) (y := x) hr ⟨by exact hb.1, by show x ≤ x; omega, by exact hb.2⟩ (fun q hq => by have := hl q hq; omega) (ofOut out x) rfl
      refine ofGo_right ps hps n x (ofOut out x) ?_ k1 fun m => ?_
      · have := cnt_lt (y := x + 1) h1 (by omega)
        have h4 : cnt ps x ≤ cnt ps (a + 1) := by
          unfold cnt
          rw [← List.countP_eq_length_filter, ← List.countP_eq_length_filter]
          exact List.countP_mono_left fun z _ hz => by simp at hz ⊢; omega
        omega
      · rw [k2, Bool.or_eq_true, ho]
        simp only [inR, Bool.and_eq_true, decide_eq_true_eq]
        constructor
        · rintro (h | h)
          · exact ⟨h.1, by omega⟩
          · obtain rfl : m = x := by omega
            exact ⟨h1, by omega⟩
        · rintro ⟨hm, hle⟩
          by_cases hma : m ≤ a
          · exact .inl ⟨hm, hma⟩
          · have := h3 m hm (by omega)
            exact .inr ⟨by omega, by omega⟩
    · rename_i hk
      have hk' : (nextL ps a).2 = false := by simpa using hk
      exact ⟨hr, fun m => (ho m).trans ⟨fun h => h.1, fun h => ⟨h, none_next hk' m h⟩⟩⟩
/-- tributaryref06.Of is the set of the numbers. -/
theorem ofL_right {ps : List Int} (hps : ∀ x ∈ ps, 1 ≤ x ∧ x ≤ 1099511627776) : runsR none (ofL ps) = true ∧ ∀ m, hasL (ofL ps) m = true ↔ m ∈ ps := by
  unfold ofL
  refine ofGo_right ps hps (ps.length + 1) 0 [] (by have := cnt_le ps (0 + 1); omega) rfl fun m => ?_
  constructor
  · intro h; simp [hasL] at h
  · rintro ⟨h, h'⟩; have := hps m h; omega

theorem inR_step {r : Int × Int} {ps : List Int} {x y n : Int} (h1 : r.1 ∈ ps) (h2 : r.2 + 1 ∈ ps) (hn : ∀ z ∈ ps, x < z → y ≤ z) (hx : x ≤ n) (hy : n < y) : inR r n = inR r x := by
  rw [Bool.eq_iff_iff]
  simp only [inR, Bool.and_eq_true, decide_eq_true_eq]
  have a1 := hn _ h1
  have a2 := hn _ h2
  omega
theorem hasL_step {l : List (Int × Int)} {ps : List Int} {x y n : Int} (hl : ∀ r ∈ l, r.1 ∈ ps ∧ r.2 + 1 ∈ ps) (hn : ∀ z ∈ ps, x < z → y ≤ z) (hx : x ≤ n) (hy : n < y) : hasL l n = hasL l x := by
  unfold hasL
  rw [Bool.eq_iff_iff, List.any_eq_true, List.any_eq_true]
  constructor
  · rintro ⟨r, hr, h⟩; exact ⟨r, hr, by rw [← inR_step (hl r hr).1 (hl r hr).2 hn hx hy]; exact h⟩
  · rintro ⟨r, hr, h⟩; exact ⟨r, hr, by rw [inR_step (hl r hr).1 (hl r hr).2 hn hx hy]; exact h⟩
theorem hasL_end {l : List (Int × Int)} {ps : List Int} {x n : Int} (hl : ∀ r ∈ l, r.1 ∈ ps ∧ r.2 + 1 ∈ ps) (hn : ∀ z ∈ ps, z ≤ x) (hx : x ≤ n) : hasL l n = false := by
  unfold hasL
  rw [List.any_eq_false]
  intro r hr
  have := hn _ (hl r hr).2
  simp [inR]; omega
theorem hasL_ahead {l : List (Int × Int)} {ps : List Int} {x n : Int} (hl : ∀ r ∈ l, r.1 ∈ ps ∧ r.2 + 1 ∈ ps) (hn : ∀ z ∈ ps, x < z) (hx : n ≤ x) : hasL l n = false := by
  unfold hasL
  rw [List.any_eq_false]
  intro r hr
  have := hn _ (hl r hr).1
  simp [inR]; omega
theorem byGo_right (a b : List (Int × Int)) (how : Int) (ps : List Int) (ha : ∀ r ∈ a, r.1 ∈ ps ∧ r.2 + 1 ∈ ps) (hb : ∀ r ∈ b, r.1 ∈ ps ∧ r.2 + 1 ∈ ps) (hps : ∀ x ∈ ps, 1 ≤ x ∧ x ≤ 1099511627777) :
    ∀ (n : Nat) (x : Int) (out : List (Int × Int)), cnt ps x < n → x ∈ ps → runsR none out = true → (∀ m, hasL out m = true ↔ inn how (hasL a m) (hasL b m) = true ∧ m < x) →
    runsR none (byGo a b how ps n (x, true) out) = true ∧ ∀ m, hasL (byGo a b how ps n (x, true) out) m = inn how (hasL a m) (hasL b m)
  | 0, x, out, hn, _, _, _ => by omega
  | n + 1, x, out, hn, hx, hr, ho => by
    rw [byGo, if_pos rfl]
    have hxb := hps x hx
    have hl := hasL_last hr (x := x - 1) (fun m hm => by have := ((ho m).1 hm).2; omega)
    cases hk : (nextL ps x).2 with
    | true =>
      obtain ⟨h1, h2, h3⟩ := cnt_next hk
      have e : nextL ps x = ((nextL ps x).1, true) := by rw [← hk]
      rw [e]
      generalize (nextL ps x).1 = y at *
      dsimp only
      have hyb := hps y h1
      have hc := cnt_lt hx h2
      have sa := fun m (h1 : x ≤ m) (h2 : m < y) => hasL_step ha h3 h1 h2
      have sb := fun m (h1 : x ≤ m) (h2 : m < y) => hasL_step hb h3 h1 h2
      split
      · rename_i hi
        obtain ⟨k1, k2⟩ := put_right (x := x) (y := y - 1) hr ⟨by exact hxb.1, by show x ≤ y - 1; omega, by show y - 1 ≤ _; omega⟩ (fun q hq => by have := hl q hq; omega) (byOut out x y) rfl
        refine byGo_right a b how ps ha hb hps n y (byOut out x y) (by omega) h1 k1 fun m => ?_
        rw [k2, Bool.or_eq_true, ho]
        simp only [inR, Bool.and_eq_true, decide_eq_true_eq]
        constructor
        · rintro (h | h)
          · exact ⟨h.1, by omega⟩
          · exact ⟨by rw [sa m (by omega) (by omega), sb m (by omega) (by omega)]; exact hi, by omega⟩
        · rintro ⟨hm, hlt⟩
          by_cases h : m < x
          · exact .inl ⟨hm, h⟩
          · exact .inr ⟨by omega, by omega⟩
      · rename_i hi
        refine byGo_right a b how ps ha hb hps n y out (by omega) h1 hr fun m => ?_
        rw [ho]
        constructor
        · rintro ⟨h, h'⟩; exact ⟨h, by omega⟩
        · rintro ⟨h, h'⟩
          refine ⟨h, ?_⟩
          rcases Int.lt_or_le m x with hlt | hle
          · exact hlt
          · rw [sa m hle h', sb m hle h'] at h; exact absurd h hi
    | false =>
      have h3 := none_next hk
      have e : nextL ps x = ((nextL ps x).1, false) := by rw [← hk]
      have ea := fun m (h : x ≤ m) => hasL_end ha h3 h
      have eb := fun m (h : x ≤ m) => hasL_end hb h3 h
      have hi : inn how (hasL a x) (hasL b x) = false := by rw [ea x (Int.le_refl _), eb x (Int.le_refl _)]; simp [inn]
      dsimp only
      rw [hi, e, byGo_false, if_neg (by decide)]
      refine ⟨hr, fun m => ?_⟩
      rw [Bool.eq_iff_iff, ho]
      constructor
      · exact fun h => h.1
      · intro h
        refine ⟨h, ?_⟩
        rcases Int.lt_or_le m x with hlt | hle
        · exact hlt
        · rw [ea m hle, eb m hle] at h; simp [inn] at h
theorem endsL_mem {l : List (Int × Int)} {r : Int × Int} (h : r ∈ l) : r.1 ∈ endsL l ∧ r.2 + 1 ∈ endsL l := by
  unfold endsL
  exact ⟨List.mem_flatMap.2 ⟨r, h, by simp⟩, List.mem_flatMap.2 ⟨r, h, by simp⟩⟩
/-- tributaryref06.By is the set that its rule tells. -/
theorem byL_right {a b : List (Int × Int)} (how : Int) (ha : ∀ r ∈ a, runOk r) (hb : ∀ r ∈ b, runOk r) : runsR none (byL a b how) = true ∧ ∀ m, hasL (byL a b how) m = inn how (hasL a m) (hasL b m) := by
  have hps : ∀ x ∈ endsL a ++ endsL b, 1 ≤ x ∧ x ≤ 1099511627777 := fun x hx => by
    have : ∀ (l : List (Int × Int)), (∀ r ∈ l, runOk r) → x ∈ endsL l → 1 ≤ x ∧ x ≤ 1099511627777 := fun l hl hx => by
      obtain ⟨r, hr, hx⟩ := List.mem_flatMap.1 hx
      have := hl r hr
      unfold runOk at this
      simp at hx
      omega
    rcases List.mem_append.1 hx with h | h
    · exact this a ha h
    · exact this b hb h
  have ea : ∀ r ∈ a, r.1 ∈ endsL a ++ endsL b ∧ r.2 + 1 ∈ endsL a ++ endsL b := fun r hr => ⟨List.mem_append_left _ (endsL_mem hr).1, List.mem_append_left _ (endsL_mem hr).2⟩
  have eb : ∀ r ∈ b, r.1 ∈ endsL a ++ endsL b ∧ r.2 + 1 ∈ endsL a ++ endsL b := fun r hr => ⟨List.mem_append_right _ (endsL_mem hr).1, List.mem_append_right _ (endsL_mem hr).2⟩
  unfold byL
  generalize endsL a ++ endsL b = ps at *
  cases hk : (nextL ps 0).2 with
  | true =>
    obtain ⟨h1, h2, h3⟩ := cnt_next hk
    have e : nextL ps 0 = ((nextL ps 0).1, true) := by rw [← hk]
    rw [e]
    generalize (nextL ps 0).1 = x at *
    refine byGo_right a b how ps ea eb hps (ps.length + 1) x [] (by have := cnt_le ps x; omega) h1 rfl fun m => ?_
    constructor
    · intro h; simp [hasL] at h
    · rintro ⟨h, hlt⟩
      exfalso
      have hq : ∀ z ∈ ps, m < z := fun z hz => by have := h3 z hz (by have := hps z hz; omega); omega
      rw [hasL_ahead ea hq (Int.le_refl _), hasL_ahead eb hq (Int.le_refl _)] at h
      simp [inn] at h
  | false =>
    have h3 := none_next hk
    have e : nextL ps 0 = ((nextL ps 0).1, false) := by rw [← hk]
    rw [e, byGo_false]
    have hn : ps = [] := by
      cases ps with
      | nil => rfl
      | cons z zs => have := h3 z (by simp); have := hps z (by simp); omega
    subst hn
    have : ∀ (l : List (Int × Int)), (∀ r ∈ l, r.1 ∈ ([] : List Int) ∧ r.2 + 1 ∈ ([] : List Int)) → l = [] := fun l hl => by
      cases l with
      | nil => rfl
      | cons z zs => have := (hl z (by simp)).1; simp at this
    rw [this a ea, this b eb]
    exact ⟨rfl, fun m => by simp [hasL, inn]⟩
end Go.Proofs.Ytdmhfiofgioihaa

namespace Go.Proofs.Ytdmhfiofgioihaa
open Go.RowKit
set_option maxRecDepth 100000

theorem byOut_len (out : List (Int × Int)) (x y : Int) : (byOut out x y).length ≤ out.length + 1 := by
  unfold byOut
  cases h : out.getLast? with
  | none => simp
  | some r => dsimp only; split <;> simp
theorem byGo_len (a b : List (Int × Int)) (how : Int) (ps : List Int) : ∀ (n : Nat) (s : Int × Bool) (out : List (Int × Int)), (byGo a b how ps n s out).length ≤ out.length + n
  | 0, s, out => by simp [byGo]
  | n + 1, s, out => by
    rw [byGo]
    split
    · have h1 := byGo_len a b how ps n (nextL ps s.1) (if inn how (hasL a s.1) (hasL b s.1) then byOut out s.1 (nextL ps s.1).1 else out)
      have h2 := byOut_len out s.1 (nextL ps s.1).1
      split at h1 <;> rename_i hc
      · rw [if_pos hc]; omega
      · rw [if_neg hc]; omega
    · omega
theorem byL_len (a b : List (Int × Int)) (how : Int) : (byL a b how).length ≤ 2 * a.length + 2 * b.length + 1 := by
  have := byGo_len a b how (endsL a ++ endsL b) ((endsL a ++ endsL b).length + 1) (nextL (endsL a ++ endsL b) 0) []
  have h1 := endsL_len a
  have h2 := endsL_len b
  simp at this
  unfold byL
  simp
  omega

/-- All numbers of a context are right. -/
def SpsOk (c : List Sp) : Prop := ∀ s ∈ c, 0 ≤ s.fr ∧ s.fr ≤ 1099511627777 ∧ 0 ≤ s.hi ∧ s.hi ≤ 1099511627777
theorem partL_ok {c : List Sp} (h : SpsOk c) (dc : Int) : RunsOk (partL c dc) := fun r hr => by
  unfold partL at hr
  obtain ⟨s, hs, rfl⟩ := List.mem_map.1 hr
  exact h s (List.mem_filter.1 hs).1
def ctxByK (a b : List Sp) (how : Int) (k : Nat) : List Sp := (List.range k).flatMap fun (dc : Nat) => spansL (dc : Int) (byL (partL a dc) (partL b dc) how)
def ctxBy (a b : List Sp) (how : Int) : List Sp := ctxByK a b how 4
theorem ctxByK_len (a b : List Sp) (how : Int) : ∀ k, (ctxByK a b how k).length ≤ k * (2 * a.length + 2 * b.length + 1)
  | 0 => by simp [ctxByK]
  | k + 1 => by
    have h := ctxByK_len a b how k
    have h1 := byL_len (partL a k) (partL b k) how
    have h2 := partL_len a k
    have h3 := partL_len b k
    unfold ctxByK at *
    rw [List.range_succ, List.flatMap_append, List.length_append, Nat.add_mul]
    simp only [List.flatMap_cons, List.flatMap_nil, List.append_nil, spansL, List.length_map] at *
    omega

set_option maxHeartbeats 2000000 in
theorem r07by_any (a b : List Sp) (how : Int) (va vb : Value) (w : World) (ha : SlP w w.heap.size 3 SpE va a) (hb : SlP w w.heap.size 3 SpE vb b) (hN : a.length ≤ 50000) (hN' : b.length ≤ 50000) (hR : SpsOk a) (hR' : SpsOk b) (hh : how = 0 ∨ how = 1 ∨ how = 2) :
    Calls Try.prog 54 #[va, vb, .int .i64 how] w (RetO w 78 3 (fun _ => SpE) (ctxBy a b how)) := by
  go_enter Try.func54, Try.ntmps54
  go_wp2_with fail
  go_loopw [7, 9] (fun v i wr => ∃ k : Nat, k ≤ 4 ∧ i = .int .i64 k ∧ OwnP wr w.heap.size 78 3 SpE v (ctxByK a b how k) ∧ Below w.heap.size w wr) (fun _ i _ => 4 - (intOf i).toNat)
  case atStart => exact ⟨0, Nat.zero_le _, rfl, OwnP.nil, Below.refl _ _⟩
  case round =>
    obtain ⟨k, hk, rfl, hown, hbr⟩ := hrel
    have hsz := hbr.size
    by_cases hlt : k < 4
    · have hpa := partL_len a k
      have hpb := partL_len b k
      have hl := byL_len (partL a k) (partL b k) how
      have hcl := ctxByK_len a b how k
      have HL : Hid ((ctxByK a b how k).length + (spansL (k : Int) (byL (partL a k) (partL b k) how)).length ≤ Few) := by
        have : k * (2 * a.length + 2 * b.length + 1) ≤ 3 * (2 * a.length + 2 * b.length + 1) := Nat.mul_le_mul_right _ (by omega)
        unfold Hid Few spansL; rw [List.length_map]; omega
      have HX : Hid (ctxByK a b how (k + 1) = ctxByK a b how k ++ spansL (k : Int) (byL (partL a k) (partL b k) how)) := by
        unfold Hid ctxByK; rw [List.range_succ, List.flatMap_append]; simp
      have HLL := hid hl
      clear hcl hl
      go_wp2_with fail
      refine (r07part_any a k va wr (ha.imp hbr hsz fun _ _ _ h => h) (by omega)).mono ?_
      rintro e w1 ⟨v1, rfl, ho1, hb1⟩
      have hs1 := hb1.size
      go_wp2_with fail
      refine (r07part_any b k vb w1 (hb.imp (hbr.trans (hb1.mono hsz)) (by omega) fun _ _ _ h => h) (by omega)).mono ?_
      rintro e w2 ⟨v2, rfl, ho2, hb2⟩
      have hs2 := hb2.size
      have s1 := (ho1.grow hb2).sl (by unfold Big; omega)
      have s2 := ho2.sl (by unfold Big; omega)
      clear ho1 ho2
      go_wp2_with fail
      refine (r06by_any (partL a k) (partL b k) how v1 v2 w2 s1 s2 (by omega) (by omega) (partL_ok hR k) (partL_ok hR' k) hh).mono ?_
      rintro e w3 ⟨v3, rfl, ho3, hb3⟩
      have hs3 := hb3.size
      have s3 := ho3.sl (by have := HLL.out; unfold Big; omega)
      clear ho3
      go_wp2_with fail
      refine (r07spans_any _ k v3 w3 s3 (by have := HLL.out; omega) ⟨by omega, by omega⟩).mono ?_
      rintro e w4 ⟨v4, rfl, ho4, hb4⟩
      have hs4 := hb4.size
      have s4 := ho4.sl (by have := HL.out; unfold Few at this; unfold Big; omega)
      have hB4 : Below wr.heap.size wr w4 := ((hb1.trans (hb2.mono hs1)).trans (hb3.mono (by omega))).trans (hb4.mono (by omega))
      clear ho4
      go_wp2_with (at_builtin; with_reducible refine wpList_few rfl (.tmp 12) (.tmp 22) _ rfl eiSpan (by decide) (by decide) (fun _ _ h => h.one) rfl (hown.grow hB4) rfl s4 HL.out (by omega) ?_; intro v5 w5 hown5 hb5 _)
      go_roundw
      case rel => exact ⟨k + 1, by omega, by go_num, by rw [HX.out]; exact hown5, (hbr.trans (hB4.mono hsz)).trans hb5⟩
      case measure => simp [intOf]; omega
    · obtain rfl : k = 4 := by omega
      go_wp2_with fail
      go_ret
      exact ⟨_, rfl, hown, hbr⟩

theorem r07union_any (a b : List Sp) (va vb : Value) (w : World) (ha : SlP w w.heap.size 3 SpE va a) (hb : SlP w w.heap.size 3 SpE vb b) (hN : a.length ≤ 50000) (hN' : b.length ≤ 50000) (hR : SpsOk a) (hR' : SpsOk b) :
    Calls Try.prog 33 #[va, vb] w (RetO w 78 3 (fun _ => SpE) (ctxBy a b 0)) := by
  go_enter Try.func33, Try.ntmps33
  go_wp2_with fail
  refine (r07by_any a b 0 va vb w ha hb hN hN' hR hR' (.inl rfl)).mono ?_
  rintro e w1 ⟨v, rfl, h⟩
  go_wp2_with fail
  go_ret
  exact ⟨v, rfl, h⟩

def numsL (l : List Dt) (dc : Int) : List Int := (l.filter fun d => d.dc == dc).map fun d => d.n
def ctxOfK (l : List Dt) (k : Nat) : List Sp := (List.range k).flatMap fun (dc : Nat) => spansL (dc : Int) (ofL (numsL l dc))
def ctxOf (l : List Dt) : List Sp := ctxOfK l 4
theorem numsL_take {c : List Dt} {k : Nat} {x : Dt} (h : c[k]? = some x) (dc : Int) : numsL (c.take (k + 1)) dc = numsL (c.take k) dc ++ (if x.dc = dc then [x.n] else []) := by
  unfold numsL
  rw [List.take_add_one, h]
  by_cases hd : x.dc = dc <;> simp [hd]
theorem numsL_len (c : List Dt) (dc : Int) : (numsL c dc).length ≤ c.length := by
  unfold numsL; rw [List.length_map]; exact List.length_filter_le _ _
theorem ctxOfK_len (l : List Dt) : ∀ k, (ctxOfK l k).length ≤ k * (l.length + 1)
  | 0 => by simp [ctxOfK]
  | k + 1 => by
    have h := ctxOfK_len l k
    have h1 := ofL_len (numsL l k)
    have h2 := numsL_len l k
    unfold ctxOfK at *
    rw [List.range_succ, List.flatMap_append, List.length_append, Nat.add_mul]
    simp only [List.flatMap_cons, List.flatMap_nil, List.append_nil, spansL, List.length_map] at *
    omega

set_option maxHeartbeats 2000000 in
theorem r07of_any (l : List Dt) (vl : Value) (w : World) (hl : SlP w w.heap.size 2 DtE vl l) (hN : l.length ≤ 100000) (hR : ∀ d ∈ l, 0 ≤ d.n ∧ d.n ≤ 1099511627778) :
    Calls Try.prog 36 #[vl] w (RetO w 78 3 (fun _ => SpE) (ctxOf l)) := by
  obtain ⟨A, n, rfl, b1, b2, b3⟩ := hl
  unfold Big at b2
  go_enter Try.func36, Try.ntmps36
  go_wp2_with fail
  go_loopw [3, 7] (fun v i wr => ∃ k : Nat, k ≤ 4 ∧ i = .int .i64 k ∧ OwnP wr w.heap.size 78 3 SpE v (ctxOfK l k) ∧ Below w.heap.size w wr) (fun _ i _ => 4 - (intOf i).toNat)
  case atStart => exact ⟨0, Nat.zero_le _, rfl, OwnP.nil, Below.refl _ _⟩
  case round =>
    obtain ⟨k, hk, rfl, hown, hbr⟩ := hrel
    have hsz := hbr.size
    by_cases hlt : k < 4
    · have HL : Hid ((ctxOfK l k).length + (spansL (k : Int) (ofL (numsL l k))).length ≤ Few) := by
        have h1 := ofL_len (numsL l k)
        have h2 := numsL_len l k
        have hcl := ctxOfK_len l k
        have : k * (l.length + 1) ≤ 3 * (l.length + 1) := Nat.mul_le_mul_right _ (by omega)
        unfold Hid Few spansL; rw [List.length_map]; omega
      have HX : Hid (ctxOfK l (k + 1) = ctxOfK l k ++ spansL (k : Int) (ofL (numsL l k))) := by
        unfold Hid ctxOfK; rw [List.range_succ, List.flatMap_append]; simp
      have hlen := numsL_len l k
      have hlt' : decide ((k : Int) < 4) = true := by simp; omega
      go_wp2_with fail
      obtain ⟨wo, rfl⟩ : ∃ wo : World, wo = wr := ⟨_, rfl⟩
      go_loopw [5, 12] (fun v i wr => ∃ j : Nat, j ≤ l.length ∧ i = .int .i64 j ∧ OwnP wr wo.heap.size 2 1 InE v (numsL (l.take j) k) ∧ Below wo.heap.size wo wr) (fun _ i _ => l.length - (intOf i).toNat)
      case atStart => exact ⟨0, Nat.zero_le _, rfl, OwnP.nil, Below.refl _ _⟩
      case round =>
        obtain ⟨j, hj, rfl, hin, hbi⟩ := hrel
        have hsi := hbi.size
        by_cases hjl : j < l.length
        · obtain ⟨x, hx⟩ : ∃ x, l[j]? = some x := ⟨_, List.getElem?_eq_getElem hjl⟩
          obtain ⟨b, off, rfl, hbB, hc⟩ := b3 (by rintro rfl; simp at hjl)
          obtain ⟨cs, ⟨rfl, hok⟩, _, hu⟩ := hc j _ hx
          have e0 : wr.cell? ⟨b, off + j * 2, none⟩ = some (.int .i64 x.dc) := ((hbi.cell (by show b < _; omega)).trans (hbr.cell hbB)).trans (hu 0 _ rfl)
          have e1 : wr.cell? ⟨b, off + j * 2 + 1, none⟩ = some (.int .i64 x.n) := ((hbi.cell (by show b < _; omega)).trans (hbr.cell hbB)).trans (hu 1 _ rfl)
          have HT := hid (numsL_take hx k)
          have HLI : Hid ((numsL (l.take j) k).length + [x.n].length ≤ Few) := by
            have := numsL_len (l.take j) k
            unfold Hid Few; simp at this ⊢; omega
          have JN : Hid (InE x.n [.int .i64 x.n]) := ⟨rfl, hok.n⟩
          clear hu hx hc b3 hok
          by_cases hd : x.dc = k
          · have hd' : (x.dc == (k : Int)) = true := by simpa using hd
            have HD := hid hd
            clear hd
            go_wp2_with (at_builtin; with_reducible refine wpList_few rfl (.tmp 22) (.tmp 28) _ rfl eiInt64 (by decide) (by decide) (fun _ _ h => h.one) rfl (hin.alloc _) rfl (SlP.one JN.out rfl _ rfl) HLI.out (by rw [World.size_alloc]; omega) ?_; intro v1 w1 hown1 hb1 _)
            go_roundw
            case rel => exact ⟨j + 1, by omega, by go_num, by rw [HT.out, if_pos HD.out]; exact hown1, (hbi.alloc hsi _).trans hb1⟩
            case measure => simp [intOf]; omega
          · have hd' : (x.dc == (k : Int)) = false := by simpa using hd
            have HD := hid hd
            clear hd
            go_wp2_with fail
            go_roundw
            case rel => exact ⟨j + 1, by omega, by go_num, by rw [HT.out, if_neg HD.out, List.append_nil]; exact hin, hbi⟩
            case measure => simp [intOf]; omega
        · obtain rfl : j = l.length := by omega
          rw [List.take_of_length_le (Nat.le_refl _)] at hin
          have sin := hin.sl (by unfold Big; omega)
          have hnr : Hid (∀ x ∈ numsL l k, 0 ≤ x ∧ x ≤ 1099511627778) := fun x hx => by
            unfold numsL at hx
            obtain ⟨d, hd, rfl⟩ := List.mem_map.1 hx
            exact hR d (List.mem_filter.1 hd).1
          clear hin
          go_wp2_with fail
          refine (r06of_any (numsL l k) _ wr sin (by omega) hnr.out).mono ?_
          rintro e w1 ⟨v1, rfl, ho1, hb1⟩
          have hs1 := hb1.size
          have hol := ofL_len (numsL l k)
          have s1 := ho1.sl (by unfold Big; omega)
          clear ho1
          go_wp2_with fail
          refine (r07spans_any _ k v1 w1 s1 (by omega) ⟨by omega, by omega⟩).mono ?_
          rintro e w4 ⟨v4, rfl, ho4, hb4⟩
          have hs4 := hb4.size
          have s4 := ho4.sl (by have := HL.out; unfold Few at this; unfold Big; omega)
          have hB4 : Below wo.heap.size wo w4 := (hbi.trans (hb1.mono hsi)).trans (hb4.mono (by omega))
          clear ho4
          go_wp2_with (at_builtin; with_reducible refine wpList_few rfl (.tmp 31) (.tmp 35) _ rfl eiSpan (by decide) (by decide) (fun _ _ h => h.one) rfl (hown.grow hB4) rfl s4 HL.out (by omega) ?_; intro v5 w5 hown5 hb5 _)
          go_roundw
          case rel => exact ⟨k + 1, by omega, by go_num, by rw [HX.out]; exact hown5, (hbr.trans (hB4.mono hsz)).trans hb5⟩
          case measure => simp [intOf]; omega
    · obtain rfl : k = 4 := by omega
      go_wp2_with fail
      go_ret
      exact ⟨_, rfl, hown, hbr⟩

end Go.Proofs.Ytdmhfiofgioihaa

namespace Go.Proofs.Ytdmhfiofgioihaa
open Go.RowKit
set_option maxRecDepth 100000

theorem SlA.nil {α : Type} {w : World} {ok : Nat → Prop} {sz : Nat} {E : α → List Value → Prop} : SlA w ok sz E (.slice none 0 0) ([] : List α) := ⟨none, 0, rfl, Nat.le_refl _, by simp, fun h => absurd rfl h⟩

theorem r08leaves_any (t : Tr) (w : World) (ve vk : Value) (h : t.rd w w.heap.size ve vk) (hN : t.sz ≤ 100000) :
    Calls Try.prog 35 #[.agg #[ve, vk]] w (RetD w 60 5 LfA (fun _ => False) (t.lvs [])) := by
  obtain ⟨A3, n3, A4, n4, rfl, rfl⟩ := rd_shape h
  have hr := rd_below ((Below.refl _ w).alloc (Nat.le_refl _) (.cells #[.slice A3 t.es.length n3, .slice A4 t.ks.length n4] 25)) (by simp : w.heap.size ≤ (w.alloc (.cells #[.slice A3 t.es.length n3, .slice A4 t.ks.length n4] 25)).heap.size) _ _ _ h
  have HR := hid hr
  clear hr h
  go_enter Try.func35, Try.ntmps35
  go_wp2_with fail
  refine (r08below_any t [] (fun _ => False) _ _ _ _ HR.out SlA.nil (fun _ h => h.elim) (by simpa using hN)).mono ?_
  rintro e w1 ⟨v, rfl, hv, hb⟩
  have hs := hb.size
  simp only [World.size_alloc] at hs hb
  go_wp2_with fail
  go_ret
  refine ⟨v, rfl, (hv.mono (by simp)).weak LfA.mon fun b hb => ?_, ((Below.refl _ w).alloc (Nat.le_refl _) _).trans (hb.mono (by omega))⟩
  rcases hb with h | h
  · exact h.elim
  · refine .inr ?_; rw [World.size_alloc] at h; omega

mutual
theorem lvs_dots : ∀ (t : Tr) (p : List ByteArray), (t.lvs p).map (fun x => x.2.dot) = t.dots
  | .mk es ks, p => by rw [Tr.lvs, Tr.dots, List.map_append, lvsL_dots ks p, List.map_map]; rfl
theorem lvsL_dots : ∀ (ks : List (ByteArray × Tr)) (p : List ByteArray), (Tr.lvsL ks p).map (fun x => x.2.dot) = Tr.dotsL ks
  | [], p => by rw [Tr.lvsL, Tr.dotsL]; rfl
  | (k, t) :: ks, p => by rw [Tr.lvsL, Tr.dotsL, List.map_append, lvs_dots t, lvsL_dots ks]
end
theorem dots_len (t : Tr) : t.dots.length ≤ t.sz := by rw [← lvs_dots t [], List.length_map]; exact lvs_len t []

set_option maxHeartbeats 1000000 in
theorem r08dots_any (t : Tr) (w : World) (ve vk : Value) (h : t.rd w w.heap.size ve vk) (hN : t.sz ≤ 90000) (hR : ∀ d ∈ t.dots, 0 ≤ d.n ∧ d.n ≤ 1099511627778) :
    Calls Try.prog 12 #[.agg #[ve, vk]] w (RetO w 78 3 (fun _ => SpE) (ctxOf t.dots)) := by
  obtain ⟨A3, n3, A4, n4, rfl, rfl⟩ := rd_shape h
  have hr := rd_below ((Below.refl _ w).alloc (Nat.le_refl _) (.cells #[.slice A3 t.es.length n3, .slice A4 t.ks.length n4] 25)) (by simp : w.heap.size ≤ (w.alloc (.cells #[.slice A3 t.es.length n3, .slice A4 t.ks.length n4] 25)).heap.size) _ _ _ h
  have HR := hid hr
  have hll := lvs_len t []
  have hdl := dots_len t
  have hld := hid (lvs_dots t [])
  clear hr h
  go_enter Try.func12, Try.ntmps12
  go_wp2_with fail
  refine (r08leaves_any t _ _ _ HR.out (by omega)).mono ?_
  rintro e w1 ⟨v, rfl, hv, hb1⟩
  have hs1 := hb1.size
  simp only [World.size_alloc] at hs1 hb1
  have hB1 : Below w.heap.size w w1 := ((Below.refl _ w).alloc (Nat.le_refl _) _).trans (hb1.mono (by omega))
  obtain ⟨A, c, rfl, l1, l2, l3⟩ := hv.sl LfA.mon (by unfold Big; omega)
  unfold Big at l2
  clear hv
  go_wp2_with fail
  go_loopw [3, 10] (fun v i wr => ∃ k : Nat, k ≤ (t.lvs []).length ∧ i = .int .i64 k ∧ OwnP wr w1.heap.size 27 2 DtE v (((t.lvs []).take k).map (fun x => x.2.dot)) ∧ Below w1.heap.size w1 wr) (fun _ i _ => (t.lvs []).length - (intOf i).toNat)
  case atStart => exact ⟨0, Nat.zero_le _, rfl, OwnP.nil, Below.refl _ _⟩
  case round =>
    obtain ⟨k, hk, rfl, hown, hb⟩ := hrel
    have hsz := hb.size
    by_cases hlt : k < (t.lvs []).length
    · obtain ⟨x, hx⟩ : ∃ x, (t.lvs [])[k]? = some x := ⟨_, List.getElem?_eq_getElem hlt⟩
      obtain ⟨b, off, rfl, hbB, hc⟩ := l3 (by intro e; rw [e] at hlt; simp at hlt)
      obtain ⟨cs, ⟨A7, c7, rfl, _, hok⟩, _, hu⟩ := hc k _ hx
      have e0 : wr.cell? ⟨b, off + k * 5 + 1, none⟩ = some (.int .i64 x.2.dc) := (hb.cell hbB).trans (hu 1 _ rfl)
      have e1 : wr.cell? ⟨b, off + k * 5 + 2, none⟩ = some (.int .i64 x.2.n) := (hb.cell hbB).trans (hu 2 _ rfl)
      have HX : Hid (((t.lvs []).take (k + 1)).map (fun x => x.2.dot) = ((t.lvs []).take k).map (fun x => x.2.dot) ++ [x.2.dot]) := by
        unfold Hid; rw [List.take_add_one, hx]; simp
      have HL : Hid ((((t.lvs []).take k).map (fun x => x.2.dot)).length + [x.2.dot].length ≤ Few) := by unfold Hid Few; simp; omega
      have JN : Hid (DtE x.2.dot [.int .i64 x.2.dc, .int .i64 x.2.n]) := ⟨rfl, hok.dc, hok.n⟩
      clear hu hx hc l3 hok
      go_wp2_with (at_builtin; with_reducible refine wpList_few rfl (.tmp 13) (.tmp 20) _ rfl eiDot (by decide) (by decide) (fun _ _ h => h.one) rfl (hown.alloc _) rfl (SlP.one JN.out rfl _ rfl) HL.out (by rw [World.size_alloc]; omega) ?_; intro v1 w2 hown1 hb2 _)
      go_roundw
      case rel => exact ⟨k + 1, by omega, by go_num, by rw [HX.out]; exact hown1, (hb.alloc (by omega) _).trans hb2⟩
      case measure => simp [intOf]; omega
    · obtain rfl : k = (t.lvs []).length := by omega
      rw [List.take_of_length_le (Nat.le_refl _), hld.out] at hown
      have sown := hown.sl (by unfold Big; omega)
      clear hown
      go_wp2_with fail
      refine (r07of_any t.dots _ wr sown (by omega) hR).mono ?_
      rintro e w3 ⟨v3, rfl, hv3, hb3⟩
      go_wp2_with fail
      go_ret
      exact ⟨v3, rfl, hv3.mono (by omega), (hB1.trans (hb.mono (by omega))).trans (hb3.mono (by omega))⟩
end Go.Proofs.Ytdmhfiofgioihaa

namespace Go.Proofs.Ytdmhfiofgioihaa
open Go.RowKit
set_option maxRecDepth 100000

/-- The longest path. -/
def deepL (l : List Lf) : Nat := (l.map fun x => x.1.length).sum
theorem deepL_le {l : List Lf} {x : Lf} (h : x ∈ l) : x.1.length ≤ deepL l := by
  unfold deepL
  induction l with
  | nil => cases h
  | cons y l ih =>
    rw [List.map_cons, List.sum_cons]
    rcases List.mem_cons.1 h with rfl | h
    · omega
    · have := ih h; omega
def buildL (l : List Lf) : Tr := buildT (deepL l) l
def getL (l : List Lf) (p : List ByteArray) : List Lf := p.foldl underL l
def getT (t : Tr) (p : List ByteArray) : Tr := buildL (getL (t.lvs []) p)
theorem getL_take {l : List Lf} {p : List ByteArray} {k : Nat} {x : ByteArray} (h : p[k]? = some x) : getL l (p.take (k + 1)) = underL (getL l (p.take k)) x := by
  unfold getL; rw [List.take_add_one, h, List.foldl_append]; rfl
theorem getL_len (l : List Lf) (p : List ByteArray) : (getL l p).length ≤ l.length := by
  unfold getL
  induction p generalizing l with
  | nil => exact Nat.le_refl _
  | cons x p ih => exact Nat.le_trans (ih _) (underL_len l x)

theorem box_tree {w : World} {g : Nat} {t : Tr} {ok : Nat → Prop} {ve vk x y : Value} {e : TypeId} (hbx : w.heap[g]? = some (.cells #[x, y] e (0, 0))) (h : t.rda w ok ve vk) (hne : ∀ b, ok b → b ≠ g) :
    ((w.setCell ⟨g, 0, none⟩ ve).setCell ⟨g, 1, none⟩ vk).cell? ⟨g, 0, none⟩ = some ve ∧ ((w.setCell ⟨g, 0, none⟩ ve).setCell ⟨g, 1, none⟩ vk).cell? ⟨g, 1, none⟩ = some vk ∧
      t.rda ((w.setCell ⟨g, 0, none⟩ ve).setCell ⟨g, 1, none⟩ vk) ok ve vk ∧ ((w.setCell ⟨g, 0, none⟩ ve).setCell ⟨g, 1, none⟩ vk).heap.size = w.heap.size := by
  have hW := cells_set (i := 1) (cells_set (i := 0) hbx ve) vk
  refine ⟨(cell_cells (i := 0) hW).trans (by simp), (cell_cells (i := 1) hW).trans (by simp), rda_up (fun b hb => ?_) (fun _ hb => hb) _ _ _ h, by simp [World.setCell]⟩
  exact (Below.heap_setCell _ _ _ _ (hne b hb)).trans (Below.heap_setCell _ _ _ _ (hne b hb))
/-- The call hands back a tree in blocks of its own. -/
def RetT (w : World) (t : Tr) (e : Ending) (w' : World) : Prop :=
  ∃ ve vk, e = .returned (.agg #[ve, vk]) ∧ t.rda w' (fun b => w.heap.size ≤ b ∧ b < w'.heap.size) ve vk ∧ Below w.heap.size w w'
theorem r08buildL_any (l : List Lf) (vl : Value) (w : World) (h : SlP w w.heap.size 5 (LfA w (fun b => b < w.heap.size)) vl l) (hN : l.length ≤ 900000) :
    Calls Try.prog 45 #[vl] w (RetT w (buildL l)) := r08build_any _ l vl w (fun _ hx => deepL_le hx) h hN

set_option maxHeartbeats 4000000 in
theorem r08get_any (t : Tr) (p : List ByteArray) (w : World) (ve vk vp : Value) (h : t.rd w w.heap.size ve vk) (hp : SlP w w.heap.size 1 StE vp p) (hN : t.sz ≤ 100000) :
    Calls Try.prog 38 #[.agg #[ve, vk], vp] w (RetT w (getT t p)) := by
  obtain ⟨A3, n3, A4, n4, rfl, rfl⟩ := rd_shape h
  obtain ⟨A, c, rfl, p1, p2, p3⟩ := hp
  unfold Big at p2
  have hb0 : Below w.heap.size w ((w.alloc (.cells #[.slice A3 t.es.length n3, .slice A4 t.ks.length n4] 25)).alloc (.cells #[.slice none 0 0, .slice none 0 0] 25)) := ((Below.refl _ w).alloc (Nat.le_refl _) _).alloc (by simp) _
  have hll : Hid ((t.lvs []).length ≤ 100000) := Nat.le_trans (lvs_len t []) hN
  have HG : Hid (getT t p = buildL (getL (t.lvs []) p)) := rfl
  go_enter Try.func38, Try.ntmps38
  go_wp2_with (go_at_call 35; refine (r08leaves_any t _ _ _ (rd_below hb0 (by simp; omega) _ _ _ h) hN).mono ?_; rintro e w1 ⟨vl, rfl, hl, hb1⟩)
  have hs1 := hb1.size
  simp only [World.size_alloc] at hs1
  have hbb := hid ((hb1.block (w.heap.size + 1) (by simp)).trans (heap_new (w := w.alloc (.cells #[.slice A3 t.es.length n3, .slice A4 t.ks.length n4] 25)) (by simp)))
  have HL0 : Hid (SlP w1 w1.heap.size 5 (LfA w1 (fun b => b < w1.heap.size)) vl (t.lvs [])) := (hl.sl LfA.mon (by have := hll.out; unfold Big; omega)).imp (Below.refl _ _) (Nat.le_refl _) (fun _ _ _ hx => LfA.mon.up (fun _ _ => rfl) (fun b hb => hb.2) hx)
  have hB1 : Below w.heap.size w w1 := hb0.trans (hb1.mono (by simp; omega))
  clear hl hb1 hb0
  go_loopw [5, 11] (fun v i wr => ∃ k : Nat, k ≤ p.length ∧ i = .int .i64 k ∧ Hid (SlP wr wr.heap.size 5 (LfA wr (fun b => b < wr.heap.size)) v (getL (t.lvs []) (p.take k))) ∧ Below w1.heap.size w1 wr) (fun _ i _ => p.length - (intOf i).toNat)
  case atStart => exact ⟨0, Nat.zero_le _, rfl, HL0, Below.refl _ _⟩
  case round =>
    obtain ⟨k, hk, rfl, HS, hb⟩ := hrel
    have hsz := hb.size
    have hB : Below w.heap.size w wr := hB1.trans (hb.mono (by omega))
    have HLN : Hid ((getL (t.lvs []) (p.take k)).length ≤ 100000) := Nat.le_trans (getL_len _ _) hll.out
    by_cases hlt : k < p.length
    · obtain ⟨x, hx⟩ : ∃ x, p[k]? = some x := ⟨_, List.getElem?_eq_getElem hlt⟩
      obtain ⟨b, off, rfl, hbB, hc⟩ := p3 (by rintro rfl; simp at hlt)
      obtain ⟨cs, ⟨rfl, hok⟩, _, hu⟩ := hc k _ hx
      have e0 : wr.cell? ⟨b, off + k, none⟩ = some (.string x) := (hB.cell (p := ⟨b, off + k, none⟩) hbB).trans (by simpa using hu 0 _ rfl)
      have HX : Hid (getL (t.lvs []) (p.take (k + 1)) = underL (getL (t.lvs []) (p.take k)) x) := getL_take hx
      clear hu hc p3 hx
      go_wp2_with (go_at_call 64; refine (r08under_any _ x (fun _ => True) _ _ (HS.out.imp (Below.refl _ _) (Nat.le_refl _) (fun _ _ _ hx => LfA.mon.up (fun _ _ => rfl) (fun b hb => ⟨trivial, hb⟩) hx)) (by have := HLN.out; omega)).mono ?_; rintro e w2 ⟨vU, rfl, hU, hb2⟩)
      go_roundw
      case rel => exact ⟨k + 1, by omega, by go_num, by rw [HX.out]; exact (hU.sl LfA.mon (by have := HLN.out; have := underL_len (getL (t.lvs []) (p.take k)) x; unfold Big; omega)).imp (Below.refl _ _) (Nat.le_refl _) (fun _ _ _ hx => LfA.mon.up (fun _ _ => rfl) (fun b hb => hb.2) hx), hb.trans (hb2.mono hsz)⟩
      case measure => simp [intOf]; omega
    · obtain rfl : k = p.length := by omega
      rw [List.take_of_length_le (Nat.le_refl _)] at HS HLN
      clear p3
      go_wp2_with (go_at_call 45; refine (r08buildL_any _ _ _ HS.out (by have := HLN.out; omega)).mono ?_; rintro e w2 ⟨ve2, vk2, rfl, hrd, hb2⟩; obtain ⟨Av, nv, Aw, nw, rfl, rfl⟩ := rda_shape hrd; have hbx := hid ((hb2.block (w.heap.size + 1) (by omega)).trans ((hb.block _ (by omega)).trans hbb.out)); have d0 : w2.cell? ⟨w.heap.size + 1, 0, none⟩ = some (.slice none 0 0) := cell_cells (i := 0) hbx.out; have d1 : w2.cell? ⟨w.heap.size + 1, 1, none⟩ = some (.slice none 0 0) := cell_cells (i := 1) hbx.out; have z0 := cells_frz (i := 0) hbx.out; have z1 := cells_frz (i := 1) hbx.out)
      obtain ⟨r0, r1, hrW, hsW⟩ := box_tree hbx.out hrd (fun b hb => by have := hb.1; omega)
      have hBW : Below w.heap.size w ((w2.setCell ⟨w.heap.size + 1, 0, none⟩ (.slice Av (buildL (getL (t.lvs []) p)).es.length nv)).setCell ⟨w.heap.size + 1, 1, none⟩ (.slice Aw (buildL (getL (t.lvs []) p)).ks.length nw)) := ((hB.trans (hb2.mono (by omega))).setCell (by simp) _).setCell (by simp) _
      refine bodyPost_ret (v := .agg #[.slice Av (buildL (getL (t.lvs []) p)).es.length nv, .slice Aw (buildL (getL (t.lvs []) p)).ks.length nw]) (by simp [results, Try.results38, go_sem, r0, r1]) rfl ⟨_, _, rfl, ?_, hBW⟩
      exact rda_up (fun _ _ => rfl) (fun b hb => ⟨by have := hb.1; omega, by rw [hsW]; exact hb.2⟩) _ _ _ hrW
end Go.Proofs.Ytdmhfiofgioihaa

namespace Go.Proofs.Ytdmhfiofgioihaa
open Go.RowKit
set_option maxRecDepth 100000

theorem entsB_mem : ∀ (es : List En) (p : Option Dt), entsB p es = true → ∀ e ∈ es, e.right = true
  | [], _, _, _, h => by cases h
  | e :: es, p, h, x, hx => by
    rw [entsB_cons] at h
    simp only [Bool.and_eq_true] at h
    rcases List.mem_cons.1 hx with rfl | hx
    · exact h.1.1
    · exact entsB_mem es _ h.2 x hx
theorem rightL_mem : ∀ (ks : List Kd) (p : Option ByteArray) (deep : Int), Tr.rightL p ks deep = true → ∀ k t, (k, t) ∈ ks → t.right (deep - 1) = true
  | [], _, _, _, _, _, h => by cases h
  | (k', t') :: ks, p, deep, h, k, t, hk => by
    rw [rightL_cons] at h
    simp only [Bool.and_eq_true] at h
    rcases List.mem_cons.1 hk with e | hk
    · cases e; exact h.1.2
    · exact rightL_mem ks _ deep h.2 k t hk
theorem dotsL_mem : ∀ (ks : List Kd) (x : Dt), x ∈ Tr.dotsL ks → ∃ k t, (k, t) ∈ ks ∧ x ∈ t.dots
  | [], x, h => by rw [Tr.dotsL] at h; cases h
  | (k, t) :: ks, x, h => by
    rw [Tr.dotsL] at h
    rcases List.mem_append.1 h with h | h
    · exact ⟨k, t, by simp, h⟩
    · obtain ⟨k', t', h1, h2⟩ := dotsL_mem ks x h
      exact ⟨k', t', by simp [h1], h2⟩
theorem right_dots (t : Tr) : ∀ (deep : Int), t.right deep = true → ∀ x ∈ t.dots, x.right = true := by
  induction t using Tr.ind with
  | h es ks ih =>
    intro deep h x hx
    rw [Tr.right] at h
    simp only [Bool.and_eq_true] at h
    rw [Tr.dots] at hx
    rcases List.mem_append.1 hx with hx | hx
    · obtain ⟨e, he, rfl⟩ := List.mem_map.1 hx
      have := entsB_mem es none h.1.2 e he
      simp [En.right] at this
      exact this.1
    · obtain ⟨k, t, hk, hx⟩ := dotsL_mem ks x hx
      exact ih k t hk (deep - 1) (rightL_mem ks none deep h.2 k t hk) x hx
theorem right_nums {t : Tr} {deep : Int} (h : t.right deep = true) : ∀ d ∈ t.dots, 0 ≤ d.n ∧ d.n ≤ 1099511627778 := fun d hd => by
  have := right_dots t deep h d hd
  simp [Dt.right] at this
  omega

def chkT (t : Tr) (d : Dt) : Bool := t.right 5 && d.right && !hasC (ctxOf t.dots) d
set_option maxHeartbeats 4000000 in
theorem r10check_any (t : Tr) (d : Dt) (ve vk : Value) (w : World) (h : t.rd w w.heap.size ve vk) (hN : t.sz ≤ 90000) :
    Calls Try.prog 9 #[.agg #[ve, vk], .agg #[.int .i64 d.dc, .int .i64 d.n]] w fun e w' => e = .returned (.bool (chkT t d)) ∧ Below w.heap.size w w' := by
  obtain ⟨A3, n3, A4, n4, rfl, rfl⟩ := rd_shape h
  have HB : Hid (∀ w', Below (w.heap.size + 1 + 1) ((w.alloc (.cells #[.slice A3 t.es.length n3, .slice A4 t.ks.length n4] 25)).alloc (.cells #[.int .i64 d.dc, .int .i64 d.n] 27)) w' → Below w.heap.size w w' ∧ (w'.cell? ⟨w.heap.size, 0, none⟩ = some (.slice A3 t.es.length n3) ∧ w'.cell? ⟨w.heap.size, 1, none⟩ = some (.slice A4 t.ks.length n4) ∧ w'.cell? ⟨w.heap.size + 1, 0, none⟩ = some (.int .i64 d.dc) ∧ w'.cell? ⟨w.heap.size + 1, 1, none⟩ = some (.int .i64 d.n)) ∧ t.rd w' w'.heap.size (.slice A3 t.es.length n3) (.slice A4 t.ks.length n4)) := fun w' hb => by
    have hB : Below w.heap.size w w' := (((Below.refl _ w).alloc (Nat.le_refl _) _).alloc (by simp) _).trans (hb.mono (by omega))
    refine ⟨hB, ⟨?_, ?_, ?_, ?_⟩, rd_below hB hB.size _ _ _ h⟩
    · rw [hb.cell (p := ⟨w.heap.size, 0, none⟩) (by simp; omega), World.cell?_alloc_past _ _ _ (by simp), World.cell?_alloc_new]; rfl
    · rw [hb.cell (p := ⟨w.heap.size, 1, none⟩) (by simp; omega), World.cell?_alloc_past _ _ _ (by simp), World.cell?_alloc_new]; rfl
    · rw [hb.cell (p := ⟨w.heap.size + 1, 0, none⟩) (by simp), World.cell?_alloc_at _ _ _ _ (by simp)]; rfl
    · rw [hb.cell (p := ⟨w.heap.size + 1, 1, none⟩) (by simp), World.cell?_alloc_at _ _ _ _ (by simp)]; rfl
  have hw0 := HB.out _ (Below.refl _ _)
  have f0 := far_cell (B := w.heap.size + 1 + 1) hw0.2.1.1 (by omega)
  have f1 := far_cell (B := w.heap.size + 1 + 1) hw0.2.1.2.1 (by omega)
  have f2 := far_cell (B := w.heap.size + 1 + 1) hw0.2.1.2.2.1 (by omega)
  have f3 := far_cell (B := w.heap.size + 1 + 1) hw0.2.1.2.2.2 (by omega)
  clear hw0
  go_enter Try.func9, Try.ntmps9
  rcases hr : t.right 5
  · go_upto_region 1 with (fail)
    refine wp_region_far (w.heap.size + 1 + 1) (by kernel_rfl) (by kernel_rfl) ?_
    repeat (go_big_quiet_step ((go_at_call 15; exact Calls.far_all (by simp) (fun w' hb' => hr ▸ r08Right_any t w' _ _ (HB.out w' hb').2.2))))
    refine wpQuiet_nil ?_
    intro wq hbq
    go_wp2_with fail
    go_ret
    exact ⟨ret_bool (by rw [chkT, hr]; rfl), (HB.out _ hbq).1⟩
  rcases hd : d.right
  · go_upto_region 1 with (fail)
    refine wp_region_far (w.heap.size + 1 + 1) (by kernel_rfl) (by kernel_rfl) ?_
    repeat (go_big_quiet_step (first | (go_at_call 15; exact Calls.far_all (by simp) (fun w' hb' => hr ▸ r08Right_any t w' _ _ (HB.out w' hb').2.2)) | (go_at_call 29; exact Calls.far_of (by simp) (hd ▸ r05right_any d _))))
    refine wpQuiet_nil ?_
    intro wq hbq
    go_wp2_with fail
    go_ret
    exact ⟨ret_bool (by rw [chkT, hr, hd]; rfl), (HB.out _ hbq).1⟩
  · have HR := hid (right_nums hr)
    have HLC : Hid ((ctxOf t.dots).length ≤ 999999) := by have := ctxOfK_len t.dots 4; have := dots_len t; unfold Hid ctxOf; omega
    go_upto_region 1 with (fail)
    go_region_held3 (fun w' => w'.cell? ⟨w.heap.size, 0, none⟩ = some (.slice A3 t.es.length n3) ∧ w'.cell? ⟨w.heap.size, 1, none⟩ = some (.slice A4 t.ks.length n4) ∧ w'.cell? ⟨w.heap.size + 1, 0, none⟩ = some (.int .i64 d.dc) ∧ w'.cell? ⟨w.heap.size + 1, 1, none⟩ = some (.int .i64 d.n))
      (first | go_keep | exact (HB.out _ hb4).2.1 | exact (HB.out _ hb3).2.1 | exact (HB.out _ hb2).2.1 | exact (HB.out _ hb1).2.1)
      (first | (go_at_call 15; go_loud ((refine (r08Right_any t _ _ _ (HB.out _ ((Below.refl _ _).drew)).2.2).mono ?_); rw [hr]; rintro e w1 ⟨rfl, hb⟩; have hb1 := ((Below.refl (w.heap.size + 1 + 1) ((w.alloc (.cells #[.slice A3 t.es.length n3, .slice A4 t.ks.length n4] 25)).alloc (.cells #[.int .i64 d.dc, .int .i64 d.n] 27))).drew).trans (hb.mono (by simp))))
             | (go_at_call 29; go_loud ((refine (r05right_any d w1).mono ?_); rw [hd]; rintro e w2 ⟨rfl, hb⟩; have hb2 := hb1.trans (hb.mono (by have := hb1.size; simpa using this))))
             | (go_at_call 12; go_loud ((refine (r08dots_any t w2 _ _ (HB.out _ hb2).2.2 hN HR.out).mono ?_); rintro e w3 ⟨vd, rfl, ho, hb⟩; have hb3 := hb2.trans (hb.mono (by have := hb2.size; simpa using this)); have hsl := ho.sl (by have := HLC.out; unfold Big; omega)))
             | (go_at_call 30; go_loud ((refine (r07has_any (ctxOf t.dots) d _ w3 hsl HLC.out).mono ?_); rintro e w4 ⟨rfl, hb⟩; have hb4 := hb3.trans (hb.mono (by have := hb3.size; simpa using this)))))
    go_wp2_with fail
    go_ret
    exact ⟨ret_bool (by rw [chkT, hr, hd]; rfl), (HB.out _ hb4).1⟩
end Go.Proofs.Ytdmhfiofgioihaa

namespace Go.Proofs.Ytdmhfiofgioihaa
open Go.RowKit
set_option maxRecDepth 100000

theorem rda_nil (w : World) (ok : Nat → Prop) : (Tr.mk [] []).rda w ok (.slice none 0 0) (.slice none 0 0) := by
  rw [rda_iff]
  exact ⟨⟨none, 0, rfl, Nat.le_refl _, by simp, fun h => absurd rfl h⟩, ⟨none, 0, rfl, Nat.le_refl _, by simp, fun h => absurd rfl h⟩⟩
theorem box3 {w : World} {g : Nat} {x y z : Value} {e : TypeId} (hbx : w.heap[g]? = some (.cells #[x, y, z] e (0, 0))) (a b c : Value) :
    (((w.setCell ⟨g, 0, none⟩ a).setCell ⟨g, 1, none⟩ b).setCell ⟨g, 2, none⟩ c).cell? ⟨g, 0, none⟩ = some a ∧ (((w.setCell ⟨g, 0, none⟩ a).setCell ⟨g, 1, none⟩ b).setCell ⟨g, 2, none⟩ c).cell? ⟨g, 1, none⟩ = some b ∧ (((w.setCell ⟨g, 0, none⟩ a).setCell ⟨g, 1, none⟩ b).setCell ⟨g, 2, none⟩ c).cell? ⟨g, 2, none⟩ = some c ∧
      (∀ k, k ≠ g → (((w.setCell ⟨g, 0, none⟩ a).setCell ⟨g, 1, none⟩ b).setCell ⟨g, 2, none⟩ c).heap[k]? = w.heap[k]?) ∧ (((w.setCell ⟨g, 0, none⟩ a).setCell ⟨g, 1, none⟩ b).setCell ⟨g, 2, none⟩ c).heap.size = w.heap.size := by
  have hW := cells_set (i := 2) (cells_set (i := 1) (cells_set (i := 0) hbx a) b) c
  exact ⟨(cell_cells (i := 0) hW).trans (by simp), (cell_cells (i := 1) hW).trans (by simp), (cell_cells (i := 2) hW).trans (by simp),
    fun k hk => (Below.heap_setCell _ _ _ _ hk).trans ((Below.heap_setCell _ _ _ _ hk).trans (Below.heap_setCell _ _ _ _ hk)), by simp [World.setCell]⟩
/-- The call hands back what is known, in blocks of its own. -/
def RetC (w : World) (t : Tr) (c : List Sp) (e : Ending) (w' : World) : Prop :=
  ∃ ve vk vc, e = .returned (.agg #[ve, vk, vc]) ∧ t.rda w' (fun b => w.heap.size ≤ b ∧ b < w'.heap.size) ve vk ∧ SlA w' (fun b => w.heap.size ≤ b ∧ b < w'.heap.size) 3 SpE vc c ∧ Below w.heap.size w w'
set_option maxHeartbeats 4000000 in
theorem r10gone_any (d : Dt) (c : List Sp) (vc : Value) (w : World) (hd : d.Ok) (h : SlP w w.heap.size 3 SpE vc c) (hN : c.length ≤ 50000) (hR : SpsOk c) (hR' : SpsOk [⟨d.dc, d.n, d.n⟩]) :
    Calls Try.prog 11 #[.agg #[.int .i64 d.dc, .int .i64 d.n], vc] w (RetC w (.mk [] []) (ctxBy c [⟨d.dc, d.n, d.n⟩] 0)) := by
  have hb0 : Below w.heap.size w ((w.alloc (.cells #[.int .i64 d.dc, .int .i64 d.n] 27)).alloc (.cells #[.slice none 0 0, .slice none 0 0, .slice none 0 0] 33)) := ((Below.refl _ w).alloc (Nat.le_refl _) _).alloc (by simp) _
  obtain ⟨A, n, rfl, p1, p2, p3⟩ := h
  have hp : SlP w w.heap.size 3 SpE (.slice A c.length n) c := ⟨A, n, rfl, p1, p2, p3⟩
  go_enter Try.func11, Try.ntmps11
  go_wp2_with (first | (go_at_call 34; go_loud ((refine (r10one_any d _ hd).mono ?_); rintro e w1 ⟨v1, rfl, ho, hb1⟩; have hsl := ho.sl (by simp [Big]); obtain ⟨A1, c1, hv1⟩ := ho.shape; subst hv1; have hb1' := hb0.trans (hb1.mono (by simp; omega)); have hs1 := hb1.size; simp only [World.size_alloc] at hs1; have hg := (hb1.block (w.heap.size + 1) (by simp)).trans (heap_new (by simp)))) | (go_at_call 33; go_loud ((refine (r07union_any c [⟨d.dc, d.n, d.n⟩] _ _ w1 (hp.imp hb1' hb1'.size (fun _ _ _ h => h)) hsl hN (by simp) hR hR').mono ?_); rintro e w2 ⟨v2, rfl, ho2, hb2⟩; have hg2 := hid ((hb2.block (w.heap.size + 1) (by omega)).trans hg); obtain ⟨A2, c2, hv2⟩ := ho2.shape; subst hv2; have k0 : w2.cell? ⟨w.heap.size + 1, 0, none⟩ = some (.slice none 0 0) := cell_cells (i := 0) hg2.out; have k1 : w2.cell? ⟨w.heap.size + 1, 1, none⟩ = some (.slice none 0 0) := cell_cells (i := 1) hg2.out; have k2 : w2.cell? ⟨w.heap.size + 1, 2, none⟩ = some (.slice none 0 0) := cell_cells (i := 2) hg2.out; have z0 := cells_frz (i := 0) hg2.out; have z1 := cells_frz (i := 1) hg2.out; have z2 := cells_frz (i := 2) hg2.out)))
  obtain ⟨r0, r1, r2, hK, hS⟩ := box3 hg2.out (.slice none 0 0) (.slice none 0 0) (.slice A2 (ctxBy c [⟨d.dc, d.n, d.n⟩] 0).length c2)
  have hs2 := hb2.size
  have hBW := (((hb1'.trans (hb2.mono hb1'.size)).setCell (p := ⟨w.heap.size + 1, 0, none⟩) (by simp) (.slice none 0 0)).setCell (p := ⟨w.heap.size + 1, 1, none⟩) (by simp) (.slice none 0 0)).setCell (p := ⟨w.heap.size + 1, 2, none⟩) (by simp) (.slice A2 (ctxBy c [⟨d.dc, d.n, d.n⟩] 0).length c2)
  refine bodyPost_ret (v := .agg #[.slice none 0 0, .slice none 0 0, .slice A2 (ctxBy c [⟨d.dc, d.n, d.n⟩] 0).length c2]) (by simp [results, Try.results11, go_sem, r0, r1, r2]) rfl ⟨_, _, _, rfl, rda_nil _ _, ?_, hBW⟩
  refine (ho2.sla (by have := ctxByK_len c [⟨d.dc, d.n, d.n⟩] 0 4; unfold ctxBy Big; simp at this; omega)).up (fun b hb => hK b (by have := hb.1; omega)) (fun b hb => ⟨by have := hb.1; omega, by rw [hS]; exact hb.2.1⟩) (fun _ _ _ h => h)
end Go.Proofs.Ytdmhfiofgioihaa

namespace Go.Proofs.Ytdmhfiofgioihaa
open Go.RowKit
set_option maxRecDepth 100000

theorem leaf_one {w : World} {p : List ByteArray} {x : En} {A : Option Addr} {c : Nat} {okq : Nat → Prop} {B : Nat} (h : SlP w w.heap.size 1 StE (.slice A p.length c) p) (hx : x.Ok) (hok : ∀ b, b < w.heap.size → okq b) (e : TypeId) (hB : w.heap.size < B) :
    SlP (w.alloc (.cells #[.slice A p.length c, .int .i64 x.dc, .int .i64 x.n, .string x.s, .int .i64 x.v] e)) B 5 (LfA (w.alloc (.cells #[.slice A p.length c, .int .i64 x.dc, .int .i64 x.n, .string x.s, .int .i64 x.v] e)) okq) (.slice (some ⟨w.heap.size, 0, none⟩) 1 1) [(p, x)] :=
  SlP.oneB (x := (p, x)) (cs := [.slice A p.length c, .int .i64 x.dc, .int .i64 x.n, .string x.s, .int .i64 x.v]) ⟨A, c, rfl, (SlP_iff.1 h).up (fun _ hb => heap_old hb) (fun b hb => hok b hb) (fun _ _ _ h => h), hx⟩ rfl e rfl hB

set_option maxHeartbeats 4000000 in
theorem r10put_any (p : List ByteArray) (x : En) (c : List Sp) (vp vc : Value) (w : World) (hx : x.Ok) (hp : SlP w w.heap.size 1 StE vp p) (h : SlP w w.heap.size 3 SpE vc c) (hN : c.length ≤ 50000) (hR : SpsOk c) (hR' : SpsOk [⟨x.dc, x.n, x.n⟩]) :
    Calls Try.prog 25 #[vp, .agg #[.int .i64 x.dc, .int .i64 x.n, .string x.s, .int .i64 x.v], vc] w (RetC w (buildL [(p, x)]) (ctxBy c [⟨x.dc, x.n, x.n⟩] 0)) := by
  obtain ⟨Ap, cp, rfl, q1, q2, q3⟩ := hp
  have hp : SlP w w.heap.size 1 StE (.slice Ap p.length cp) p := ⟨Ap, cp, rfl, q1, q2, q3⟩
  obtain ⟨A, n, rfl, p1, p2, p3⟩ := h
  have h : SlP w w.heap.size 3 SpE (.slice A c.length n) c := ⟨A, n, rfl, p1, p2, p3⟩
  have HB : Hid (∀ w', Below (w.heap.size + 1 + 1) ((w.alloc (.cells #[.int .i64 x.dc, .int .i64 x.n, .string x.s, .int .i64 x.v] 46)).alloc (.cells #[.slice none 0 0, .slice none 0 0, .slice none 0 0] 33)) w' → Below w.heap.size w w' ∧ (w'.cell? ⟨w.heap.size, 0, none⟩ = some (.int .i64 x.dc) ∧ w'.cell? ⟨w.heap.size, 1, none⟩ = some (.int .i64 x.n) ∧ w'.cell? ⟨w.heap.size, 2, none⟩ = some (.string x.s) ∧ w'.cell? ⟨w.heap.size, 3, none⟩ = some (.int .i64 x.v)) ∧ w'.heap[w.heap.size + 1]? = some (.cells #[.slice none 0 0, .slice none 0 0, .slice none 0 0] 33 (0, 0)) ∧ SlP w' w'.heap.size 1 StE (.slice Ap p.length cp) p ∧ SlP w' w'.heap.size 3 SpE (.slice A c.length n) c ∧ w.heap.size + 1 + 1 ≤ w'.heap.size) := fun w' hb => by
    have hB : Below w.heap.size w w' := (((Below.refl _ w).alloc (Nat.le_refl _) _).alloc (by simp) _).trans (hb.mono (by omega))
    refine ⟨hB, ⟨?_, ?_, ?_, ?_⟩, ?_, hp.imp hB hB.size (fun _ _ _ h => h), h.imp hB hB.size (fun _ _ _ h => h), by have := hb.size; simpa using this⟩
    · rw [hb.cell (p := ⟨w.heap.size, 0, none⟩) (by simp; omega), World.cell?_alloc_past _ _ _ (by simp), World.cell?_alloc_new]; rfl
    · rw [hb.cell (p := ⟨w.heap.size, 1, none⟩) (by simp; omega), World.cell?_alloc_past _ _ _ (by simp), World.cell?_alloc_new]; rfl
    · rw [hb.cell (p := ⟨w.heap.size, 2, none⟩) (by simp; omega), World.cell?_alloc_past _ _ _ (by simp), World.cell?_alloc_new]; rfl
    · rw [hb.cell (p := ⟨w.heap.size, 3, none⟩) (by simp; omega), World.cell?_alloc_past _ _ _ (by simp), World.cell?_alloc_new]; rfl
    · exact (hb.block (w.heap.size + 1) (by omega)).trans (heap_new (by simp))
  have HLC : Hid ((ctxBy c [⟨x.dc, x.n, x.n⟩] 0).length ≤ Big) := by have := ctxByK_len c [⟨x.dc, x.n, x.n⟩] 0 4; unfold Hid ctxBy Big; simp at this; omega
  have HX := hid hx
  have hb00 : Below (w.heap.size + 1 + 1) ((w.alloc (.cells #[.int .i64 x.dc, .int .i64 x.n, .string x.s, .int .i64 x.v] 46)).alloc (.cells #[.slice none 0 0, .slice none 0 0, .slice none 0 0] 33)) (World.drew ((w.alloc (.cells #[.int .i64 x.dc, .int .i64 x.n, .string x.s, .int .i64 x.v] 46)).alloc (.cells #[.slice none 0 0, .slice none 0 0, .slice none 0 0] 33))) := (Below.refl _ _).drew
  have HLF : Hid (Calls Try.prog 45 #[.slice (some ⟨w.heap.size + 1 + 1, 0, none⟩) 1 1] ((World.drew ((w.alloc (.cells #[.int .i64 x.dc, .int .i64 x.n, .string x.s, .int .i64 x.v] 46)).alloc (.cells #[.slice none 0 0, .slice none 0 0, .slice none 0 0] 33))).alloc (.cells #[.slice Ap p.length cp, .int .i64 x.dc, .int .i64 x.n, .string x.s, .int .i64 x.v] 60)) (RetT ((World.drew ((w.alloc (.cells #[.int .i64 x.dc, .int .i64 x.n, .string x.s, .int .i64 x.v] 46)).alloc (.cells #[.slice none 0 0, .slice none 0 0, .slice none 0 0] 33))).alloc (.cells #[.slice Ap p.length cp, .int .i64 x.dc, .int .i64 x.n, .string x.s, .int .i64 x.v] 60)) (buildL [(p, x)]))) :=
    r08buildL_any [(p, x)] _ _ (by
      have := leaf_one (w := World.drew ((w.alloc (.cells #[.int .i64 x.dc, .int .i64 x.n, .string x.s, .int .i64 x.v] 46)).alloc (.cells #[.slice none 0 0, .slice none 0 0, .slice none 0 0] 33))) (okq := fun b => b < ((World.drew ((w.alloc (.cells #[.int .i64 x.dc, .int .i64 x.n, .string x.s, .int .i64 x.v] 46)).alloc (.cells #[.slice none 0 0, .slice none 0 0, .slice none 0 0] 33))).alloc (.cells #[.slice Ap p.length cp, .int .i64 x.dc, .int .i64 x.n, .string x.s, .int .i64 x.v] 60)).heap.size) (B := ((World.drew ((w.alloc (.cells #[.int .i64 x.dc, .int .i64 x.n, .string x.s, .int .i64 x.v] 46)).alloc (.cells #[.slice none 0 0, .slice none 0 0, .slice none 0 0] 33))).alloc (.cells #[.slice Ap p.length cp, .int .i64 x.dc, .int .i64 x.n, .string x.s, .int .i64 x.v] 60)).heap.size) (HB.out _ hb00).2.2.2.1 hx (fun b hb => by rw [World.size_alloc]; exact Nat.lt_succ_of_lt hb) 60 (by rw [World.size_alloc]; exact Nat.lt_succ_self _)
      simpa using this) (by simp)
  have HB1 : Hid (∀ w1, Below ((World.drew ((w.alloc (.cells #[.int .i64 x.dc, .int .i64 x.n, .string x.s, .int .i64 x.v] 46)).alloc (.cells #[.slice none 0 0, .slice none 0 0, .slice none 0 0] 33))).alloc (.cells #[.slice Ap p.length cp, .int .i64 x.dc, .int .i64 x.n, .string x.s, .int .i64 x.v] 60)).heap.size ((World.drew ((w.alloc (.cells #[.int .i64 x.dc, .int .i64 x.n, .string x.s, .int .i64 x.v] 46)).alloc (.cells #[.slice none 0 0, .slice none 0 0, .slice none 0 0] 33))).alloc (.cells #[.slice Ap p.length cp, .int .i64 x.dc, .int .i64 x.n, .string x.s, .int .i64 x.v] 60)) w1 → Below (w.heap.size + 1 + 1) ((w.alloc (.cells #[.int .i64 x.dc, .int .i64 x.n, .string x.s, .int .i64 x.v] 46)).alloc (.cells #[.slice none 0 0, .slice none 0 0, .slice none 0 0] 33)) w1) := fun w1 hb => (hb00.alloc (by simp) _).trans (hb.mono (by simp))
  clear h hp q3 p3 hx hb00
  go_enter Try.func25, Try.ntmps25
  go_upto_region 1 with (fail)
  go_region_held3 (fun w' => w'.cell? ⟨w.heap.size, 0, none⟩ = some (.int .i64 x.dc) ∧ w'.cell? ⟨w.heap.size, 1, none⟩ = some (.int .i64 x.n) ∧ w'.cell? ⟨w.heap.size, 2, none⟩ = some (.string x.s) ∧ w'.cell? ⟨w.heap.size, 3, none⟩ = some (.int .i64 x.v))
    (first | go_keep | exact (HB.out _ hb3.out).2.1 | exact (HB.out _ hb2.out).2.1 | exact (HB.out _ hb1.out).2.1)
    (first | (go_at_call 45; go_loud ((refine HLF.out.mono ?_); rintro e w1 ⟨ve1, vk1, rfl, hrd, hb⟩; obtain ⟨Av, nv, Aw, nw, hv1, hv2⟩ := rda_shape hrd; subst hv1; subst hv2; have hb1 := hid (HB1.out w1 hb); have hbz := hid hb; clear hb))
           | (go_at_call 34; go_loud ((refine (r10one_any x.dot w1 ⟨HX.out.dc, HX.out.n⟩).mono ?_); rintro e w2 ⟨v2, rfl, ho2, hb⟩; have hsl := ho2.sl (by simp [Big]); obtain ⟨A2, c2, hv2⟩ := ho2.shape; subst hv2; have hbt := hid hb; have hb2 := hid (hb1.out.trans (hb.mono (HB.out _ hb1.out).2.2.2.2.2))))
           | (go_at_call 33; go_loud ((refine (r07union_any c [⟨x.dc, x.n, x.n⟩] _ _ w2 (HB.out _ hb2.out).2.2.2.2.1 hsl hN (by simp) hR hR').mono ?_); rintro e w3 ⟨v3, rfl, ho3, hb⟩; obtain ⟨A3, c3, hv3⟩ := ho3.shape; subst hv3; have hbu := hid hb; have hb3 := hid (hb2.out.trans (hb.mono (HB.out _ hb2.out).2.2.2.2.2)); have hg3 := hid (HB.out _ hb3.out).2.2.1; have k0 : w3.cell? ⟨w.heap.size + 1, 0, none⟩ = some (.slice none 0 0) := cell_cells (i := 0) hg3.out; have k1 : w3.cell? ⟨w.heap.size + 1, 1, none⟩ = some (.slice none 0 0) := cell_cells (i := 1) hg3.out; have k2 : w3.cell? ⟨w.heap.size + 1, 2, none⟩ = some (.slice none 0 0) := cell_cells (i := 2) hg3.out; have z0 := cells_frz (i := 0) hg3.out; have z1 := cells_frz (i := 1) hg3.out; have z2 := cells_frz (i := 2) hg3.out)))
  go_wp2_with fail
  obtain ⟨r0, r1, r2, hK, hS⟩ := box3 hg3.out (.slice Av (buildL [(p, x)]).es.length nv) (.slice Aw (buildL [(p, x)]).ks.length nw) (.slice A3 (ctxBy c [⟨x.dc, x.n, x.n⟩] 0).length c3)
  have hs1 := (HB.out _ hb1.out).2.2.2.2.2
  have hs2 := hbt.out.size
  have hs3 := hbu.out.size
  have hBW := ((((HB.out _ hb3.out).1.setCell (p := ⟨w.heap.size + 1, 0, none⟩) (by simp) (.slice Av (buildL [(p, x)]).es.length nv)).setCell (p := ⟨w.heap.size + 1, 1, none⟩) (by simp) (.slice Aw (buildL [(p, x)]).ks.length nw)).setCell (p := ⟨w.heap.size + 1, 2, none⟩) (by simp) (.slice A3 (ctxBy c [⟨x.dc, x.n, x.n⟩] 0).length c3))
  refine bodyPost_ret (v := .agg #[.slice Av (buildL [(p, x)]).es.length nv, .slice Aw (buildL [(p, x)]).ks.length nw, .slice A3 (ctxBy c [⟨x.dc, x.n, x.n⟩] 0).length c3]) (by simp [results, Try.results25, go_sem, r0, r1, r2]) rfl ⟨_, _, _, rfl, ?_, ?_, hBW⟩
  · refine rda_up (fun b hb => ?_) (fun b hb => ⟨by have := hb.1; simp only [World.size_alloc, World.size_drew] at this; omega, by rw [hS]; have := hb.2; omega⟩) _ _ _ hrd
    have h1 := hb.1
    simp only [World.size_alloc, World.size_drew] at h1
    have h2 := hb.2
    exact (hK b (by omega)).trans ((hbu.out.block b (by omega)).trans (hbt.out.block b h2))
  · exact (ho3.sla HLC.out).up (fun b hb => hK b (by have := hb.1; omega)) (fun b hb => ⟨by have := hb.1; omega, by rw [hS]; exact hb.2.1⟩) (fun _ _ _ h => h)
end Go.Proofs.Ytdmhfiofgioihaa

namespace Go.Proofs.Ytdmhfiofgioihaa
open Go.RowKit
set_option maxRecDepth 100000

theorem ltS_empty (a : ByteArray) : ltS a ByteArray.empty = false := by
  unfold ltS; rw [bytesLess_eq]; simp
theorem ltD_total {a b : Dt} (h : a.lt b = false) (k : b.lt a = false) : a = b := by
  obtain ⟨x, y⟩ := a
  obtain ⟨u, v⟩ := b
  unfold Dt.lt at h k
  split at h <;> split at k <;> simp at * <;> omega

/-- A tree in order. -/
inductive Tr.Ord : Tr → Prop
  | mk {es : List En} {ks : List Kd} (h1 : es.Pairwise fun a b => a.dot.lt b.dot = true) (h2 : ks.Pairwise fun a b => ltS a.1 b.1 = true) (h3 : ∀ k t, (k, t) ∈ ks → k ≠ ByteArray.empty ∧ t.empty = false) (h4 : ∀ k t, (k, t) ∈ ks → Tr.Ord t) : Tr.Ord (.mk es ks)

theorem ord_iff {es : List En} {ks : List Kd} : Tr.Ord (.mk es ks) ↔ (es.Pairwise fun a b => a.dot.lt b.dot = true) ∧ (ks.Pairwise fun a b => ltS a.1 b.1 = true) ∧ ∀ k t, (k, t) ∈ ks → k ≠ ByteArray.empty ∧ t.empty = false ∧ t.Ord :=
  ⟨fun h => by cases h with | mk h1 h2 h3 h4 => exact ⟨h1, h2, fun k t hm => ⟨(h3 k t hm).1, (h3 k t hm).2, h4 k t hm⟩⟩, fun h => .mk h.1 h.2.1 (fun k t hm => ⟨(h.2.2 k t hm).1, (h.2.2 k t hm).2.1⟩) fun k t hm => (h.2.2 k t hm).2.2⟩
theorem Ord.mk' {es : List En} {ks : List Kd} (h1 : es.Pairwise fun a b => a.dot.lt b.dot = true) (h2 : ks.Pairwise fun a b => ltS a.1 b.1 = true) (h3 : ∀ k t, (k, t) ∈ ks → k ≠ ByteArray.empty ∧ t.empty = false ∧ t.Ord) : Tr.Ord (.mk es ks) := ord_iff.2 ⟨h1, h2, h3⟩

theorem ents_pair : ∀ (es : List En) (p : Option Dt), entsB p es = true → (es.Pairwise fun a b => a.dot.lt b.dot = true) ∧ ∀ e ∈ es, okP p e.dot = true
  | [], _, _ => ⟨.nil, fun _ h => by cases h⟩
  | e :: es, p, h => by
    rw [entsB_cons, Bool.and_eq_true, Bool.and_eq_true] at h
    obtain ⟨h1, h2⟩ := ents_pair es _ h.2
    refine ⟨.cons (fun a ha => h2 a ha) h1, fun a ha => ?_⟩
    rcases List.mem_cons.1 ha with rfl | ha
    · exact h.1.2
    · exact okP_trans h.1.2 (h2 a ha)
theorem okK_trans {p : Option ByteArray} {a b : ByteArray} (h : okK p a = true) (k : ltS a b = true) : okK p b = true := by
  cases p with
  | none => rfl
  | some q => exact ltS_trans h k
theorem keyB_ne {k : ByteArray} (h : keyB k = true) : k ≠ ByteArray.empty := fun e => by
  subst e; simp [keyB] at h
theorem kids_pair (d : Int) : ∀ (ks : List Kd) (p : Option ByteArray), Tr.rightL p ks d = true → (ks.Pairwise fun a b => ltS a.1 b.1 = true) ∧ (∀ x ∈ ks, okK p x.1 = true) ∧ ∀ k t, (k, t) ∈ ks → k ≠ ByteArray.empty ∧ t.empty = false ∧ t.right (d - 1) = true
  | [], _, _ => ⟨.nil, fun _ h => (by cases h), fun _ _ h => by cases h⟩
  | (k, t) :: ks, p, h => by
    rw [rightL_cons, Bool.and_eq_true, Bool.and_eq_true, Bool.and_eq_true, Bool.and_eq_true] at h
    obtain ⟨⟨⟨⟨a1, a2⟩, a3⟩, a4⟩, a5⟩ := h
    obtain ⟨h1, h2, h3⟩ := kids_pair d ks _ a5
    refine ⟨.cons (fun a ha => h2 a ha) h1, fun a ha => ?_, fun k' t' hm => ?_⟩
    · rcases List.mem_cons.1 ha with rfl | ha
      · exact a2
      · exact okK_trans a2 (h2 a ha)
    · rcases List.mem_cons.1 hm with e | hm
      · cases e; exact ⟨keyB_ne a1, by simpa using a3, a4⟩
      · exact h3 k' t' hm
theorem right_ord : ∀ (t : Tr) (d : Int), t.right d = true → t.Ord := by
  intro t
  induction t using Tr.ind with
  | h es ks ih =>
  intro d h
  rw [Tr.right, Bool.and_eq_true, Bool.and_eq_true] at h
  obtain ⟨h1, h2, h3⟩ := kids_pair d ks none h.2
  exact Ord.mk' (ents_pair es none h.1.2).1 h1 fun k t hm => ⟨(h3 k t hm).1, (h3 k t hm).2.1, ih k t hm _ (h3 k t hm).2.2⟩

/-! the leaves of a tree -/
mutual
theorem lvs_pre : ∀ (t : Tr) (p q : List ByteArray), t.lvs (p ++ q) = (t.lvs q).map fun x => (p ++ x.1, x.2)
  | .mk es ks, p, q => by rw [Tr.lvs, Tr.lvs, List.map_append, List.map_map, lvsL_pre ks p q]; rfl
theorem lvsL_pre : ∀ (ks : List (ByteArray × Tr)) (p q : List ByteArray), Tr.lvsL ks (p ++ q) = (Tr.lvsL ks q).map fun x => (p ++ x.1, x.2)
  | [], p, q => rfl
  | (k, t) :: ks, p, q => by rw [Tr.lvsL, Tr.lvsL, List.map_append, lvsL_pre ks p q, List.append_assoc, lvs_pre t p (q ++ [k])]
end
theorem lvs_at (t : Tr) (p : List ByteArray) : t.lvs p = (t.lvs []).map fun x => (p ++ x.1, x.2) := by
  have := lvs_pre t p []; simpa using this
theorem mem_lvsL {ks : List Kd} {p : List ByteArray} {x : Lf} : x ∈ Tr.lvsL ks p ↔ ∃ k t, (k, t) ∈ ks ∧ x ∈ t.lvs (p ++ [k]) := by
  induction ks with
  | nil => simp [Tr.lvsL]
  | cons y ks ih =>
    obtain ⟨k, t⟩ := y
    rw [Tr.lvsL, List.mem_append, ih]
    constructor
    · rintro (h | ⟨k', t', hm, h⟩)
      · exact ⟨k, t, by simp, h⟩
      · exact ⟨k', t', by simp [hm], h⟩
    · rintro ⟨k', t', hm, h⟩
      rcases List.mem_cons.1 hm with e | hm
      · cases e; exact .inl h
      · exact .inr ⟨k', t', hm, h⟩
theorem mem_lvs {es : List En} {ks : List Kd} {x : Lf} : x ∈ (Tr.mk es ks).lvs [] ↔ (x.1 = [] ∧ x.2 ∈ es) ∨ ∃ k t qs, (k, t) ∈ ks ∧ x.1 = k :: qs ∧ (qs, x.2) ∈ t.lvs [] := by
  rw [Tr.lvs, List.mem_append, mem_lvsL]
  constructor
  · rintro (h | ⟨k, t, hm, h⟩)
    · obtain ⟨e, he, rfl⟩ := List.mem_map.1 h
      exact .inl ⟨rfl, he⟩
    · rw [lvs_at] at h
      obtain ⟨y, hy, rfl⟩ := List.mem_map.1 h
      exact .inr ⟨k, t, y.1, hm, rfl, hy⟩
  · obtain ⟨p, e⟩ := x
    rintro (⟨h1, h2⟩ | ⟨k, t, qs, hm, h1, h2⟩)
    · cases h1; exact .inl (List.mem_map.2 ⟨e, h2, rfl⟩)
    · cases h1; exact .inr ⟨k, t, hm, by rw [lvs_at]; exact List.mem_map.2 ⟨(qs, e), h2, rfl⟩⟩
theorem mem_nil {es : List En} {ks : List Kd} {e : En} : (([], e) : Lf) ∈ (Tr.mk es ks).lvs [] ↔ e ∈ es := by
  rw [mem_lvs]; simp
theorem mem_cons' {es : List En} {ks : List Kd} {e : En} {k : ByteArray} {qs : List ByteArray} : ((k :: qs, e) : Lf) ∈ (Tr.mk es ks).lvs [] ↔ ∃ t, (k, t) ∈ ks ∧ (qs, e) ∈ t.lvs [] := by
  rw [mem_lvs]
  constructor
  · rintro (⟨h, _⟩ | ⟨k', t, qs', hm, h, h2⟩)
    · cases h
    · cases h; exact ⟨t, hm, h2⟩
  · rintro ⟨t, hm, h⟩; exact .inr ⟨k, t, qs, hm, rfl, h⟩
/-- A tree in order that isn't empty has a leaf. -/
theorem ord_leaf : ∀ (t : Tr), t.Ord → t.empty = false → ∃ x, x ∈ t.lvs [] := by
  intro t
  induction t using Tr.ind with
  | h es ks ih =>
  intro h he
  obtain ⟨_, _, h3⟩ := ord_iff.1 h
  cases es with
  | cons e es => exact ⟨([], e), mem_nil.2 (by simp)⟩
  | nil =>
    cases ks with
    | nil => simp [Tr.empty] at he
    | cons y ks =>
      obtain ⟨k, t⟩ := y
      obtain ⟨x, hx⟩ := ih k t (by simp) (h3 k t (by simp)).2.2 (h3 k t (by simp)).2.1
      exact ⟨(k :: x.1, x.2), mem_cons'.2 ⟨t, by simp, hx⟩⟩
theorem sorted_ext {α : Type} {r : α → α → Bool} (hi : ∀ a, r a a = false) (ht : ∀ a b c, r a b = true → r b c = true → r a c = true) : ∀ {l m : List α}, (l.Pairwise fun a b => r a b = true) → (m.Pairwise fun a b => r a b = true) → (∀ x, x ∈ l ↔ x ∈ m) → l = m
  | [], [], _, _, _ => rfl
  | [], y :: m, _, _, h => by have := (h y).2 (by simp); cases this
  | x :: l, [], _, _, h => by have := (h x).1 (by simp); cases this
  | x :: l, y :: m, hl, hm, h => by
    rw [List.pairwise_cons] at hl hm
    have hxy : x = y := by
      rcases List.mem_cons.1 ((h x).1 (by simp)) with e | e
      · exact e
      · rcases List.mem_cons.1 ((h y).2 (by simp)) with e' | e'
        · exact e'.symm
        · have := ht _ _ _ (hl.1 y e') (hm.1 x e); rw [hi] at this; cases this
    subst hxy
    congr 1
    refine sorted_ext hi ht hl.2 hm.2 fun z => ?_
    constructor
    · intro hz
      rcases List.mem_cons.1 ((h z).1 (List.mem_cons_of_mem _ hz)) with e | e
      · subst e; have := hl.1 z hz; rw [hi] at this; cases this
      · exact e
    · intro hz
      rcases List.mem_cons.1 ((h z).2 (List.mem_cons_of_mem _ hz)) with e | e
      · subst e; have := hm.1 z hz; rw [hi] at this; cases this
      · exact e
theorem keys_one {ks : List Kd} (h : ks.Pairwise fun a b => ltS a.1 b.1 = true) {k : ByteArray} {s t : Tr} (hs : (k, s) ∈ ks) (ht : (k, t) ∈ ks) : s = t := by
  induction ks with
  | nil => cases hs
  | cons y ks ih =>
    rw [List.pairwise_cons] at h
    rcases List.mem_cons.1 hs with e | hs
    · rcases List.mem_cons.1 ht with e' | ht
      · rw [← e] at e'; cases e'; rfl
      · have := h.1 _ ht; rw [← e] at this; simp only [ltS_irrefl] at this; cases this
    · rcases List.mem_cons.1 ht with e' | ht
      · have := h.1 _ hs; rw [← e'] at this; simp only [ltS_irrefl] at this; cases this
      · exact ih h.2 hs ht
/-- Two trees in order that have the same leaves are the same. -/
theorem ord_ext : ∀ (s t : Tr), s.Ord → t.Ord → (∀ x, x ∈ s.lvs [] ↔ x ∈ t.lvs []) → s = t := by
  intro s
  induction s using Tr.ind with
  | h es ks ih =>
  intro t hs ht h
  obtain ⟨es', ks'⟩ := t
  obtain ⟨s1, s2, s3⟩ := ord_iff.1 hs
  obtain ⟨t1, t2, t3⟩ := ord_iff.1 ht
  have he : es = es' := sorted_ext (r := fun a b : En => a.dot.lt b.dot) (fun a => lt_irrefl' _) (fun _ _ _ => lt_trans') s1 t1 fun e => by
    rw [← mem_nil (ks := ks), ← mem_nil (ks := ks')]; exact h _
  have hk : ∀ k s, (k, s) ∈ ks → (k, s) ∈ ks' := fun k s hm => by
    obtain ⟨h1, h2, h3⟩ := s3 k s hm
    obtain ⟨x, hx⟩ := ord_leaf s h3 h2
    obtain ⟨u, hu, hxu⟩ := mem_cons'.1 ((h (k :: x.1, x.2)).1 (mem_cons'.2 ⟨s, hm, hx⟩))
    have : s = u := ih k s hm u h3 (t3 k u hu).2.2 fun y => by
      constructor
      · intro hy
        obtain ⟨v, hv, hyv⟩ := mem_cons'.1 ((h (k :: y.1, y.2)).1 (mem_cons'.2 ⟨s, hm, hy⟩))
        rw [keys_one t2 hu hv]; exact hyv
      · intro hy
        obtain ⟨v, hv, hyv⟩ := mem_cons'.1 ((h (k :: y.1, y.2)).2 (mem_cons'.2 ⟨u, hu, hy⟩))
        rw [keys_one s2 hm hv]; exact hyv
    rw [this]; exact hu
  have hk' : ∀ k u, (k, u) ∈ ks' → (k, u) ∈ ks := fun k u hm => by
    obtain ⟨h1, h2, h3⟩ := t3 k u hm
    obtain ⟨x, hx⟩ := ord_leaf u h3 h2
    obtain ⟨s, hs', _⟩ := mem_cons'.1 ((h (k :: x.1, x.2)).2 (mem_cons'.2 ⟨u, hm, hx⟩))
    have := keys_one t2 hm (hk k s hs')
    rw [this]; exact hs'
  have hkk : ks = ks' := sorted_ext (r := fun a b : Kd => ltS a.1 b.1) (fun a => ltS_irrefl _) (fun _ _ _ => ltS_trans) s2 t2 fun ⟨k, t⟩ => ⟨hk k t, hk' k t⟩
  rw [he, hkk]

/-! what Build takes -/
theorem selS_min (l : List Lf) (last : Option Dt) : ∀ (b : Option En), (∀ c, b = some c → ∃ e, l.foldl (selS last) b = some e ∧ c.dot.lt e.dot = false) ∧ ∀ x ∈ l, x.1 = [] → okP last x.2.dot = true → ∃ e, l.foldl (selS last) b = some e ∧ x.2.dot.lt e.dot = false := by
  induction l with
  | nil => intro b; exact ⟨fun c h => ⟨c, h, lt_irrefl' _⟩, fun _ h => by cases h⟩
  | cons y l ih =>
    intro b
    rw [List.foldl_cons]
    obtain ⟨i1, i2⟩ := ih (selS last b y)
    refine ⟨fun c hc => ?_, fun x hx h1 h2 => ?_⟩
    · subst hc
      by_cases hs : selC last (some c) y = true
      · obtain ⟨e, he, hle⟩ := i1 y.2 (by simp [selS, hs])
        refine ⟨e, he, ?_⟩
        simp only [selC, Bool.and_eq_true] at hs
        cases hce : c.dot.lt e.dot
        · rfl
        · rw [lt_trans' hs.2 hce] at hle; cases hle
      · exact i1 c (by simp [selS, hs])
    · rcases List.mem_cons.1 hx with rfl | hx
      · cases b with
        | none =>
          have hs : selC last none x = true := by simp [selC, h1, h2]
          exact i1 x.2 (by simp [selS, hs])
        | some c =>
          by_cases hs : selC last (some c) x = true
          · exact i1 x.2 (by simp [selS, hs])
          · obtain ⟨e, he, hle⟩ := i1 c (by simp [selS, hs])
            refine ⟨e, he, ?_⟩
            have hxc : x.2.dot.lt c.dot = false := by
              cases hxc : x.2.dot.lt c.dot
              · rfl
              · exact absurd (by simp [selC, h1, h2, hxc]) hs
            cases hxe : x.2.dot.lt e.dot
            · rfl
            · cases hec : e.dot.lt c.dot
              · have := ltD_total hec hle; rw [this] at hxe; rw [hxe] at hxc; cases hxc
              · rw [lt_trans' hxe hec] at hxc; cases hxc
      · exact i2 x hx h1 h2
theorem entsGo_spec (l : List Lf) : ∀ (n : Nat) (es : List En), ahE l (es.getLast?.map En.dot) < n → (es.Pairwise fun a b => a.dot.lt b.dot = true) → (∀ e ∈ es, (([], e) : Lf) ∈ l) → (∀ x ∈ l, x.1 = [] → okP (es.getLast?.map En.dot) x.2.dot = false → ∃ e ∈ es, e.dot = x.2.dot) →
    ((entsGo l n es).Pairwise fun a b => a.dot.lt b.dot = true) ∧ (∀ e ∈ entsGo l n es, (([], e) : Lf) ∈ l) ∧ ∀ x ∈ l, x.1 = [] → ∃ e ∈ entsGo l n es, e.dot = x.2.dot
  | 0, _, h, _, _, _ => absurd h (Nat.not_lt_zero _)
  | n + 1, es, h, h1, h2, h3 => by
    rw [entsGo]
    cases hb : bestE l (es.getLast?.map En.dot) with
    | none =>
      refine ⟨h1, h2, fun x hx hx1 => ?_⟩
      cases ho : okP (es.getLast?.map En.dot) x.2.dot
      · exact h3 x hx hx1 ho
      · obtain ⟨e, he, _⟩ := (selS_min l (es.getLast?.map En.dot) none).2 x hx hx1 ho
        unfold bestE at hb; rw [hb] at he; cases he
    | some e =>
      obtain ⟨⟨y, hy, hy1, hy2⟩, hok⟩ := bestE_spec hb
      have hle : (es ++ [e]).getLast?.map En.dot = some e.dot := by simp
      refine entsGo_spec l n (es ++ [e]) ?_ ?_ ?_ ?_
      · rw [hle]; have := ahE_lt hb; omega
      · rw [List.pairwise_append]
        refine ⟨h1, List.pairwise_singleton _ _, fun a ha b hb' => ?_⟩
        rw [List.mem_singleton] at hb'; subst hb'
        rcases List.eq_nil_or_concat es with rfl | ⟨es', z, rfl⟩
        · cases ha
        · rw [List.concat_eq_append] at *
          rw [List.getLast?_append] at hok
          have hz : z.dot.lt b.dot = true := hok
          rcases List.mem_append.1 ha with ha | ha
          · exact lt_trans' ((List.pairwise_append.1 h1).2.2 a ha z (by simp)) hz
          · rw [List.mem_singleton] at ha; subst ha; exact hz
      · intro a ha
        rcases List.mem_append.1 ha with ha | ha
        · exact h2 a ha
        · rw [List.mem_singleton] at ha; subst ha
          obtain ⟨p, e'⟩ := y
          simp only at hy1 hy2; subst hy1; subst hy2; exact hy
      · intro x hx hx1 ho
        rw [hle] at ho
        have ho : e.dot.lt x.2.dot = false := ho
        cases ho' : okP (es.getLast?.map En.dot) x.2.dot
        · obtain ⟨a, ha, hae⟩ := h3 x hx hx1 ho'
          exact ⟨a, List.mem_append_left _ ha, hae⟩
        · obtain ⟨e', he', hm⟩ := (selS_min l (es.getLast?.map En.dot) none).2 x hx hx1 ho'
          unfold bestE at hb; rw [hb] at he'; cases he'
          exact ⟨e, by simp, ltD_total ho hm⟩
theorem selEnts_spec (l : List Lf) : ((selEnts l).Pairwise fun a b => a.dot.lt b.dot = true) ∧ (∀ e ∈ selEnts l, (([], e) : Lf) ∈ l) ∧ ∀ x ∈ l, x.1 = [] → ∃ e ∈ selEnts l, e.dot = x.2.dot :=
  entsGo_spec l _ [] (by have := ahE_le l (([] : List En).getLast?.map En.dot); omega) .nil (fun _ h => by cases h) (fun x _ _ h => by simp [okP] at h)

theorem keyS_min (l : List Lf) (last : ByteArray) : ∀ (b : ByteArray), (b ≠ ByteArray.empty → l.foldl (keyS last) b ≠ ByteArray.empty ∧ ltS b (l.foldl (keyS last) b) = false) ∧ ∀ x ∈ l, ∀ q qs, x.1 = q :: qs → ltS last q = true → l.foldl (keyS last) b ≠ ByteArray.empty ∧ ltS q (l.foldl (keyS last) b) = false := by
  induction l with
  | nil => intro b; exact ⟨fun h => ⟨h, ltS_irrefl _⟩, fun _ h => by cases h⟩
  | cons y l ih =>
    intro b
    rw [List.foldl_cons]
    obtain ⟨i1, i2⟩ := ih (keyS last b y)
    have hne : ∀ q : ByteArray, ltS last q = true → q ≠ ByteArray.empty := fun q h e => by rw [e, ltS_empty] at h; cases h
    refine ⟨fun hb => ?_, fun x hx q qs h1 h2 => ?_⟩
    · by_cases hs : keyC last b y = true
      · obtain ⟨p, e⟩ := y
        cases p with
        | nil => simp [keyC] at hs
        | cons q qs =>
          have e1 : keyS last b (q :: qs, e) = q := by simp [keyS, hs]
          rw [e1] at i1 ⊢
          simp only [keyC, Bool.and_eq_true, Bool.or_eq_true, decide_eq_true_eq] at hs
          obtain ⟨j1, j2⟩ := i1 (hne q hs.1)
          refine ⟨j1, ?_⟩
          cases hc : ltS b (l.foldl (keyS last) q)
          · rfl
          · rcases hs.2 with h | h
            · exact absurd h hb
            · rw [ltS_trans h hc] at j2; cases j2
      · have e1 : keyS last b y = b := by simp [keyS, hs]
        rw [e1] at i1 ⊢; exact i1 hb
    · rcases List.mem_cons.1 hx with rfl | hx
      · obtain ⟨p, e⟩ := x
        simp only at h1; subst h1
        by_cases hs : keyC last b (q :: qs, e) = true
        · have e1 : keyS last b (q :: qs, e) = q := by simp [keyS, hs]
          rw [e1] at i1 ⊢; exact i1 (hne q h2)
        · have e1 : keyS last b (q :: qs, e) = b := by simp [keyS, hs]
          rw [e1] at i1 ⊢
          simp only [keyC, h2, Bool.true_and, Bool.or_eq_true, decide_eq_true_eq, not_or] at hs
          obtain ⟨j1, j2⟩ := i1 hs.1
          refine ⟨j1, ?_⟩
          cases hc : ltS q (l.foldl (keyS last) b)
          · rfl
          · have hqb : ltS q b = false := by simpa using hs.2
            cases hcb : ltS (l.foldl (keyS last) b) b
            · have := ltS_total hcb j2; rw [this] at hc; rw [hc] at hqb; cases hqb
            · rw [ltS_trans hc hcb] at hqb; cases hqb
      · exact i2 x hx q qs h1 h2
theorem kidsGo_spec (f : List Lf → Tr) (l : List Lf) : ∀ (n : Nat) (last : ByteArray), ahK l last < n → ((kidsGo f l n last).Pairwise fun a b => ltS a.1 b.1 = true) ∧
    (∀ k t, (k, t) ∈ kidsGo f l n last → ltS last k = true ∧ t = f (underL l k) ∧ ∃ x ∈ l, ∃ qs, x.1 = k :: qs) ∧ ∀ x ∈ l, ∀ q qs, x.1 = q :: qs → ltS last q = true → (q, f (underL l q)) ∈ kidsGo f l n last
  | 0, _, h => absurd h (Nat.not_lt_zero _)
  | n + 1, last, h => by
    rw [kidsGo]
    by_cases hb : bestK l last = ByteArray.empty
    · rw [if_pos hb]
      refine ⟨.nil, fun _ _ h => (by cases h), fun x hx q qs h1 h2 => ?_⟩
      exact absurd hb ((keyS_min l last ByteArray.empty).2 x hx q qs h1 h2).1
    · rw [if_neg hb]
      obtain ⟨hm, hlt⟩ := bestK_spec hb
      obtain ⟨i1, i2, i3⟩ := kidsGo_spec f l n (bestK l last) (by have := ahK_lt hb; omega)
      refine ⟨.cons (fun a ha => (i2 a.1 a.2 ha).1) i1, fun k t hkt => ?_, fun x hx q qs h1 h2 => ?_⟩
      · rcases List.mem_cons.1 hkt with e | e
        · cases e; exact ⟨hlt, rfl, hm⟩
        · obtain ⟨j1, j2, j3⟩ := i2 k t e
          exact ⟨ltS_trans hlt j1, j2, j3⟩
      · obtain ⟨_, hmin⟩ := (keyS_min l last ByteArray.empty).2 x hx q qs h1 h2
        cases hq : ltS (bestK l last) q
        · have := ltS_total hq hmin
          rw [← this]; exact List.mem_cons_self
        · exact List.mem_cons_of_mem _ (i3 x hx q qs h1 hq)
theorem mem_under {l : List Lf} {q : ByteArray} {qs : List ByteArray} {e : En} : ((qs, e) : Lf) ∈ underL l q ↔ ((q :: qs, e) : Lf) ∈ l := by
  unfold underL
  rw [List.mem_filterMap]
  constructor
  · rintro ⟨⟨p, e'⟩, hx, hu⟩
    cases p with
    | nil => simp [underF] at hu
    | cons a ps =>
      by_cases ha : a = q
      · simp [underF, ha] at hu; obtain ⟨rfl, rfl⟩ := hu; rw [← ha]; exact hx
      · simp [underF, ha] at hu
  · intro h; exact ⟨_, h, by simp [underF]⟩
/-- Leaves of which no two of a dot stand at the same place, and whose keys are keys. -/
structure LvOk (l : List Lf) : Prop where
  key : ∀ x ∈ l, ∀ k ∈ x.1, k ≠ ByteArray.empty
  one : ∀ x ∈ l, ∀ y ∈ l, x.1 = y.1 → x.2.dot = y.2.dot → x = y
theorem LvOk.under {l : List Lf} (h : LvOk l) (q : ByteArray) : LvOk (underL l q) :=
  ⟨fun x hx k hk => h.key (q :: x.1, x.2) (mem_under.1 hx) k (List.mem_cons_of_mem _ hk), fun x hx y hy h1 h2 => by
    have := h.one (q :: x.1, x.2) (mem_under.1 hx) (q :: y.1, y.2) (mem_under.1 hy) (by rw [h1]) h2
    obtain ⟨p, e⟩ := x
    obtain ⟨p', e'⟩ := y
    simp only [Prod.mk.injEq, List.cons.injEq, true_and] at this
    rw [this.1, this.2]⟩
def topT (d : Nat) : List Lf → Tr := match d with | 0 => fun _ => .mk [] [] | d + 1 => buildT d
theorem buildT_eq (d : Nat) (l : List Lf) : buildT d l = .mk (selEnts l) (kidsGo (topT d) l (l.length + 1) ByteArray.empty) := by
  cases d <;> rfl
theorem build_spec : ∀ (d : Nat) (l : List Lf), (∀ x ∈ l, x.1.length ≤ d) → LvOk l → (buildT d l).Ord ∧ ∀ x, x ∈ (buildT d l).lvs [] ↔ x ∈ l
  | d, l, hd, hl => by
    rw [buildT_eq]
    obtain ⟨e1, e2, e3⟩ := selEnts_spec l
    obtain ⟨k1, k2, k3⟩ := kidsGo_spec (topT d) l (l.length + 1) ByteArray.empty (by have := ahK_le l ByteArray.empty; omega)
    have hne : ∀ q : ByteArray, q ≠ ByteArray.empty → ltS ByteArray.empty q = true := fun q h => by
      cases hq : ltS ByteArray.empty q
      · exact absurd (ltS_total (ltS_empty q) hq) h
      · rfl
    have ih : ∀ k t, (k, t) ∈ kidsGo (topT d) l (l.length + 1) ByteArray.empty → t.Ord ∧ (∀ x, x ∈ t.lvs [] ↔ x ∈ underL l k) ∧ ∃ x, x ∈ underL l k := fun k t hm => by
      obtain ⟨h1, h2, x, hx, qs, h3⟩ := k2 k t hm
      have hu : ((qs, x.2) : Lf) ∈ underL l k := mem_under.2 (by rw [← h3]; exact hx)
      cases d with
      | zero => have := hd x hx; rw [h3] at this; simp at this
      | succ d =>
        obtain ⟨i1, i2⟩ := build_spec d (underL l k) (fun y hy => by have := hd _ (mem_under.1 hy); simp at this; exact this) (hl.under k)
        rw [h2]; exact ⟨i1, i2, _, hu⟩
    refine ⟨Ord.mk' e1 k1 fun k t hm => ?_, fun x => ?_⟩
    · obtain ⟨i1, i2, x, hx⟩ := ih k t hm
      refine ⟨fun e => ?_, ?_, i1⟩
      · have := (k2 k t hm).1; rw [e, ltS_empty] at this; cases this
      · cases he : t.empty
        · rfl
        · obtain ⟨es, ks⟩ := t
          simp [Tr.empty] at he
          obtain ⟨rfl, rfl⟩ := he
          have := (i2 x).2 hx
          simp [Tr.lvs, Tr.lvsL] at this
    · obtain ⟨p, e⟩ := x
      cases p with
      | nil =>
        rw [mem_nil]
        constructor
        · exact e2 e
        · intro h
          obtain ⟨e', he', hd'⟩ := e3 _ h rfl
          have := hl.one _ (e2 e' he') _ h rfl hd'
          cases this; exact he'
      | cons k qs =>
        rw [mem_cons']
        constructor
        · rintro ⟨t, hm, h⟩
          exact mem_under.1 (((ih k t hm).2.1 _).1 h)
        · intro h
          have hm := k3 _ h k qs rfl (hne k (hl.key _ h k (by simp)))
          exact ⟨_, hm, ((ih k _ hm).2.1 _).2 (mem_under.2 h)⟩
theorem buildL_spec {l : List Lf} (h : LvOk l) : (buildL l).Ord ∧ ∀ x, x ∈ (buildL l).lvs [] ↔ x ∈ l := build_spec _ l (fun _ hx => deepL_le hx) h
theorem ord_lvOk : ∀ (t : Tr), t.Ord → LvOk (t.lvs []) := by
  intro t
  induction t using Tr.ind with
  | h es ks ih =>
  intro h
  obtain ⟨h1, h2, h3⟩ := ord_iff.1 h
  refine ⟨fun x hx k hk => ?_, fun x hx y hy hp hd => ?_⟩
  · rcases mem_lvs.1 hx with ⟨hn, _⟩ | ⟨k', t, qs, hm, hq, hl⟩
    · rw [hn] at hk; cases hk
    · rw [hq] at hk
      rcases List.mem_cons.1 hk with rfl | hk
      · exact (h3 _ t hm).1
      · exact (ih k' t hm (h3 k' t hm).2.2).key _ hl k hk
  · obtain ⟨p, e⟩ := x
    obtain ⟨p', e'⟩ := y
    simp only at hp hd; subst hp
    cases p with
    | nil =>
      have a := mem_nil.1 hx
      have b := mem_nil.1 hy
      have : e = e' := by
        clear hx hy h ih h2 h3
        induction es with
        | nil => cases a
        | cons z es ih =>
          rw [List.pairwise_cons] at h1
          rcases List.mem_cons.1 a with a' | a'
          · rcases List.mem_cons.1 b with b' | b'
            · rw [a', b']
            · have := h1.1 _ b'; rw [← hd, a', lt_irrefl'] at this; cases this
          · rcases List.mem_cons.1 b with b' | b'
            · have := h1.1 _ a'; rw [hd, b', lt_irrefl'] at this; cases this
            · exact ih h1.2 a' b'
      rw [this]
    | cons k qs =>
      obtain ⟨t, hm, ha⟩ := mem_cons'.1 hx
      obtain ⟨t', hm', hb⟩ := mem_cons'.1 hy
      rw [keys_one h2 hm' hm] at hb
      have := (ih k t hm (h3 k t hm).2.2).one _ ha _ hb rfl hd
      cases this; rfl
/-- The leaves of a tree in order, built again. -/
theorem build_lvs {t : Tr} (h : t.Ord) : buildL (t.lvs []) = t := by
  obtain ⟨h1, h2⟩ := buildL_spec (ord_lvOk t h)
  exact ord_ext _ _ h1 h h2
/-- What is built of the leaves of a tree in order, in whatever order. -/
theorem build_of {t : Tr} {l : List Lf} (h : t.Ord) (hl : LvOk l) (he : ∀ x, x ∈ l ↔ x ∈ t.lvs []) : buildL l = t := by
  obtain ⟨h1, h2⟩ := buildL_spec hl
  exact ord_ext _ _ h1 h fun x => (h2 x).trans (he x)
end Go.Proofs.Ytdmhfiofgioihaa

namespace Go.Proofs.Ytdmhfiofgioihaa
open Go.RowKit
set_option maxRecDepth 100000

def joinS (out : List (Int × Int)) (r : Int × Int) : List (Int × Int) :=
  match out.getLast? with
  | some q => if r.1 ≤ q.2 + 1 then out.set (out.length - 1) (q.1, max q.2 r.2) else out ++ [r]
  | none => [r]
def joinL (l : List (Int × Int)) : List (Int × Int) := l.foldl joinS []
theorem joinL_take {l : List (Int × Int)} {k : Nat} {x : Int × Int} (h : l[k]? = some x) : joinL (l.take (k + 1)) = joinS (joinL (l.take k)) x := by
  unfold joinL; rw [List.take_add_one, h, List.foldl_append]; rfl
theorem joinS_len (out : List (Int × Int)) (r : Int × Int) : (joinS out r).length ≤ out.length + 1 := by
  unfold joinS; split
  · split <;> simp
  · simp
theorem joinL_len (l : List (Int × Int)) : ∀ k, (joinL (l.take k)).length ≤ k
  | 0 => by simp [joinL]
  | k + 1 => by
    cases h : l[k]? with
    | none =>
      have h1 := List.getElem?_eq_none_iff.1 h
      rw [List.take_of_length_le (by omega), ← List.take_of_length_le (i := k) h1]
      have := joinL_len l k
      rw [List.take_of_length_le h1] at this ⊢; omega
    | some x =>
      rw [joinL_take h]
      have := joinL_len l k
      have := joinS_len (joinL (l.take k)) x
      omega
theorem joinS_ok {out : List (Int × Int)} {r : Int × Int} (h : RunsOk out) (hr : 0 ≤ r.1 ∧ r.1 ≤ 1099511627777 ∧ 0 ≤ r.2 ∧ r.2 ≤ 1099511627777) : RunsOk (joinS out r) := by
  intro x hx
  unfold joinS at hx
  split at hx
  · rename_i q hq
    split at hx
    · rcases List.mem_or_eq_of_mem_set hx with hx | rfl
      · exact h x hx
      · have := h q (List.mem_of_getLast? hq)
        refine ⟨this.1, this.2.1, ?_, ?_⟩ <;> simp only [Int.max_def] <;> split <;> omega
    · rcases List.mem_append.1 hx with hx | hx
      · exact h x hx
      · simp at hx; subst hx; exact hr
  · simp at hx; subst hx; exact hr
theorem joinL_ok {l : List (Int × Int)} (h : RunsOk l) : RunsOk (joinL l) := by
  unfold joinL
  suffices ∀ (l out : List (Int × Int)), RunsOk l → RunsOk out → RunsOk (l.foldl joinS out) from this l [] h (fun _ h => by cases h)
  intro l
  induction l with
  | nil => intro out _ ho; exact ho
  | cons x l ih => intro out hl ho; exact ih _ (fun r hr => hl r (List.mem_cons_of_mem _ hr)) (joinS_ok ho (hl x (by simp)))

theorem joinS_snoc (L : List (Int × Int)) (q r : Int × Int) : joinS (L ++ [q]) r = if r.1 ≤ q.2 + 1 then L ++ [(q.1, max q.2 r.2)] else L ++ [q] ++ [r] := by
  unfold joinS
  rw [List.getLast?_concat]
  simp
/-- What is joined behind a set, in order, is a set: of the numbers of both. -/
theorem joinS_right {out : List (Int × Int)} {r : Int × Int} (h : runsR none out = true) (hr : runOk r) (ho : ∀ q, out.getLast? = some q → q.1 ≤ r.1) :
    runsR none (joinS out r) = true ∧ (∀ n, hasL (joinS out r) n = (hasL out n || inR r n)) ∧ (∀ q, (joinS out r).getLast? = some q → q.1 ≤ r.1) := by
  rcases List.eq_nil_or_concat out with rfl | ⟨L, q, rfl⟩
  · refine ⟨?_, fun n => ?_, fun q hq => ?_⟩
    · exact (runsR_one none r).2 ⟨hr, rfl⟩
    · simp [joinS, hasL]
    · simp [joinS] at hq; subst hq; exact Int.le_refl _
  · rw [List.concat_eq_append] at *
    have hq := ho q (by simp)
    have hqo := runsR_last L none q h
    rw [joinS_snoc]
    unfold runOk at *
    split
    · rename_i hc
      refine ⟨runsR_wide L none q _ h (by omega) (by omega), fun n => ?_, fun x hx => ?_⟩
      · rw [hasL_app, hasL_app, Bool.or_assoc]
        congr 1
        rw [Bool.eq_iff_iff]
        simp [hasL, inR]
        omega
      · simp at hx; subst hx; exact hq
    · rename_i hc
      refine ⟨(runsR_snoc L none q r).2 ⟨h, hr, by omega⟩, fun n => ?_, fun x hx => ?_⟩
      · rw [hasL_app]; simp [hasL]
      · simp at hx; subst hx; exact Int.le_refl _
theorem joinL_right {l : List (Int × Int)} (hl : ∀ r ∈ l, runOk r) (hs : l.Pairwise fun a b => a.1 ≤ b.1) : runsR none (joinL l) = true ∧ ∀ n, hasL (joinL l) n = hasL l n := by
  suffices ∀ (l out : List (Int × Int)), (∀ r ∈ l, runOk r) → l.Pairwise (fun a b => a.1 ≤ b.1) → runsR none out = true → (∀ q, out.getLast? = some q → ∀ r ∈ l, q.1 ≤ r.1) →
      runsR none (l.foldl joinS out) = true ∧ ∀ n, hasL (l.foldl joinS out) n = (hasL out n || hasL l n) by
    have := this l [] hl hs rfl (fun q h => by simp at h)
    exact ⟨this.1, fun n => by rw [joinL, this.2]; simp [hasL]⟩
  intro l
  induction l with
  | nil => intro out _ _ h _; exact ⟨h, fun n => by simp [hasL]⟩
  | cons r l ih =>
    intro out hl hs h ho
    rw [List.pairwise_cons] at hs
    obtain ⟨j1, j2, j3⟩ := joinS_right h (hl r (by simp)) (fun q hq => ho q hq r (by simp))
    obtain ⟨k1, k2⟩ := ih (joinS out r) (fun x hx => hl x (by simp [hx])) hs.2 j1 (fun q hq x hx => Int.le_trans (j3 q hq) (hs.1 x hx))
    refine ⟨k1, fun n => ?_⟩
    rw [List.foldl_cons, k2, j2, Bool.or_assoc]; simp [hasL]

theorem OwnP.drewN {α : Type} {w : World} {base : Nat} {e : TypeId} {sz : Nat} {E : α → List Value → Prop} {v : Value} {xs : List α} (h : OwnP w base e sz E v xs) (n : Nat) : OwnP (w.drewN n) base e sz E v xs := h.keep fun _ _ => rfl
theorem below_dn {B : Nat} {a w : World} (h : Below B a w) (n : Nat) : Below B a (w.drewN n) := h.trans ⟨rfl, rfl, rfl, Nat.le_refl _, fun _ _ => rfl⟩
set_option maxHeartbeats 4000000 in
theorem sjoined_any (l : List (Int × Int)) (v : Value) (w : World) (h : SlP w w.heap.size 2 RuE v l) (hN : l.length ≤ 900000) (hR : RunsOk l) :
    Calls Try.prog 106 #[v] w (RetO w 132 2 (fun _ => RuE) (joinL l)) := by
  obtain ⟨A, n, rfl, b1, b2, b3⟩ := h
  unfold Big at b2
  go_enter Try.func106, Try.ntmps106
  go_wp2_with fail
  go_loopw [3, 9] (fun v i wr => ∃ k : Nat, k ≤ l.length ∧ i = .int .i64 k ∧ OwnP wr w.heap.size 132 2 RuE v (joinL (l.take k)) ∧ Below w.heap.size w wr) (fun _ i _ => l.length - (intOf i).toNat)
  case atStart => exact ⟨0, Nat.zero_le _, rfl, OwnP.nil, Below.refl _ _⟩
  case round =>
    obtain ⟨k, hk, rfl, hown, hb⟩ := hrel
    have hsz := hb.size
    by_cases hlt : k < l.length
    · obtain ⟨r, hx⟩ : ∃ x, l[k]? = some x := ⟨_, List.getElem?_eq_getElem hlt⟩
      obtain ⟨b, off, rfl, hbB, hc⟩ := b3 (by rintro rfl; simp at hlt)
      obtain ⟨cs, ⟨rfl, hok⟩, _, hu⟩ := hc k _ hx
      have e0 : wr.cell? ⟨b, off + k * 2, none⟩ = some (.int .i64 r.1) := (hb.cell hbB).trans (hu 0 _ rfl)
      have e1 : wr.cell? ⟨b, off + k * 2 + 1, none⟩ = some (.int .i64 r.2) := (hb.cell hbB).trans (hu 1 _ rfl)
      have hr := hR r (List.mem_of_getElem? hx)
      have HJ : Hid (joinL (l.take (k + 1)) = joinS (joinL (l.take k)) r) := joinL_take hx
      have hol := joinL_len l k
      have hjo : RunsOk (joinL (l.take k)) := joinL_ok fun x hx => hR x (List.mem_of_mem_take hx)
      have HRE : Hid (RuE r [.int .i64 r.1, .int .i64 r.2]) := ⟨rfl, hok⟩
      generalize joinL (l.take k) = out at *
      have HL : Hid (out.length + [r].length ≤ Few) := by unfold Hid Few; simp; omega
      clear hu hc b3 hx hok
      rcases Nat.eq_zero_or_pos out.length with hz | hz
      · obtain rfl : out = [] := List.eq_nil_of_length_eq_zero hz
        have HX : Hid (joinL (l.take (k + 1)) = [] ++ [r]) := by unfold Hid; rw [HJ.out]; rfl
        obtain ⟨A8, c8, rfl⟩ := hown.shape
        clear hz hol
        simp only [List.length_nil] at hown ⊢
        go_wp2_with fail
        go_quiet (fail)
        go_wp2_with (at_builtin; go_loud ((refine wpList_few rfl (.tmp 43) (.tmp 45) _ rfl eiRun (by decide) (by decide) (fun _ _ h => h.one) rfl (((hown.alloc _).drewN _).alloc _) rfl (SlP.one (x := r) HRE.out rfl _ (by rw [World.heap_drewN, World.size_alloc])) HL.out (by rw [World.size_alloc, World.heap_drewN, World.size_alloc]; omega) ?_); intro v1 w1 hown1 hb1 _; have hb2 := (((below_dn ((Below.refl w.heap.size wr).alloc hsz _) _).alloc (by rw [World.heap_drewN, World.size_alloc]; omega) _).trans hb1)))
        go_roundw
        case rel => exact ⟨k + 1, by omega, by go_num, by rw [HX.out]; exact hown1, hb.trans hb2⟩
        case measure => simp [intOf]; omega
      · obtain ⟨q, hq⟩ : ∃ q, out[out.length - 1]? = some q := ⟨_, List.getElem?_eq_getElem (by omega)⟩
        have hqo := hjo q (List.mem_of_getElem? hq)
        obtain ⟨g, cap, rfl, hg1, hg2, c0, c1, hfz, _⟩ := hown.setRun hq (z := max q.2 r.2) ⟨by omega, by omega⟩
        have hmx : max q.2 r.2 = if q.2 < r.2 then r.2 else q.2 := by split <;> omega
        have hset : ∀ n, OwnP (((wr.alloc (.cells #[.int .i64 r.1, .int .i64 r.2] 132)).drewN n).setCell ⟨g, (out.length - 1) * 2 + 1, none⟩ (.int .i64 (if q.2 < r.2 then r.2 else q.2))) w.heap.size 132 2 RuE (.slice (some ⟨g, 0, none⟩) out.length cap) (out.set (out.length - 1) (q.1, max q.2 r.2)) := fun n => by
          rw [← hmx]
          obtain ⟨g', cap', e, _, _, _, _, _, h⟩ := ((hown.alloc (.cells #[.int .i64 r.1, .int .i64 r.2] 132)).drewN n).setRun hq (z := max q.2 r.2) ⟨by omega, by omega⟩
          cases e; exact h
        have hfz1 := hfz ((out.length - 1) * 2 + 1)
        have HJS : Hid (joinS out r = if r.1 ≤ q.2 + 1 then out.set (out.length - 1) (q.1, max q.2 r.2) else out ++ [r]) := by
          unfold Hid joinS; rw [List.getLast?_eq_getElem?, hq]
        have HMX := hid hmx
        have HS2 : Hid (∀ n, OwnP (((wr.alloc (.cells #[.int .i64 r.1, .int .i64 r.2] 132)).drewN n).setCell ⟨g, (out.length - 1) * 2 + 1, none⟩ (.int .i64 (if q.2 < r.2 then r.2 else q.2))) w.heap.size 132 2 RuE (.slice (some ⟨g, 0, none⟩) out.length cap) (out.set (out.length - 1) (q.1, if q.2 < r.2 then r.2 else q.2))) := fun n => by
          have h1 := hset n
          rw [hmx] at h1; exact h1
        clear hq hfz hjo hmx
        have h1l : (1 : Int) ≤ (out.length : Int) := by omega
        have h2l : (out.length : Int) - 1 < (out.length : Int) := by omega
        have h0' : decide (0 < out.length) = true := by simp; omega
        have h0'' : decide ((0 : Int) < (out.length : Int)) = true := by simp; omega
        have hwq : IntKind.i64.wrap (q.2 + 1) = q.2 + 1 := IntWalk.i64_in _ (by omega)
        have hwk : IntKind.i64.wrap ((out.length : Int) - 1) = (out.length : Int) - 1 := IntWalk.i64_in _ (by omega)
        rcases t5 : decide (r.1 ≤ q.2 + 1)
        · have HX : Hid (joinL (l.take (k + 1)) = out ++ [r]) := by unfold Hid; rw [HJ.out, HJS.out, if_neg (of_decide_eq_false t5)]
          clear hset HJS HJ
          go_wp2_with fail
          go_quiet (fail)
          go_wp2_with (at_builtin; go_loud ((refine wpList_few rfl (.tmp 43) (.tmp 45) _ rfl eiRun (by decide) (by decide) (fun _ _ h => h.one) rfl (((hown.alloc _).drewN _).alloc _) rfl (SlP.one (x := r) HRE.out rfl _ (by rw [World.heap_drewN, World.size_alloc])) HL.out (by rw [World.size_alloc, World.heap_drewN, World.size_alloc]; omega) ?_); intro v1 w1 hown1 hb1 _; have hb2 := (((below_dn ((Below.refl w.heap.size wr).alloc hsz _) _).alloc (by rw [World.heap_drewN, World.size_alloc]; omega) _).trans hb1)))
          go_roundw
          case rel => exact ⟨k + 1, by omega, by go_num, by rw [HX.out]; exact hown1, hb.trans hb2⟩
          case measure => simp [intOf]; omega
        · have HX : Hid (joinL (l.take (k + 1)) = out.set (out.length - 1) (q.1, max q.2 r.2)) := by unfold Hid; rw [HJ.out, HJS.out, if_pos (of_decide_eq_true t5)]
          have HS := hid hset
          clear hset HJS HJ
          go_wp2_with fail
          go_quiet (fail)
          go_wp2_with fail
          go_region
          all_goals
            go_wp2_with fail
            go_roundw
            case rel => exact ⟨k + 1, by omega, by go_num, by rw [HX.out]; first | exact HS.out _ | exact HS2.out _ | (rw [HMX.out]; exact HS.out _) | (rw [HMX.out]; exact HS2.out _), hb.trans ((below_dn ((Below.refl w.heap.size wr).alloc hsz _) _).setCell (by exact hg1) _)⟩
            case measure => simp [intOf]; omega
    · obtain rfl : k = l.length := by omega
      rw [List.take_of_length_le (Nat.le_refl _)] at hown
      go_wp2_with fail
      go_ret
      exact ⟨_, rfl, hown, hb⟩
end Go.Proofs.Ytdmhfiofgioihaa

namespace Go.Proofs.Ytdmhfiofgioihaa
open Go.RowKit
set_option maxRecDepth 100000

def idxI {α : Type} (p : α → Bool) (l : List α) : Int := match l.findIdx? p with | some i => (i : Int) | none => -1
theorem idxI_hit {α : Type} {p : α → Bool} {l : List α} {k : Nat} {x : α} (h : ∀ (j : Nat) y, j < k → l[j]? = some y → p y = false) (hx : l[k]? = some x) (hp : p x = true) : idxI p l = (k : Int) := by
  have hlt := (List.getElem?_eq_some_iff.1 hx).1
  have : l.findIdx? p = some k := by
    rw [List.findIdx?_eq_some_iff_getElem]
    refine ⟨hlt, by rw [(List.getElem?_eq_some_iff.1 hx).2]; exact hp, fun j hj => ?_⟩
    rw [h j _ hj (List.getElem?_eq_getElem (by omega))]; simp
  unfold idxI; rw [this]
theorem idxI_miss {α : Type} {p : α → Bool} {l : List α} (h : ∀ (j : Nat) y, j < l.length → l[j]? = some y → p y = false) : idxI p l = -1 := by
  have : l.findIdx? p = none := by
    rw [List.findIdx?_eq_none_iff]
    intro x hx
    obtain ⟨j, hj⟩ := List.getElem?_of_mem hx
    exact h j x (List.getElem?_eq_some_iff.1 hj).1 hj
  unfold idxI; rw [this]
theorem idxI_any {α : Type} (p : α → Bool) (l : List α) : decide (0 ≤ idxI p l) = l.any p := by
  unfold idxI
  cases h : l.findIdx? p with
  | none =>
    rw [List.findIdx?_eq_none_iff] at h
    rw [Bool.eq_iff_iff]
    simp [List.any_eq_true]
    exact h
  | some i =>
    rw [List.findIdx?_eq_some_iff_getElem] at h
    obtain ⟨hlt, hp, _⟩ := h
    have : l.any p = true := List.any_eq_true.2 ⟨l[i], List.getElem_mem hlt, hp⟩
    rw [this]; simp
theorem idxI_bd {α : Type} (p : α → Bool) (l : List α) : -1 ≤ idxI p l ∧ idxI p l < l.length + 1 := by
  unfold idxI
  cases h : l.findIdx? p with
  | none => simp; omega
  | some i =>
    rw [List.findIdx?_eq_some_iff_getElem] at h
    obtain ⟨hlt, _⟩ := h
    simp; omega

/-- A test on runs: it tells p, and turns nothing that was there. -/
def TestRun (g : Nat) (lb : Array Value) (p : Int × Int → Bool) (w : World) : Prop :=
  (∀ args W, (callFunc g args).run Try.prog W = .ok (.enter g args) W) ∧
  ∀ (x : Int × Int) (W : World), Below w.heap.size w W → Calls Try.prog g (#[.agg #[.int .i64 x.1, .int .i64 x.2]] ++ lb) W fun e w' => e = .returned (.bool (p x)) ∧ Below W.heap.size W w'

set_option maxHeartbeats 1000000 in
theorem idxRun_any (p : Int × Int → Bool) (g : Nat) (lb : Array Value) (l : List (Int × Int)) (v : Value) (w : World) (h : SlP w w.heap.size 2 RuE v l) (ht : TestRun g lb p w) :
    Calls Try.prog 122 #[v, .func (.func g) #[] lb] w fun e w' => e = .returned (.int .i64 (idxI p l)) ∧ Below w.heap.size w w' := by
  obtain ⟨A, n, rfl, b1, b2, b3⟩ := h
  obtain ⟨eg, ht⟩ := ht
  unfold Big at b2
  go_enter Try.func122, Try.ntmps122
  go_wp2_with fail
  go_loopw [8] (fun i wr => ∃ k : Nat, k ≤ l.length ∧ i = .int .i64 k ∧ Hid (∀ (j : Nat) y, j < k → l[j]? = some y → p y = false) ∧ Below w.heap.size w wr) (fun i _ => l.length - (intOf i).toNat)
  case atStart => exact ⟨0, Nat.zero_le _, rfl, fun j y hj => absurd hj (Nat.not_lt_zero _), Below.refl _ _⟩
  case round =>
    obtain ⟨k, hk, rfl, hrel, hb⟩ := hrel
    have hsz := hb.size
    by_cases hlt : k < l.length
    · obtain ⟨x, hx⟩ : ∃ x, l[k]? = some x := ⟨_, List.getElem?_eq_getElem hlt⟩
      obtain ⟨b, off, rfl, hbB, hc⟩ := b3 (by rintro rfl; simp at hlt)
      obtain ⟨cs, ⟨rfl, hok⟩, _, hu⟩ := hc k _ hx
      have e0 : wr.cell? ⟨b, off + k * 2, none⟩ = some (.int .i64 x.1) := (hb.cell hbB).trans (hu 0 _ rfl)
      have e1 : wr.cell? ⟨b, off + k * 2 + 1, none⟩ = some (.int .i64 x.2) := (hb.cell hbB).trans (hu 1 _ rfl)
      have hcall := ht x wr hb
      have HX := hid hx
      clear hu hx hc b3 hok ht
      cases hq : p x
      · have HQ := hid hq
        rw [hq] at hcall
        clear hq
        go_wp2_with (go_at_fn g; refine hcall.mono ?_; rintro e w1 ⟨rfl, hb1⟩)
        go_roundw
        case rel =>
          refine ⟨k + 1, by omega, by go_num, fun j y hj hy => ?_, hb.trans (hb1.mono hsz)⟩
          by_cases hjk : j = k
          · subst hjk; have h2 := HX.out; rw [hy] at h2; cases h2; exact HQ.out
          · exact hrel.out j y (by omega) hy
        case measure => simp [intOf]; omega
      · have HQ := hid hq
        rw [hq] at hcall
        clear hq
        go_wp2_with (go_at_fn g; refine hcall.mono ?_; rintro e w1 ⟨rfl, hb1⟩)
        go_ret
        exact ⟨ret_int (idxI_hit hrel.out HX.out HQ.out).symm, hb.trans (hb1.mono hsz)⟩
    · obtain rfl : k = l.length := by omega
      go_wp2_with fail
      go_ret
      exact ⟨ret_int (idxI_miss hrel.out).symm, hb⟩

theorem conRun_any (p : Int × Int → Bool) (g : Nat) (lb : Array Value) (l : List (Int × Int)) (v : Value) (w : World) (h : SlP w w.heap.size 2 RuE v l) (ht : TestRun g lb p w) :
    Calls Try.prog 100 #[v, .func (.func g) #[] lb] w fun e w' => e = .returned (.bool (l.any p)) ∧ Below w.heap.size w w' := by
  have hbd := idxI_bd p l
  have HA := hid (idxI_any p l)
  obtain ⟨A, n, rfl, b1, b2, b3⟩ := h
  unfold Big at b2
  go_enter Try.func100, Try.ntmps100
  go_wp2_with fail
  refine (idxRun_any p g lb l _ w ⟨A, n, rfl, b1, by unfold Big; omega, b3⟩ ht).mono ?_
  rintro e w1 ⟨rfl, hb1⟩
  go_wp2_with fail
  go_ret
  exact ⟨ret_bool HA.out, hb1⟩

theorem hasClo_any (x : Int × Int) (n : Int) (B : Nat) (w : World) (hc : w.cell? ⟨B, 0, none⟩ = some (.int .i64 n)) (hB : B < w.heap.size) :
    Calls Try.prog 101 #[.agg #[.int .i64 x.1, .int .i64 x.2], .pointer (some ⟨B, 0, none⟩)] w fun e w' => e = .returned (.bool (inR x n)) ∧ Below w.heap.size w w' := by
  have hne : B ≠ w.heap.size := by omega
  rcases t1 : decide (x.1 ≤ n)
  · have HR : Hid (inR x n = false) := by unfold Hid inR; rw [t1]; rfl
    go_enter Try.func101, Try.ntmps101
    go_wp2_with fail
    go_ret
    exact ⟨ret_bool HR.out.symm, by go_grown⟩
  · have HR : Hid (inR x n = decide (n ≤ x.2)) := by unfold Hid inR; rw [t1]; rfl
    go_enter Try.func101, Try.ntmps101
    go_wp2_with fail
    go_ret
    exact ⟨ret_bool HR.out.symm, by go_grown⟩

/-- What span.Has tells. -/
def sHas (l : List (Int × Int)) (n : Int) : Bool := runsR none l && hasL l n
theorem shas_any (l : List (Int × Int)) (n : Int) (v : Value) (w : World) (h : SlP w w.heap.size 2 RuE v l) :
    Calls Try.prog 73 #[v, .int .i64 n] w fun e w' => e = .returned (.bool (sHas l n)) ∧ Below w.heap.size w w' := by
  have hs : SlP (w.alloc (.cells #[.int .i64 n] 2)) (w.alloc (.cells #[.int .i64 n] 2)).heap.size 2 RuE v l := SlP.imp h ((Below.refl _ w).alloc (Nat.le_refl _) _) (by simp) fun _ _ _ h => h
  have HS := hid hs
  clear hs h
  go_enter Try.func73, Try.ntmps73
  go_wp2_with fail
  refine (sright_any l v _ HS.out).mono ?_
  rintro e w1 ⟨rfl, hb1⟩
  have hs1 := hb1.size
  simp only [World.size_alloc] at hs1
  have hB : Below w.heap.size w w1 := ((Below.refl _ w).alloc (Nat.le_refl _) _).trans (hb1.mono (by simp))
  have hc : w1.cell? ⟨w.heap.size, 0, none⟩ = some (.int .i64 n) := by rw [hb1.cell (p := ⟨w.heap.size, 0, none⟩) (by simp)]; simp
  have HT : Hid (TestRun 101 #[.pointer (some ⟨w.heap.size, 0, none⟩)] (fun r => inR r n) w1) :=
    ⟨enters_of Try.func101 (by kernel_rfl) rfl, fun x W hW => hasClo_any x n w.heap.size W ((hW.cell (p := ⟨w.heap.size, 0, none⟩) (by show w.heap.size < _; omega)).trans hc) (by have := hW.size; omega)⟩
  have hs2 : SlP w1 w1.heap.size 2 RuE v l := SlP.imp HS.out hb1 (by simpa using hs1) fun _ _ _ h => h
  have HS2 := hid hs2
  clear hs2
  cases hr : runsR none l
  · have HR : Hid (sHas l n = false) := by unfold Hid sHas; rw [hr]; rfl
    clear hr
    go_wp2_with fail
    go_ret
    exact ⟨ret_bool HR.out.symm, hB⟩
  · have HR : Hid (sHas l n = l.any fun r => inR r n) := by unfold Hid sHas; rw [hr]; rfl
    clear hr
    go_wp2_with fail
    refine (conRun_any (fun r => inR r n) _ _ l v w1 HS2.out HT.out).mono ?_
    rintro e w2 ⟨rfl, hb2⟩
    go_wp2_with fail
    go_ret
    exact ⟨ret_bool HR.out.symm, hB.trans (hb2.mono (by omega))⟩
end Go.Proofs.Ytdmhfiofgioihaa

namespace Go.Proofs.Ytdmhfiofgioihaa
open Go.RowKit
set_option maxRecDepth 100000

def cHas (c : List Sp) (d : Dt) : Bool := apartB c && (d.right && sHas (partL c d.dc) d.n)

set_option maxHeartbeats 4000000 in
theorem chas_any (c : List Sp) (d : Dt) (vc : Value) (w : World) (h : SlP w w.heap.size 3 SpE vc c) (hN : c.length ≤ 900000) :
    Calls Try.prog 49 #[vc, .agg #[.int .i64 d.dc, .int .i64 d.n]] w fun e w' => e = .returned (.bool (cHas c d)) ∧ Below w.heap.size w w' := by
  have HC : Hid (∀ w', Below w.heap.size w w' → SlP w' w'.heap.size 3 SpE vc c) := fun w' hb => h.imp hb hb.size (fun _ _ _ h => h)
  obtain ⟨A, n, rfl, _, _, _⟩ := h
  obtain ⟨dc, num⟩ := d
  go_enter Try.func49, Try.ntmps49
  go_wp2_with fail
  refine (apart_any c _ _ (HC.out _ ((Below.refl _ w).alloc (Nat.le_refl _) _)) hN).mono ?_
  rintro e w1 ⟨vs, rfl, hsl, hb1⟩
  have hs1 := hb1.size
  simp only [World.size_alloc] at hs1
  have hB1 : Below w.heap.size w w1 := ((Below.refl _ w).alloc (Nat.le_refl _) _).trans (hb1.mono (by simp))
  have b0 : w1.cell? ⟨w.heap.size, 0, none⟩ = some (.int .i64 dc) := by rw [hb1.cell (p := ⟨w.heap.size, 0, none⟩) (by simp)]; simp
  have b1 : w1.cell? ⟨w.heap.size, 1, none⟩ = some (.int .i64 num) := by rw [hb1.cell (p := ⟨w.heap.size, 1, none⟩) (by simp)]; simp
  obtain ⟨A0, m0, g0, _⟩ := hsl 0 (by omega)
  obtain ⟨A1, m1, g1, _⟩ := hsl 1 (by omega)
  obtain ⟨A2, m2, g2, _⟩ := hsl 2 (by omega)
  obtain ⟨A3, m3, g3, _⟩ := hsl 3 (by omega)
  have HSL := hid (fun i (hi : i < 4) => (hsl i hi).slp (fun b hb => hb.2) (Below.refl _ w1))
  clear hsl
  cases hap : apartB c
  · have HR : Hid (cHas c ⟨dc, num⟩ = false) := by unfold Hid cHas; rw [hap]; rfl
    simp only [hap, Bool.false_eq_true, if_false] at g0 g1 g2 g3
    simp only [g0, g1, g2, g3]
    clear hap g0 g1 g2 g3
    go_upto_region 2 with (fail)
    refine wp_region_far (w1.heap.size + 1) (by kernel_rfl) (by kernel_rfl) ?_
    repeat (go_big_quiet_step (fail))
    refine wpQuiet_nil ?_
    intro wq hbq
    have hbw : Below w.heap.size w wq := (hB1.alloc (by omega) _).trans (hbq.mono (by omega))
    go_wp2_with fail
    go_ret
    exact ⟨ret_bool HR.out.symm, hbw⟩
  simp only [hap, if_true] at g0 g1 g2 g3
  simp only [g0, g1, g2, g3]
  cases hr : Dt.right ⟨dc, num⟩
  · have HR : Hid (cHas c ⟨dc, num⟩ = false) := by unfold Hid cHas; rw [hap, hr]; rfl
    go_upto_region 2 with (fail)
    have f0 := far_cell (B := w1.heap.size + 1) (w := w1.alloc (.cells #[.slice A0 (partL c 0).length m0, .slice A1 (partL c 1).length m1, .slice A2 (partL c 2).length m2, .slice A3 (partL c 3).length m3] 100)) (b := w.heap.size) (o := 0) (v := .int .i64 dc) (by rw [World.cell?_alloc_lt _ _ _ (by show w.heap.size < _; omega)]; exact b0) (by omega)
    have f1 := far_cell (B := w1.heap.size + 1) (w := w1.alloc (.cells #[.slice A0 (partL c 0).length m0, .slice A1 (partL c 1).length m1, .slice A2 (partL c 2).length m2, .slice A3 (partL c 3).length m3] 100)) (b := w.heap.size) (o := 1) (v := .int .i64 num) (by rw [World.cell?_alloc_lt _ _ _ (by show w.heap.size < _; omega)]; exact b1) (by omega)
    have HRI := hid hr
    clear hap hr g0 g1 g2 g3
    refine wp_region_far (w1.heap.size + 1) (by kernel_rfl) (by kernel_rfl) ?_
    repeat (go_big_quiet_step ((go_at_call 48; exact Calls.far_of (by simp) (HRI.out ▸ dright_any ⟨dc, num⟩ _))))
    refine wpQuiet_nil ?_
    intro wq hbq
    have hbw : Below w.heap.size w wq := (hB1.alloc (by omega) _).trans (hbq.mono (by omega))
    go_wp2_with fail
    go_ret
    exact ⟨ret_bool HR.out.symm, hbw⟩
  · have hbd : (0 ≤ dc ∧ dc < 4) ∧ 1 ≤ num ∧ num ≤ 1099511627776 := by simpa [Dt.right, and_assoc] using hr
    obtain ⟨dn, rfl⟩ : ∃ dn : Nat, dc = (dn : Int) := ⟨dc.toNat, by omega⟩
    have hd4 : dn < 4 := by omega
    have hdi : (dn : Int) < 4 := by omega
    have HR : Hid (cHas c ⟨dn, num⟩ = sHas (partL c dn) num) := by unfold Hid cHas; rw [hap, hr]; rfl
    obtain ⟨Ad, md, gd, _⟩ := HSL.out dn hd4
    rw [if_pos hap] at gd
    have hcell : (w1.alloc (.cells #[.slice A0 (partL c 0).length m0, .slice A1 (partL c 1).length m1, .slice A2 (partL c 2).length m2, .slice A3 (partL c 3).length m3] 100)).cell? ⟨w1.heap.size, dn, none⟩ = some (.slice Ad (partL c dn).length md) := by
      rw [cell_cells (heap_new rfl), ← gd]
      match dn, hd4 with
      | 0, _ => rw [g0]; rfl
      | 1, _ => rw [g1]; rfl
      | 2, _ => rw [g2]; rfl
      | 3, _ => rw [g3]; rfl
    have HS3 : Hid (∀ w', Below w1.heap.size w1 w' → SlP w' w'.heap.size 2 RuE (.slice Ad (partL c dn).length md) (partL c dn)) := fun w' hb => by
      have := HSL.out dn hd4
      rw [if_pos hap, gd] at this
      exact this.imp hb hb.size fun _ _ _ h => h
    go_upto_region 2 with (fail)
    have f0 := far_cell (B := w1.heap.size + 1) (w := w1.alloc (.cells #[.slice A0 (partL c 0).length m0, .slice A1 (partL c 1).length m1, .slice A2 (partL c 2).length m2, .slice A3 (partL c 3).length m3] 100)) (b := w.heap.size) (o := 0) (v := .int .i64 (dn : Int)) (by rw [World.cell?_alloc_lt _ _ _ (by show w.heap.size < _; omega)]; exact b0) (by omega)
    have f1 := far_cell (B := w1.heap.size + 1) (w := w1.alloc (.cells #[.slice A0 (partL c 0).length m0, .slice A1 (partL c 1).length m1, .slice A2 (partL c 2).length m2, .slice A3 (partL c 3).length m3] 100)) (b := w.heap.size) (o := 1) (v := .int .i64 num) (by rw [World.cell?_alloc_lt _ _ _ (by show w.heap.size < _; omega)]; exact b1) (by omega)
    have f2 := far_cell (B := w1.heap.size + 1) hcell (by omega)
    have HRI := hid hr
    clear hap hr g0 g1 g2 g3 gd hcell
    refine wp_region_far (w1.heap.size + 1) (by kernel_rfl) (by kernel_rfl) ?_
    repeat (go_big_quiet_step (first | (go_at_call 48; exact Calls.far_of (by simp) (HRI.out ▸ dright_any ⟨dn, num⟩ _)) | (go_at_call 73; exact Calls.far_all (by simp) (fun w' hb' => shas_any (partL c dn) num _ w' (HS3.out w' (((Below.refl _ w1).alloc (Nat.le_refl _) _).trans (hb'.mono (by omega))))))))
    refine wpQuiet_nil ?_
    intro wq hbq
    have hbw : Below w.heap.size w wq := (hB1.alloc (by omega) _).trans (hbq.mono (by omega))
    go_wp2_with fail
    go_ret
    exact ⟨ret_bool HR.out.symm, hbw⟩
end Go.Proofs.Ytdmhfiofgioihaa
