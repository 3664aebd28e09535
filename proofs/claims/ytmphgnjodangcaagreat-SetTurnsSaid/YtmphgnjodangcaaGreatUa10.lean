/- What the laws need, part 10: A law's argument that is a text. No condition. A law's argument that is what is known. No condition. -/
import Derived.Test.YtmphgnjodangcaaGreatUa9
namespace Go.Proofs.YtmphgnjodangcaaGreat
open Go.ChangeShapes Go.WideShapes Go.ChangeAt Go.RowKit
set_option maxRecDepth 100000

theorem okString : Tryz.prog.readableRec 9 = true ∧ 9 < Tryz.prog.types.size := ⟨by kernel_rfl, of_decide_eq_true (by kernel_rfl)⟩
theorem str_arg {H : Type} {enc : TypeId × Value → H} {W : World} {base : Nat} {v : Value} {d : DataW H} {p : List MemPlace} (hv : Value.okWide Tryz.prog W .any base 9 v) (h : DataW.Trod enc Tryz.prog W 0 (fun _ => true) true 9 v d p) (hw : Wt Tryz.prog 9 d) :
    ∃ s : ByteArray, v = .string s ∧ s.size ≤ Big := by
  obtain ⟨s, rfl⟩ := okWide_string Tryz.underlying9 hv
  obtain ⟨fuel, hf⟩ := h
  obtain ⟨s', e, hy, _⟩ := DataW.trod_string Tryz.underlying9 hf
  simp [Value.cells] at e
  subst e
  refine ⟨_, rfl, ?_⟩
  have := hw s.size (by rw [(Prod.mk.inj hy).1]; simp [DataW.weights])
  unfold reachBytes at this; unfold Big; omega
end Go.Proofs.YtmphgnjodangcaaGreat

namespace Go.Proofs.YtmphgnjodangcaaGreat
open Go.ChangeShapes Go.WideShapes Go.ChangeAt Go.RowKit
set_option maxRecDepth 100000

theorem okCausal : Tryz.prog.readableRec 31 = true ∧ 31 < Tryz.prog.types.size := ⟨by kernel_rfl, of_decide_eq_true (by kernel_rfl)⟩
theorem cellsSpan : Tryz.prog.cellsOf 47 = 3 := by kernel_rfl
theorem cellsCtx : Tryz.prog.cellsOf 29 = 1 := by kernel_rfl
theorem cellsCausal : Tryz.prog.cellsOf 31 = 3 := by kernel_rfl
theorem bytesSpan : Tryz.prog.bytesOf 47 = 24 := by kernel_rfl
section
variable {H : Type} {enc : TypeId × Value → H} {w : World}
theorem span_open {fuel : Nat} {cs : List Value} {x : DataW H × List MemPlace} (h : DataW.trod enc Tryz.prog w 0 (fun _ => true) true fuel 47 cs = some x) : ∃ d : Sp, SpE d cs := by
  obtain ⟨xs, n, rfl, rfl, hl, hx, hf⟩ := DataW.trod_struct Tryz.underlying47 h
  rw [cellsSpan] at hl
  match cs, hl with
  | [c0, c1, c2], _ =>
    match xs, hx with
    | [y0, y1, y2], _ =>
      have f0 : DataW.trod enc Tryz.prog w 0 (fun _ => true) true n 3 (([c0, c1, c2].drop 0).take (Tryz.prog.cellsOf 3)) = some y0 := hf 0 _ rfl
      rw [cellsOne.2.1] at f0
      have f1 : DataW.trod enc Tryz.prog w 0 (fun _ => true) true n 2 (([c0, c1, c2].drop 1).take (Tryz.prog.cellsOf 2)) = some y1 := hf 1 _ rfl
      rw [cellsOne.2.2.1] at f1
      have f2 : DataW.trod enc Tryz.prog w 0 (fun _ => true) true n 2 (([c0, c1, c2].drop 2).take (Tryz.prog.cellsOf 2)) = some y2 := hf 2 _ rfl
      rw [cellsOne.2.2.1] at f2
      obtain ⟨a, e0, _, w0⟩ := DataW.trod_int Tryz.underlying3 (show DataW.trod enc Tryz.prog w 0 (fun _ => true) true n 3 [c0] = some y0 from f0)
      obtain ⟨b, e1, _, w1⟩ := DataW.trod_int Tryz.underlying2 (show DataW.trod enc Tryz.prog w 0 (fun _ => true) true n 2 [c1] = some y1 from f1)
      obtain ⟨c, e2, _, w2⟩ := DataW.trod_int Tryz.underlying2 (show DataW.trod enc Tryz.prog w 0 (fun _ => true) true n 2 [c2] = some y2 from f2)
      simp at e0 e1 e2
      subst e0; subst e1; subst e2
      exact ⟨⟨a, b, c⟩, rfl, wf_i64 w0, wf_i64 w1, wf_i64 w2⟩
theorem ca_open {fuel : Nat} {cs : List Value} {x : DataW H × List MemPlace} (h : DataW.trod enc Tryz.prog w 0 (fun _ => true) true fuel 31 cs = some x) (hw : Wt Tryz.prog 31 x.1) :
    ∃ t c ve vk vc, cs = [ve, vk, vc] ∧ Tr.rd w w.heap.size t ve vk ∧ SlP w w.heap.size 3 SpE vc c := by
  obtain ⟨xs, n, rfl, rfl, hl, hx, hf⟩ := DataW.trod_struct Tryz.underlying31 h
  rw [cellsCausal] at hl
  match cs, hl with
  | [c0, c1, c2], _ =>
    match xs, hx with
    | [y0, y1], _ =>
      have f0 : DataW.trod enc Tryz.prog w 0 (fun _ => true) true n 27 (([c0, c1, c2].drop 0).take (Tryz.prog.cellsOf 27)) = some y0 := hf 0 _ rfl
      rw [cellsTree] at f0
      have f1 : DataW.trod enc Tryz.prog w 0 (fun _ => true) true n 29 (([c0, c1, c2].drop 2).take (Tryz.prog.cellsOf 29)) = some y1 := hf 1 _ rfl
      rw [cellsCtx] at f1
      obtain ⟨t, ve, vk, e, ht⟩ := tree_open n _ _ (show DataW.trod enc Tryz.prog w 0 (fun _ => true) true n 27 [c0, c1] = some y0 from f0) (Wt.field Tryz.underlying31 hw (i := 0) rfl rfl)
      obtain ⟨v1, c, e1, h1⟩ := slc_open (E := SpE) Tryz.underlying29 cellsSpan (by decide) bytesSpan (by decide) (show DataW.trod enc Tryz.prog w 0 (fun _ => true) true n 29 [c2] = some y1 from f1) (Wt.field Tryz.underlying31 hw (i := 1) rfl rfl)
        (fun m cs y _ hy hwy => span_open hy)
      simp at e e1
      obtain ⟨rfl, rfl⟩ := e
      subst e1
      exact ⟨t, c, c0, c1, c2, rfl, ht, h1⟩
end
theorem ca_arg {H : Type} {enc : TypeId × Value → H} {W : World} {base : Nat} {v : Value} {d : DataW H} {p : List MemPlace} (hv : Value.okWide Tryz.prog W .any base 31 v) (h : DataW.Trod enc Tryz.prog W 0 (fun _ => true) true 31 v d p) (hw : Wt Tryz.prog 31 d) :
    ∃ t c ve vk vc, v = .agg #[ve, vk, vc] ∧ Tr.rd W W.heap.size t ve vk ∧ SlP W W.heap.size 3 SpE vc c := by
  obtain ⟨cs, rfl, hs⟩ := okWide_struct Tryz.underlying31 hv
  obtain ⟨fuel, hf⟩ := h
  obtain ⟨t, c, ve, vk, vc, e, ht, hc⟩ := ca_open hf hw
  refine ⟨t, c, ve, vk, vc, ?_, ht, hc⟩
  simp [Value.cells] at e
  obtain ⟨l⟩ := cs
  simp at e
  rw [e]
end Go.Proofs.YtmphgnjodangcaaGreat
