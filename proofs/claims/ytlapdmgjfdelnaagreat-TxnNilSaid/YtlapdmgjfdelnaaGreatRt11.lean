/- What the laws need, part 11: A law's argument that is a text. No condition. A law's argument that is what is known. No condition. Arguments that are lists of texts, or of what is known. No condition. An int as an argument. No condition. Arguments that are arrays, lists of numbers, and lists of what is known. No condition. Arguments that are changes, lists of changes, acts, or views. No condition. -/
import Derived.OpenShut
import Derived.Test.YtlapdmgjfdelnaaGreatRt10
namespace Go.Proofs.YtlapdmgjfdelnaaGreat
open Go.ChangeShapes Go.WideShapes Go.ChangeAt Go.RowKit
set_option maxRecDepth 100000

end Go.Proofs.YtlapdmgjfdelnaaGreat

namespace Go.Proofs.YtlapdmgjfdelnaaGreat
open Go.ChangeShapes Go.WideShapes Go.ChangeAt Go.RowKit
set_option maxRecDepth 100000

section
variable {H : Type} {enc : TypeId × Value → H} {w : World}
end
end Go.Proofs.YtlapdmgjfdelnaaGreat

namespace Go.Proofs.YtlapdmgjfdelnaaGreat
open Go.ChangeShapes Go.WideShapes Go.ChangeAt Go.RowKit
set_option maxRecDepth 100000

theorem bytesString : Tryz.prog.bytesOf 9 = 16 := by kernel_rfl
theorem str_open {H : Type} {enc : TypeId × Value → H} {w : World} {fuel : Nat} {cs : List Value} {x : DataW H × List MemPlace} (h : DataW.trod enc Tryz.prog w 0 (fun _ => true) true fuel 9 cs = some x) (hw : Wt Tryz.prog 9 x.1) : ∃ s : ByteArray, StE s cs := by
  obtain ⟨s, e, hy, _⟩ := DataW.trod_string Tryz.underlying9 h
  refine ⟨s, e, ?_⟩
  have := hw s.size (by rw [hy]; simp [DataW.weights])
  unfold reachBytes at this; unfold Big; omega
end Go.Proofs.YtlapdmgjfdelnaaGreat

namespace Go.Proofs.YtlapdmgjfdelnaaGreat
open Go.ChangeShapes Go.WideShapes Go.ChangeAt Go.RowKit
set_option maxRecDepth 100000

theorem okInt : Tryz.prog.readableRec 3 = true ∧ 3 < Tryz.prog.types.size := ⟨by kernel_rfl, of_decide_eq_true (by kernel_rfl)⟩
theorem intp_arg {H : Type} {enc : TypeId × Value → H} {W : World} {base : Nat} {v : Value} {d : DataW H} {p : List MemPlace} (hv : Value.okWide Tryz.prog W .any base 3 v) (h : DataW.Trod enc Tryz.prog W 0 (fun _ => true) true 3 v d p) :
    ∃ n : Int, v = .int .i64 n ∧ I64 n := by
  obtain ⟨n, rfl, _, _, hw⟩ := open_int Tryz.underlying3 hv h
  exact ⟨n, rfl, wf_i64 hw⟩
end Go.Proofs.YtlapdmgjfdelnaaGreat

namespace Go.Proofs.YtlapdmgjfdelnaaGreat
open Go.ChangeShapes Go.WideShapes Go.ChangeAt Go.RowKit
set_option maxRecDepth 100000

theorem Wt.arr {H : Type} {P : Program} {t e : TypeId} {n : Nat} {parts : List (DataW H)} (hu : P.underlying t = some (.array n e)) (h : Wt P t (.agg parts)) : ∀ d ∈ parts, Wt P e d := fun d hd m hm => by
  refine h m ?_
  unfold DataW.weights
  rw [hu]
  exact Wt.all hd m hm
section
variable {H : Type} {enc : TypeId × Value → H} {W : World}
/-- A number of 32 bits. -/
def I3E (n : Int) (cs : List Value) : Prop := cs = [.int .i32 n] ∧ -2147483648 ≤ n ∧ n ≤ 2147483647
end
end Go.Proofs.YtlapdmgjfdelnaaGreat

namespace Go.Proofs.YtlapdmgjfdelnaaGreat
open Go.ChangeShapes Go.WideShapes Go.ChangeAt Go.RowKit
set_option maxRecDepth 100000

theorem okOp : Tryz.prog.readableRec 67 = true ∧ 67 < Tryz.prog.types.size := ⟨by kernel_rfl, of_decide_eq_true (by kernel_rfl)⟩
theorem cellsOp : Tryz.prog.cellsOf 67 = 4 := by kernel_rfl
theorem cellsStrings : Tryz.prog.cellsOf 30 = 1 := by kernel_rfl
section
variable {H : Type} {enc : TypeId × Value → H} {w : World}
theorem op_open {fuel : Nat} {cs : List Value} {x : DataW H × List MemPlace} (h : DataW.trod enc Tryz.prog w 0 (fun _ => true) true fuel 67 cs = some x) (hw : Wt Tryz.prog 67 x.1) : ∃ o : Opr, OpE w w.heap.size o cs := by
  obtain ⟨xs, n, rfl, rfl, hl, hx, hf⟩ := DataW.trod_struct Tryz.underlying67 h
  rw [cellsOp] at hl
  match cs, hl with
  | [c0, c1, c2, c3], _ =>
    match xs, hx with
    | [y0, y1, y2, y3], _ =>
      have f0 : DataW.trod enc Tryz.prog w 0 (fun _ => true) true n 30 (([c0, c1, c2, c3].drop 0).take (Tryz.prog.cellsOf 30)) = some y0 := hf 0 _ rfl
      rw [cellsStrings] at f0
      have f1 : DataW.trod enc Tryz.prog w 0 (fun _ => true) true n 3 (([c0, c1, c2, c3].drop 1).take (Tryz.prog.cellsOf 3)) = some y1 := hf 1 _ rfl
      rw [cellsOne.2.1] at f1
      have f2 : DataW.trod enc Tryz.prog w 0 (fun _ => true) true n 9 (([c0, c1, c2, c3].drop 2).take (Tryz.prog.cellsOf 9)) = some y2 := hf 2 _ rfl
      rw [cellsOne.1] at f2
      have f3 : DataW.trod enc Tryz.prog w 0 (fun _ => true) true n 2 (([c0, c1, c2, c3].drop 3).take (Tryz.prog.cellsOf 2)) = some y3 := hf 3 _ rfl
      rw [cellsOne.2.2.1] at f3
      obtain ⟨v1, l, e0, hL⟩ := slc_open (E := StE) Tryz.underlying30 cellsOne.1 (by decide) bytesString (by decide) (show DataW.trod enc Tryz.prog w 0 (fun _ => true) true n 30 [c0] = some y0 from f0) (Wt.field Tryz.underlying67 hw (i := 0) rfl rfl)
        fun _ _ _ _ hy hwy => str_open hy hwy
      obtain ⟨a, e1, _, w1⟩ := DataW.trod_int Tryz.underlying3 (show DataW.trod enc Tryz.prog w 0 (fun _ => true) true n 3 [c1] = some y1 from f1)
      obtain ⟨s, e2, hs⟩ := str_open (show DataW.trod enc Tryz.prog w 0 (fun _ => true) true n 9 [c2] = some y2 from f2) (Wt.field Tryz.underlying67 hw (i := 2) rfl rfl)
      obtain ⟨b, e3, _, w3⟩ := DataW.trod_int Tryz.underlying2 (show DataW.trod enc Tryz.prog w 0 (fun _ => true) true n 2 [c3] = some y3 from f3)
      simp at e0 e1 e2 e3
      subst e0; subst e1; subst e2; subst e3
      exact ⟨⟨l, a, s, b⟩, _, rfl, hL, wf_i64 w1, wf_i64 w3, hs⟩
end
section
variable {H : Type} {enc : TypeId × Value → H} {W : World} {base : Nat} {v : Value} {d : DataW H} {p : List MemPlace}
theorem op_arg (hv : Value.okWide Tryz.prog W .any base 67 v) (h : DataW.Trod enc Tryz.prog W 0 (fun _ => true) true 67 v d p) (hw : Wt Tryz.prog 67 d) :
    ∃ o : Opr, ∃ vp, v = .agg #[vp, .int .i64 o.act, .string o.s, .int .i64 o.n] ∧ SlP W W.heap.size 1 StE vp o.path ∧ o.Ok := by
  obtain ⟨cs, rfl, hs⟩ := okWide_struct Tryz.underlying67 hv
  obtain ⟨fuel, hf⟩ := h
  obtain ⟨o, vp, e, ht, hc⟩ := op_open hf hw
  refine ⟨o, vp, ?_, ht, hc⟩
  simp [Value.cells] at e
  obtain ⟨l⟩ := cs
  simp at e
  rw [e]
end
end Go.Proofs.YtlapdmgjfdelnaaGreat
