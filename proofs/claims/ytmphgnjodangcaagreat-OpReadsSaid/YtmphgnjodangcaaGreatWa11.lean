/- What the laws need, part 11: Arguments that are arrays, lists of numbers, and lists of what is known. No condition. Arguments that are changes, lists of changes, acts, or views. No condition. Arguments that are lists of acts. No condition. tributarylaw15.awake answers true; small, short. No condition. The law OpKinds answers true. No condition. The law OpRight answers true. No condition. The law OpSame answers true. No condition. The law OpReads answers true. No condition. The law OpApplies answers true. No condition. -/
import Derived.OpenShut
import Derived.Test.YtmphgnjodangcaaGreatWa10
namespace Go.Proofs.YtmphgnjodangcaaGreat
open Go.ChangeShapes Go.WideShapes Go.ChangeAt Go.RowKit
set_option maxRecDepth 100000

theorem Wt.arr {H : Type} {P : Program} {t e : TypeId} {n : Nat} {parts : List (DataW H)} (hu : P.underlying t = some (.array n e)) (h : Wt P t (.agg parts)) : ∀ d ∈ parts, Wt P e d := fun d hd m hm => by
  refine h m ?_
  unfold DataW.weights
  rw [hu]
  exact Wt.all hd m hm
section
variable {H : Type} {enc : TypeId × Value → H} {W : World}
/-- A number of 32 bits. -/
def I3E (n : Int) (cs : List Value) : Prop := cs = [.int .i32 n] ∧ -2147483648 ≤ n ∧ n ≤ 2147483647
end
end Go.Proofs.YtmphgnjodangcaaGreat

namespace Go.Proofs.YtmphgnjodangcaaGreat
open Go.ChangeShapes Go.WideShapes Go.ChangeAt Go.RowKit
set_option maxRecDepth 100000

theorem okOp : Tryz.prog.readableRec 80 = true ∧ 80 < Tryz.prog.types.size := ⟨by kernel_rfl, of_decide_eq_true (by kernel_rfl)⟩
theorem okView : Tryz.prog.readableRec 86 = true ∧ 86 < Tryz.prog.types.size := ⟨by kernel_rfl, of_decide_eq_true (by kernel_rfl)⟩
theorem cellsOp : Tryz.prog.cellsOf 80 = 4 := by kernel_rfl
theorem cellsView : Tryz.prog.cellsOf 86 = 4 := by kernel_rfl
theorem cellsStrings : Tryz.prog.cellsOf 39 = 1 := by kernel_rfl
theorem cellsBool : Tryz.prog.cellsOf 4 = 1 := by kernel_rfl
section
variable {H : Type} {enc : TypeId × Value → H} {w : World}
theorem op_open {fuel : Nat} {cs : List Value} {x : DataW H × List MemPlace} (h : DataW.trod enc Tryz.prog w 0 (fun _ => true) true fuel 80 cs = some x) (hw : Wt Tryz.prog 80 x.1) : ∃ o : Opr, OpE w w.heap.size o cs := by
  obtain ⟨xs, n, rfl, rfl, hl, hx, hf⟩ := DataW.trod_struct Tryz.underlying80 h
  rw [cellsOp] at hl
  match cs, hl with
  | [c0, c1, c2, c3], _ =>
    match xs, hx with
    | [y0, y1, y2, y3], _ =>
      have f0 : DataW.trod enc Tryz.prog w 0 (fun _ => true) true n 39 (([c0, c1, c2, c3].drop 0).take (Tryz.prog.cellsOf 39)) = some y0 := hf 0 _ rfl
      rw [cellsStrings] at f0
      have f1 : DataW.trod enc Tryz.prog w 0 (fun _ => true) true n 3 (([c0, c1, c2, c3].drop 1).take (Tryz.prog.cellsOf 3)) = some y1 := hf 1 _ rfl
      rw [cellsOne.2.1] at f1
      have f2 : DataW.trod enc Tryz.prog w 0 (fun _ => true) true n 9 (([c0, c1, c2, c3].drop 2).take (Tryz.prog.cellsOf 9)) = some y2 := hf 2 _ rfl
      rw [cellsOne.1] at f2
      have f3 : DataW.trod enc Tryz.prog w 0 (fun _ => true) true n 2 (([c0, c1, c2, c3].drop 3).take (Tryz.prog.cellsOf 2)) = some y3 := hf 3 _ rfl
      rw [cellsOne.2.2.1] at f3
      obtain ⟨v1, l, e0, hL⟩ := slc_open (E := StE) Tryz.underlying39 cellsOne.1 (by decide) bytesString (by decide) (show DataW.trod enc Tryz.prog w 0 (fun _ => true) true n 39 [c0] = some y0 from f0) (Wt.field Tryz.underlying80 hw (i := 0) rfl rfl)
        fun _ _ _ _ hy hwy => str_open hy hwy
      obtain ⟨a, e1, _, w1⟩ := DataW.trod_int Tryz.underlying3 (show DataW.trod enc Tryz.prog w 0 (fun _ => true) true n 3 [c1] = some y1 from f1)
      obtain ⟨s, e2, hs⟩ := str_open (show DataW.trod enc Tryz.prog w 0 (fun _ => true) true n 9 [c2] = some y2 from f2) (Wt.field Tryz.underlying80 hw (i := 2) rfl rfl)
      obtain ⟨b, e3, _, w3⟩ := DataW.trod_int Tryz.underlying2 (show DataW.trod enc Tryz.prog w 0 (fun _ => true) true n 2 [c3] = some y3 from f3)
      simp at e0 e1 e2 e3
      subst e0; subst e1; subst e2; subst e3
      exact ⟨⟨l, a, s, b⟩, _, rfl, hL, wf_i64 w1, wf_i64 w3, hs⟩
theorem view_open {fuel : Nat} {cs : List Value} {x : DataW H × List MemPlace} (h : DataW.trod enc Tryz.prog w 0 (fun _ => true) true fuel 86 cs = some x) (hw : Wt Tryz.prog 86 x.1) : ∃ v : Vw, VwE w w.heap.size v cs := by
  obtain ⟨xs, n, rfl, rfl, hl, hx, hf⟩ := DataW.trod_struct Tryz.underlying86 h
  rw [cellsView] at hl
  match cs, hl with
  | [c0, c1, c2, c3], _ =>
    match xs, hx with
    | [y0, y1, y2, y3], _ =>
      have f0 : DataW.trod enc Tryz.prog w 0 (fun _ => true) true n 3 (([c0, c1, c2, c3].drop 0).take (Tryz.prog.cellsOf 3)) = some y0 := hf 0 _ rfl
      rw [cellsOne.2.1] at f0
      have f1 : DataW.trod enc Tryz.prog w 0 (fun _ => true) true n 4 (([c0, c1, c2, c3].drop 1).take (Tryz.prog.cellsOf 4)) = some y1 := hf 1 _ rfl
      rw [cellsBool] at f1
      have f2 : DataW.trod enc Tryz.prog w 0 (fun _ => true) true n 2 (([c0, c1, c2, c3].drop 2).take (Tryz.prog.cellsOf 2)) = some y2 := hf 2 _ rfl
      rw [cellsOne.2.2.1] at f2
      have f3 : DataW.trod enc Tryz.prog w 0 (fun _ => true) true n 39 (([c0, c1, c2, c3].drop 3).take (Tryz.prog.cellsOf 39)) = some y3 := hf 3 _ rfl
      rw [cellsStrings] at f3
      obtain ⟨a, e0, _, w0⟩ := DataW.trod_int Tryz.underlying3 (show DataW.trod enc Tryz.prog w 0 (fun _ => true) true n 3 [c0] = some y0 from f0)
      obtain ⟨b, e1, _⟩ := DataW.trod_bool Tryz.underlying4 (show DataW.trod enc Tryz.prog w 0 (fun _ => true) true n 4 [c1] = some y1 from f1)
      obtain ⟨c, e2, _, w2⟩ := DataW.trod_int Tryz.underlying2 (show DataW.trod enc Tryz.prog w 0 (fun _ => true) true n 2 [c2] = some y2 from f2)
      obtain ⟨v1, l, e3, hL⟩ := slc_open (E := StE) Tryz.underlying39 cellsOne.1 (by decide) bytesString (by decide) (show DataW.trod enc Tryz.prog w 0 (fun _ => true) true n 39 [c3] = some y3 from f3) (Wt.field Tryz.underlying86 hw (i := 3) rfl rfl)
        fun _ _ _ _ hy hwy => str_open hy hwy
      simp at e0 e1 e2 e3
      subst e0; subst e1; subst e2; subst e3
      exact ⟨⟨a, b, c, l⟩, _, rfl, hL, wf_i64 w0, wf_i64 w2⟩
end
section
variable {H : Type} {enc : TypeId × Value → H} {W : World} {base : Nat} {v : Value} {d : DataW H} {p : List MemPlace}
theorem op_arg (hv : Value.okWide Tryz.prog W .any base 80 v) (h : DataW.Trod enc Tryz.prog W 0 (fun _ => true) true 80 v d p) (hw : Wt Tryz.prog 80 d) :
    ∃ o : Opr, ∃ vp, v = .agg #[vp, .int .i64 o.act, .string o.s, .int .i64 o.n] ∧ SlP W W.heap.size 1 StE vp o.path ∧ o.Ok := by
  obtain ⟨cs, rfl, hs⟩ := okWide_struct Tryz.underlying80 hv
  obtain ⟨fuel, hf⟩ := h
  obtain ⟨o, vp, e, ht, hc⟩ := op_open hf hw
  refine ⟨o, vp, ?_, ht, hc⟩
  simp [Value.cells] at e
  obtain ⟨l⟩ := cs
  simp at e
  rw [e]
theorem view_arg (hv : Value.okWide Tryz.prog W .any base 86 v) (h : DataW.Trod enc Tryz.prog W 0 (fun _ => true) true 86 v d p) (hw : Wt Tryz.prog 86 d) :
    ∃ x : Vw, ∃ vl, v = .agg #[.int .i64 x.kind, .bool x.on, .int .i64 x.n, vl] ∧ SlP W W.heap.size 1 StE vl x.l ∧ I64 x.kind ∧ I64 x.n := by
  obtain ⟨cs, rfl, hs⟩ := okWide_struct Tryz.underlying86 hv
  obtain ⟨fuel, hf⟩ := h
  obtain ⟨o, vp, e, ht, hc⟩ := view_open hf hw
  refine ⟨o, vp, ?_, ht, hc⟩
  simp [Value.cells] at e
  obtain ⟨l⟩ := cs
  simp at e
  rw [e]
end
end Go.Proofs.YtmphgnjodangcaaGreat

namespace Go.Proofs.YtmphgnjodangcaaGreat
open Go.ChangeShapes Go.WideShapes Go.ChangeAt Go.RowKit
set_option maxRecDepth 100000

/-- What is done: who makes a change, or hears what another one knows. -/
structure ActP where
  who : Int
  fr : Int
  hears : Bool
  o : Opr
def ActE (w : World) (B : Nat) (x : ActP) (cs : List Value) : Prop :=
  ∃ vp, cs = [.int .u8 x.who, .int .u8 x.fr, .bool x.hears, vp, .int .i64 x.o.act, .string x.o.s, .int .i64 x.o.n] ∧ SlP w B 1 StE vp x.o.path ∧ x.o.Ok ∧ 0 ≤ x.who ∧ x.who ≤ 255 ∧ 0 ≤ x.fr ∧ x.fr ≤ 255
section
variable {H : Type} {enc : TypeId × Value → H} {w : World}
end
section
variable {H : Type} {enc : TypeId × Value → H} {W : World} {base : Nat} {v : Value} {d : DataW H} {p : List MemPlace}
end
end Go.Proofs.YtmphgnjodangcaaGreat

namespace Go.Proofs.YtmphgnjodangcaaGreat
open Go.RowKit
set_option maxRecDepth 100000

theorem Calls.intEq {P : Program} {f : FuncId} {args : Array Value} {w : World} {a b : Int} (h : Calls P f args w fun e w' => e = .returned (.int .i64 a) ∧ Below w.heap.size w w') (hb : a = b) : Calls P f args w fun e w' => e = .returned (.int .i64 b) ∧ Below w.heap.size w w' := hb ▸ h
def cB : ByteArray := ⟨#[99]⟩
def o15 : Opr := ⟨[cB], 5, ByteArray.empty, 3⟩
def t15 : Tr := .mk [] [(cB, .mk [⟨1, 1, ByteArray.empty, 3⟩] [])]
theorem awk15_I : appI (.mk [] []) o15 ⟨1, 1⟩ = 0 := by kernel_rfl
theorem awk15_T : appT (.mk [] []) o15 ⟨1, 1⟩ = t15 := by kernel_rfl
theorem awk15_R : readI t15 [cB] = 0 := by kernel_rfl
theorem awk15_V : readV t15 [cB] = ⟨3, false, 3, []⟩ := by kernel_rfl
set_option maxHeartbeats 4000000 in
theorem awake15_any (w : World) : Calls Tryz.prog 73 #[] w fun e w' => e = .returned (.bool true) ∧ Below w.heap.size w w' := by
  have HO : Hid (o15.Ok) := ⟨⟨by decide, by decide⟩, ⟨by decide, by decide⟩, by decide⟩
  have HCB : Hid (cB.size ≤ Big) := by unfold Hid; decide
  have hb0 : Below w.heap.size w (w.alloc (.cells #[.string cB] 9)) := (Below.refl _ w).alloc (Nat.le_refl _) _
  go_enter Tryz.func73, Tryz.ntmps73
  go_wp2_with fail
  refine (opApply_any (.mk [] []) o15 ⟨1, 1⟩ _ _ _ _ rd_empty (SlP.oneB (E := StE) (x := cB) (cs := [.string cB]) ⟨rfl, HCB.out⟩ rfl _ rfl (by simp)) HO.out ⟨⟨by decide, by decide⟩, ⟨by decide, by decide⟩⟩ (by simp [Tr.sz, Tr.szL])).mono ?_
  rw [awk15_I, awk15_T]
  rintro e w1 ⟨ve, vk, vc, rfl, hrd, hsc, hb1⟩
  have hR := awk15_R
  have hV := awk15_V
  have hz : t15.sz ≤ 4000 := by decide
  generalize appC (.mk [] []) o15 ⟨1, 1⟩ = C at *
  generalize t15 = T at *
  obtain ⟨Ae, ne, Ak, nk, rfl, rfl⟩ := rda_shape hrd
  obtain ⟨Ac, nc, rfl⟩ := hsc.shape
  have hB1 : Below w.heap.size w w1 := hb0.trans (hb1.mono (by simp))
  have hv : Below w1.heap.size w1 ((w1.alloc (.cells #[.slice Ae T.es.length ne, .slice Ak T.ks.length nk, .slice Ac C.length nc] 31)).alloc (.cells #[.string cB] 9)) := ((Below.refl _ w1).alloc (Nat.le_refl _) _).alloc (by simp) _
  have HT := hid (rda_rd hrd (fun b hb => hb.2) hv)
  have HB := hid (hB1.trans (hv.mono (by have := hB1.size; omega)))
  clear hrd hsc hb1 hv
  go_wp2_with fail
  refine (opRead_any T [cB] _ _ _ _ HT.out (SlP.oneB (E := StE) (x := cB) (cs := [.string cB]) ⟨rfl, HCB.out⟩ rfl _ (by simp) (by simp)) hz).mono ?_
  rw [hR, hV]
  rintro e w2 ⟨vl, rfl, hsl, hb2⟩
  obtain ⟨Al, nl, rfl⟩ := hsl.shape
  have hB2 := HB.out.trans (hb2.mono HB.out.size)
  have hb3 := hB2.alloc (o := .cells #[.int .i64 3, .bool false, .int .i64 3, .slice Al 0 nl] 86) hB2.size
  clear hsl hb2
  go_wp2_with fail
  go_ret
  exact ⟨rfl, hb3⟩
set_option maxHeartbeats 1000000 in
theorem small15_any (t : Tr) (w : World) (ve vk : Value) (h : t.rd w w.heap.size ve vk) :
    Calls Tryz.prog 76 #[.agg #[ve, vk]] w fun e w' => e = .returned (.bool (smlB t 60)) ∧ Below w.heap.size w w' := by
  obtain ⟨A3, n3, A4, n4, rfl, rfl⟩ := rd_shape h
  have hb0 : Below w.heap.size w (w.alloc (.cells #[.slice A3 t.es.length n3, .slice A4 t.ks.length n4] 27)) := (Below.refl _ w).alloc (Nat.le_refl _) _
  have HT := hid (rd_below hb0 hb0.size _ _ _ h)
  clear h
  go_enter Tryz.func76, Tryz.ntmps76
  go_wp2_with fail
  refine (r08small_any t _ _ _ 60 HT.out (by decide) (by decide)).mono ?_
  rintro e w1 ⟨rfl, hb1⟩
  go_wp2_with fail
  go_ret
  exact ⟨rfl, hb0.trans (hb1.mono (by simp))⟩
/-- Acts in memory. -/
def AcL (w : World) (v : Value) (l : List ActP) : Prop := SlP w w.heap.size 7 (ActE w w.heap.size) v l
theorem AcL.up {w w' : World} {v : Value} {l : List ActP} (h : AcL w v l) (hb : Below w.heap.size w w') : AcL w' v l :=
  SlP.imp h hb hb.size fun _ _ _ ⟨vp, h1, h2, h3⟩ => ⟨vp, h1, h2.imp hb hb.size fun _ _ _ h => h, h3⟩
theorem AcL.at {w : World} {A : Option Addr} {n : Nat} {l : List ActP} (h : AcL w (.slice A l.length n) l) {k : Nat} {x : ActP} (hx : l[k]? = some x) :
    ∃ b off A5 c5, A = some ⟨b, off, none⟩ ∧ b < w.heap.size ∧ SlP w w.heap.size 1 StE (.slice A5 x.o.path.length c5) x.o.path ∧ x.o.Ok ∧ (0 ≤ x.who ∧ x.who ≤ 255 ∧ 0 ≤ x.fr ∧ x.fr ≤ 255) ∧
      ∀ W, Below w.heap.size w W → (W.cell? ⟨b, off + k * 7, none⟩ = some (.int .u8 x.who) ∧ W.cell? ⟨b, off + k * 7 + 1, none⟩ = some (.int .u8 x.fr) ∧ W.cell? ⟨b, off + k * 7 + 2, none⟩ = some (.bool x.hears) ∧ W.cell? ⟨b, off + k * 7 + 3, none⟩ = some (.slice A5 x.o.path.length c5) ∧ W.cell? ⟨b, off + k * 7 + 4, none⟩ = some (.int .i64 x.o.act) ∧ W.cell? ⟨b, off + k * 7 + 5, none⟩ = some (.string x.o.s) ∧ W.cell? ⟨b, off + k * 7 + 6, none⟩ = some (.int .i64 x.o.n)) := by
  obtain ⟨A', n', hv, _, _, h3⟩ := h
  cases hv
  obtain ⟨b, off, rfl, hb, hc⟩ := h3 (by rintro rfl; simp at hx)
  obtain ⟨cs, ⟨vp, rfl, hp, ho, hw⟩, _, hu⟩ := hc k x hx
  obtain ⟨A5, c5, rfl, hpp⟩ := id hp
  exact ⟨b, off, A5, c5, rfl, hb, hp, ho, hw, fun W hW => ⟨(hW.cell hb).trans (hu 0 _ rfl), (hW.cell hb).trans (hu 1 _ rfl), (hW.cell hb).trans (hu 2 _ rfl), (hW.cell hb).trans (hu 3 _ rfl), (hW.cell hb).trans (hu 4 _ rfl), (hW.cell hb).trans (hu 5 _ rfl), (hW.cell hb).trans (hu 6 _ rfl)⟩⟩
/-- Are there few acts, with short texts? -/
def shortL (l : List ActP) (most : Int) : Bool := decide ((l.length : Int) ≤ most) && l.all fun x => shortB x.o
end Go.Proofs.YtmphgnjodangcaaGreat

namespace Go.Proofs.YtmphgnjodangcaaGreat
open Go.RowKit
set_option maxRecDepth 100000

set_option maxHeartbeats 4000000 in
theorem lawKD_any (k : ByteArray) (w : World) (h0 : k.size ≤ Big) :
    Calls Tryz.prog 11 #[.string k] w fun e w' => e = .returned (.bool true) ∧ Below w.heap.size w w' := by
  have HX0 : Hid (∀ W, Below (w.heap.size + 0) w W → (Below w.heap.size w W ∧ w.heap.size + 0 ≤ (W).heap.size)) := fun W hW => by
    have hB : Below w.heap.size w W := (Below.refl _ w).trans (hW.mono (by omega))
    exact ⟨hB, by have := hW.size; simpa using this, ⟩
  go_enter Tryz.func11, Tryz.ntmps11
  obtain ⟨K, HKE⟩ : ∃ q, Hid (kindB k = q) := ⟨_, rfl⟩
  go_wp2_with fail
  obtain ⟨hB, hs⟩ := HX0.out _ (Below.refl _ _)
  refine (awake15_any _).mono ?_
  rintro e w1 ⟨rfl, hb⟩
  have hbk1 : Hid (Below (w.heap.size + 0) w w1) := hid (hb.mono (by first | omega | (simp; done) | (simp; omega)))
  clear hb
  clear hB hs
  obtain ⟨hB, hs⟩ := HX0.out _ hbk1.out
  go_wp2_with fail
  refine (Calls.intEq (opKind_any k _) HKE.out).mono ?_
  rintro e w2 ⟨rfl, hb⟩
  have hbk2 : Hid (Below (w.heap.size + 0) w w2) := hid (hbk1.out.trans (hb.mono (by first | omega | (simp; done) | (simp; omega))))
  clear hb
  clear hB hs
  obtain ⟨hB, hs⟩ := HX0.out _ hbk2.out
  go_wp2_with fail
  refine (Calls.intEq (r15kind_any k _ h0) HKE.out).mono ?_
  rintro e w3 ⟨rfl, hb⟩
  have hbk3 : Hid (Below (w.heap.size + 0) w w3) := hid (hbk2.out.trans (hb.mono (by first | omega | (simp; done) | (simp; omega))))
  clear hb
  clear hB hs
  obtain ⟨hB, hs⟩ := HX0.out _ hbk3.out
  go_wp2_with fail
  go_ret
  exact ⟨ret_bool (by simp), hB⟩
end Go.Proofs.YtmphgnjodangcaaGreat

namespace Go.Proofs.YtmphgnjodangcaaGreat
open Go.RowKit
set_option maxRecDepth 100000

set_option maxHeartbeats 4000000 in
theorem lawOR_any (o : Opr) (w : World) (vp0 : Value) (h0 : SlP w w.heap.size 1 StE vp0 o.path) (_ : o.Ok) :
    Calls Tryz.prog 14 #[.agg #[vp0, .int .i64 o.act, .string o.s, .int .i64 o.n]] w fun e w' => e = .returned (.bool true) ∧ Below w.heap.size w w' := by
  have HC0 : Hid (∀ w', Below w.heap.size w w' → SlP w' w'.heap.size 1 StE vp0 o.path) := fun w' hb => h0.imp hb hb.size fun _ _ _ h => h
  obtain ⟨A0, n0, rfl, _⟩ := h0
  have HX0 : Hid (∀ W, Below (w.heap.size + 1) (w.alloc (.cells #[.slice A0 o.path.length n0, .int .i64 o.act, .string o.s, .int .i64 o.n] 80)) W → (Below w.heap.size w W ∧ w.heap.size + 1 ≤ (W).heap.size ∧ SlP W (W).heap.size 1 StE (.slice A0 o.path.length n0) o.path ∧ (W).cell? ⟨w.heap.size, 0, none⟩ = some (.slice A0 o.path.length n0) ∧ (W).cell? ⟨w.heap.size, 1, none⟩ = some (.int .i64 o.act) ∧ (W).cell? ⟨w.heap.size, 2, none⟩ = some (.string o.s) ∧ (W).cell? ⟨w.heap.size, 3, none⟩ = some (.int .i64 o.n))) := fun W hW => by
    have g0 : W.heap[w.heap.size]? = some (.cells #[.slice A0 o.path.length n0, .int .i64 o.act, .string o.s, .int .i64 o.n] 80 (0, 0)) := (hW.block _ (by omega)).trans (heap_new rfl)
    have hB : Below w.heap.size w W := ((Below.refl _ w).alloc (Nat.le_refl _) _).trans (hW.mono (by omega))
    exact ⟨hB, by have := hW.size; simpa using this, HC0.out _ hB, cell_cells (i := 0) g0, cell_cells (i := 1) g0, cell_cells (i := 2) g0, cell_cells (i := 3) g0⟩
  go_enter Tryz.func14, Tryz.ntmps14
  have HOK := hid ‹o.Ok›
  go_wp2_with fail
  obtain ⟨hB, hs, rl0, c00, c01, c02, c03⟩ := HX0.out _ (Below.refl _ _)
  refine (awake15_any _).mono ?_
  rintro e w1 ⟨rfl, hb⟩
  have hbk1 : Hid (Below (w.heap.size + 1) (w.alloc (.cells #[.slice A0 o.path.length n0, .int .i64 o.act, .string o.s, .int .i64 o.n] 80)) w1) := hid (hb.mono (by first | omega | (simp; done) | (simp; omega)))
  clear hb
  clear hB hs rl0 c00 c01 c02 c03
  obtain ⟨hB, hs, rl0, c00, c01, c02, c03⟩ := HX0.out _ hbk1.out
  by_cases h20 : 100 < o.path.length
  · have h20' : decide ((100 : Int) < (o.path.length : Int)) = true := decide_eq_true (by omega)
    go_wp2_with fail
    refine (awake15_any _).mono ?_
    rintro e w2 ⟨rfl, hb⟩
    have hbk2 : Hid (Below (w.heap.size + 1) (w.alloc (.cells #[.slice A0 o.path.length n0, .int .i64 o.act, .string o.s, .int .i64 o.n] 80)) w2) := hid (hbk1.out.trans (hb.mono (by first | omega | (simp; done) | (simp; omega))))
    clear hb
    clear hB hs rl0 c00 c01 c02 c03
    obtain ⟨hB, hs, rl0, c00, c01, c02, c03⟩ := HX0.out _ hbk2.out
    go_wp2_with fail
    go_ret
    exact ⟨rfl, hB⟩
  · have h20' : decide ((100 : Int) < (o.path.length : Int)) = false := decide_eq_false (by omega)
    obtain ⟨P, HPE⟩ : ∃ q, Hid (pathI o.path = q) := ⟨_, rfl⟩
    obtain ⟨Q, HQE⟩ : ∃ q, Hid (opI o = q) := ⟨_, rfl⟩
    have HPB : Hid (decide (pathI o.path = 0) = (P == 0)) := by unfold Hid; rw [HPE.out, Bool.eq_iff_iff]; simp
    have HQB : Hid (decide (opI o = 0) = (Q == 0)) := by unfold Hid; rw [HQE.out, Bool.eq_iff_iff]; simp
    go_upto_region 3 with (fail)
    have hsz1 : (w.heap.size + 1) ≤ (w1).heap.size := (by first | omega | (simp; done) | (simp; omega))
    have Hrl0_1 : Hid (∀ W, Below (w.heap.size + 1) (w.alloc (.cells #[.slice A0 o.path.length n0, .int .i64 o.act, .string o.s, .int .i64 o.n] 80)) W → SlP W (W).heap.size 1 StE (.slice A0 o.path.length n0) o.path) := fun W hW => by
      obtain ⟨_, _, z, _, _, _, _⟩ := HX0.out W hW
      exact z
    have HQ1_0 := hid (fun (wf : World) (hbf : Below (w1).heap.size w1 wf) => Calls.boolEq (rightPath_any o.path _ wf (Hrl0_1.out _ (hbk1.out.trans (hbf.mono hsz1)))) HPB.out)
    have HQ1_1 := hid (fun (wf : World) (hbf : Below (w1).heap.size w1 wf) => Calls.intEq (r15path_any o.path _ wf (Hrl0_1.out _ (hbk1.out.trans (hbf.mono hsz1)))) HPE.out)
    have HQ1_2 := hid (fun (wf : World) (hbf : Below (w1).heap.size w1 wf) => Calls.boolEq (right15_any o _ wf (Hrl0_1.out _ (hbk1.out.trans (hbf.mono hsz1))) HOK.out) HQB.out)
    have HQ1_3 := hid (fun (wf : World) (hbf : Below (w1).heap.size w1 wf) => Calls.intEq (r15op_any o _ wf (Hrl0_1.out _ (hbk1.out.trans (hbf.mono hsz1))) HOK.out) HQE.out)
    have f_c00 := far_cell (B := (w1).heap.size) c00 (by first | omega | (simp; done) | (simp; omega))
    have f_c01 := far_cell (B := (w1).heap.size) c01 (by first | omega | (simp; done) | (simp; omega))
    have f_c02 := far_cell (B := (w1).heap.size) c02 (by first | omega | (simp; done) | (simp; omega))
    have f_c03 := far_cell (B := (w1).heap.size) c03 (by first | omega | (simp; done) | (simp; omega))
    clear hB hs rl0 c00 c01 c02 c03
    refine wp_region_far (w1).heap.size (by kernel_rfl) (by kernel_rfl) ?_
    repeat (go_big_quiet_step (first | (go_at_call 82; with_reducible exact Calls.far_all (Nat.le_refl _) HQ1_0.out) | (go_at_call 83; with_reducible exact Calls.far_all (Nat.le_refl _) HQ1_1.out) | (go_at_call 84; with_reducible exact Calls.far_all (Nat.le_refl _) HQ1_2.out) | (go_at_call 85; with_reducible exact Calls.far_all (Nat.le_refl _) HQ1_3.out)))
    refine wpQuiet_nil ?_
    intro w2 hb
    clear f_c00 f_c01 f_c02 f_c03
    have hbk2 : Hid (Below (w.heap.size + 1) (w.alloc (.cells #[.slice A0 o.path.length n0, .int .i64 o.act, .string o.s, .int .i64 o.n] 80)) w2) := hid (hbk1.out.trans (hb.mono hsz1))
    clear hb
    obtain ⟨hB, hs, rl0, c00, c01, c02, c03⟩ := HX0.out _ hbk2.out
    go_wp2_with fail
    go_ret
    exact ⟨ret_bool (by simp), hB⟩
end Go.Proofs.YtmphgnjodangcaaGreat

namespace Go.Proofs.YtmphgnjodangcaaGreat
open Go.RowKit
set_option maxRecDepth 100000

set_option maxHeartbeats 4000000 in
theorem lawSM_any (a : Vw) (b : Vw) (w : World) (vp0 vp1 : Value) (h0 : SlP w w.heap.size 1 StE vp0 a.l) (_ : I64 a.kind ∧ I64 a.n) (h1 : SlP w w.heap.size 1 StE vp1 b.l) (_ : I64 b.kind ∧ I64 b.n) :
    Calls Tryz.prog 15 #[.agg #[.int .i64 a.kind, .bool a.on, .int .i64 a.n, vp0], .agg #[.int .i64 b.kind, .bool b.on, .int .i64 b.n, vp1]] w fun e w' => e = .returned (.bool true) ∧ Below w.heap.size w w' := by
  have HC0 : Hid (∀ w', Below w.heap.size w w' → SlP w' w'.heap.size 1 StE vp0 a.l) := fun w' hb => h0.imp hb hb.size fun _ _ _ h => h
  obtain ⟨A0, n0, rfl, _⟩ := h0
  have HC1 : Hid (∀ w', Below w.heap.size w w' → SlP w' w'.heap.size 1 StE vp1 b.l) := fun w' hb => h1.imp hb hb.size fun _ _ _ h => h
  obtain ⟨A1, n1, rfl, _⟩ := h1
  have HX0 : Hid (∀ W, Below (w.heap.size + 2) ((w.alloc (.cells #[.int .i64 a.kind, .bool a.on, .int .i64 a.n, .slice A0 a.l.length n0] 86)).alloc (.cells #[.int .i64 b.kind, .bool b.on, .int .i64 b.n, .slice A1 b.l.length n1] 86)) W → (Below w.heap.size w W ∧ w.heap.size + 2 ≤ (W).heap.size ∧ SlP W (W).heap.size 1 StE (.slice A0 a.l.length n0) a.l ∧ SlP W (W).heap.size 1 StE (.slice A1 b.l.length n1) b.l ∧ (W).cell? ⟨w.heap.size, 0, none⟩ = some (.int .i64 a.kind) ∧ (W).cell? ⟨w.heap.size, 1, none⟩ = some (.bool a.on) ∧ (W).cell? ⟨w.heap.size, 2, none⟩ = some (.int .i64 a.n) ∧ (W).cell? ⟨w.heap.size, 3, none⟩ = some (.slice A0 a.l.length n0) ∧ (W).cell? ⟨(w.heap.size + 1), 0, none⟩ = some (.int .i64 b.kind) ∧ (W).cell? ⟨(w.heap.size + 1), 1, none⟩ = some (.bool b.on) ∧ (W).cell? ⟨(w.heap.size + 1), 2, none⟩ = some (.int .i64 b.n) ∧ (W).cell? ⟨(w.heap.size + 1), 3, none⟩ = some (.slice A1 b.l.length n1))) := fun W hW => by
    have g0 : W.heap[w.heap.size]? = some (.cells #[.int .i64 a.kind, .bool a.on, .int .i64 a.n, .slice A0 a.l.length n0] 86 (0, 0)) := (hW.block _ (by omega)).trans ((heap_old (by simp <;> omega)).trans (heap_new rfl))
    have g1 : W.heap[(w.heap.size + 1)]? = some (.cells #[.int .i64 b.kind, .bool b.on, .int .i64 b.n, .slice A1 b.l.length n1] 86 (0, 0)) := (hW.block _ (by omega)).trans (heap_new (by simp))
    have hB : Below w.heap.size w W := (((Below.refl _ w).alloc (Nat.le_refl _) _).alloc (by simp <;> omega) _).trans (hW.mono (by omega))
    exact ⟨hB, by have := hW.size; simpa using this, HC0.out _ hB, HC1.out _ hB, cell_cells (i := 0) g0, cell_cells (i := 1) g0, cell_cells (i := 2) g0, cell_cells (i := 3) g0, cell_cells (i := 0) g1, cell_cells (i := 1) g1, cell_cells (i := 2) g1, cell_cells (i := 3) g1⟩
  have hnb1 : w.heap.size + 1 ≠ w.heap.size := by omega
  go_enter Tryz.func15, Tryz.ntmps15
  go_wp2_with fail
  obtain ⟨hB, hs, rl0, rl1, c00, c01, c02, c03, c10, c11, c12, c13⟩ := HX0.out _ (Below.refl _ _)
  refine (awake15_any _).mono ?_
  rintro e w1 ⟨rfl, hb⟩
  have hbk1 : Hid (Below (w.heap.size + 2) ((w.alloc (.cells #[.int .i64 a.kind, .bool a.on, .int .i64 a.n, .slice A0 a.l.length n0] 86)).alloc (.cells #[.int .i64 b.kind, .bool b.on, .int .i64 b.n, .slice A1 b.l.length n1] 86)) w1) := hid (hb.mono (by first | omega | (simp; done) | (simp; omega)))
  clear hb
  clear hB hs rl0 rl1 c00 c01 c02 c03 c10 c11 c12 c13
  obtain ⟨hB, hs, rl0, rl1, c00, c01, c02, c03, c10, c11, c12, c13⟩ := HX0.out _ hbk1.out
  by_cases h20 : 1000 < a.l.length
  · have h20' : decide ((1000 : Int) < (a.l.length : Int)) = true := decide_eq_true (by omega)
    go_wp2_with fail
    refine (awake15_any _).mono ?_
    rintro e w2 ⟨rfl, hb⟩
    have hbk2 : Hid (Below (w.heap.size + 2) ((w.alloc (.cells #[.int .i64 a.kind, .bool a.on, .int .i64 a.n, .slice A0 a.l.length n0] 86)).alloc (.cells #[.int .i64 b.kind, .bool b.on, .int .i64 b.n, .slice A1 b.l.length n1] 86)) w2) := hid (hbk1.out.trans (hb.mono (by first | omega | (simp; done) | (simp; omega))))
    clear hb
    clear hB hs rl0 rl1 c00 c01 c02 c03 c10 c11 c12 c13
    obtain ⟨hB, hs, rl0, rl1, c00, c01, c02, c03, c10, c11, c12, c13⟩ := HX0.out _ hbk2.out
    go_wp2_with fail
    go_ret
    exact ⟨rfl, hB⟩
  · have h20' : decide ((1000 : Int) < (a.l.length : Int)) = false := decide_eq_false (by omega)
    obtain ⟨B, HBE⟩ : ∃ q, Hid (vwEq a b = q) := ⟨_, rfl⟩
    go_upto_region 3 with (fail)
    have hsz1 : (w.heap.size + 2) ≤ (w1).heap.size := (by first | omega | (simp; done) | (simp; omega))
    have Hrl0_1 : Hid (∀ W, Below (w.heap.size + 2) ((w.alloc (.cells #[.int .i64 a.kind, .bool a.on, .int .i64 a.n, .slice A0 a.l.length n0] 86)).alloc (.cells #[.int .i64 b.kind, .bool b.on, .int .i64 b.n, .slice A1 b.l.length n1] 86)) W → SlP W (W).heap.size 1 StE (.slice A0 a.l.length n0) a.l) := fun W hW => by
      obtain ⟨_, _, z, _, _, _, _, _, _, _, _, _⟩ := HX0.out W hW
      exact z
    have Hrl1_1 : Hid (∀ W, Below (w.heap.size + 2) ((w.alloc (.cells #[.int .i64 a.kind, .bool a.on, .int .i64 a.n, .slice A0 a.l.length n0] 86)).alloc (.cells #[.int .i64 b.kind, .bool b.on, .int .i64 b.n, .slice A1 b.l.length n1] 86)) W → SlP W (W).heap.size 1 StE (.slice A1 b.l.length n1) b.l) := fun W hW => by
      obtain ⟨_, _, _, z, _, _, _, _, _, _, _, _⟩ := HX0.out W hW
      exact z
    have HQ1_0 := hid (fun (wf : World) (hbf : Below (w1).heap.size w1 wf) => Calls.boolEq (opSame_any a b _ _ wf (Hrl0_1.out _ (hbk1.out.trans (hbf.mono hsz1))) (Hrl1_1.out _ (hbk1.out.trans (hbf.mono hsz1)))) HBE.out)
    have HQ1_1 := hid (fun (wf : World) (hbf : Below (w1).heap.size w1 wf) => Calls.boolEq (r15same_any a b _ _ wf (Hrl0_1.out _ (hbk1.out.trans (hbf.mono hsz1))) (Hrl1_1.out _ (hbk1.out.trans (hbf.mono hsz1)))) HBE.out)
    have HQ1_2 := hid (fun (wf : World) (hbf : Below (w1).heap.size w1 wf) => Calls.boolEq (opSame_any a a _ _ wf (Hrl0_1.out _ (hbk1.out.trans (hbf.mono hsz1))) (Hrl0_1.out _ (hbk1.out.trans (hbf.mono hsz1)))) (vwEq_self a))
    have f_c00 := far_cell (B := (w1).heap.size) c00 (by first | omega | (simp; done) | (simp; omega))
    have f_c01 := far_cell (B := (w1).heap.size) c01 (by first | omega | (simp; done) | (simp; omega))
    have f_c02 := far_cell (B := (w1).heap.size) c02 (by first | omega | (simp; done) | (simp; omega))
    have f_c03 := far_cell (B := (w1).heap.size) c03 (by first | omega | (simp; done) | (simp; omega))
    have f_c10 := far_cell (B := (w1).heap.size) c10 (by first | omega | (simp; done) | (simp; omega))
    have f_c11 := far_cell (B := (w1).heap.size) c11 (by first | omega | (simp; done) | (simp; omega))
    have f_c12 := far_cell (B := (w1).heap.size) c12 (by first | omega | (simp; done) | (simp; omega))
    have f_c13 := far_cell (B := (w1).heap.size) c13 (by first | omega | (simp; done) | (simp; omega))
    clear hB hs rl0 rl1 c00 c01 c02 c03 c10 c11 c12 c13
    refine wp_region_far (w1).heap.size (by kernel_rfl) (by kernel_rfl) ?_
    repeat (go_big_quiet_step (first | (go_at_call 86; with_reducible exact Calls.far_all (Nat.le_refl _) HQ1_0.out) | (go_at_call 81; with_reducible exact Calls.far_all (Nat.le_refl _) HQ1_1.out) | (go_at_call 86; with_reducible exact Calls.far_all (Nat.le_refl _) HQ1_2.out)))
    refine wpQuiet_nil ?_
    intro w2 hb
    clear f_c00 f_c01 f_c02 f_c03 f_c10 f_c11 f_c12 f_c13
    have hbk2 : Hid (Below (w.heap.size + 2) ((w.alloc (.cells #[.int .i64 a.kind, .bool a.on, .int .i64 a.n, .slice A0 a.l.length n0] 86)).alloc (.cells #[.int .i64 b.kind, .bool b.on, .int .i64 b.n, .slice A1 b.l.length n1] 86)) w2) := hid (hbk1.out.trans (hb.mono hsz1))
    clear hb
    obtain ⟨hB, hs, rl0, rl1, c00, c01, c02, c03, c10, c11, c12, c13⟩ := HX0.out _ hbk2.out
    go_wp2_with fail
    go_ret
    exact ⟨ret_bool (by simp), hB⟩
end Go.Proofs.YtmphgnjodangcaaGreat

namespace Go.Proofs.YtmphgnjodangcaaGreat
open Go.RowKit
set_option maxRecDepth 100000

set_option maxHeartbeats 4000000 in
theorem lawRD_any (t : Tr) (p : List ByteArray) (w : World) (ve0 vk0 vl1 : Value) (h0 : t.rd w w.heap.size ve0 vk0) (h1 : SlP w w.heap.size 1 StE vl1 p) :
    Calls Tryz.prog 13 #[.agg #[ve0, vk0], vl1] w fun e w' => e = .returned (.bool true) ∧ Below w.heap.size w w' := by
  have HC0 : Hid (∀ w', Below w.heap.size w w' → t.rd w' w'.heap.size ve0 vk0) := fun w' hb => rd_below hb hb.size _ _ _ h0
  obtain ⟨A0, n0, B0, m0, rfl, rfl⟩ := rd_shape h0
  clear h0
  have HC1 : Hid (∀ w', Below w.heap.size w w' → SlP w' w'.heap.size 1 StE vl1 p) := fun w' hb => h1.imp hb hb.size fun _ _ _ h => h
  obtain ⟨A1, n1, rfl, _⟩ := h1
  have HX0 : Hid (∀ W, Below (w.heap.size + 1) (w.alloc (.cells #[.slice A0 t.es.length n0, .slice B0 t.ks.length m0] 27)) W → (Below w.heap.size w W ∧ w.heap.size + 1 ≤ (W).heap.size ∧ t.rd W (W).heap.size (.slice A0 t.es.length n0) (.slice B0 t.ks.length m0) ∧ SlP W (W).heap.size 1 StE (.slice A1 p.length n1) p ∧ (W).cell? ⟨w.heap.size, 0, none⟩ = some (.slice A0 t.es.length n0) ∧ (W).cell? ⟨w.heap.size, 1, none⟩ = some (.slice B0 t.ks.length m0))) := fun W hW => by
    have g0 : W.heap[w.heap.size]? = some (.cells #[.slice A0 t.es.length n0, .slice B0 t.ks.length m0] 27 (0, 0)) := (hW.block _ (by omega)).trans (heap_new rfl)
    have hB : Below w.heap.size w W := ((Below.refl _ w).alloc (Nat.le_refl _) _).trans (hW.mono (by omega))
    exact ⟨hB, by have := hW.size; simpa using this, HC0.out _ hB, HC1.out _ hB, cell_cells (i := 0) g0, cell_cells (i := 1) g0⟩
  go_enter Tryz.func13, Tryz.ntmps13
  go_wp2_with fail
  obtain ⟨hB, hs, rt0, rl1, c00, c01⟩ := HX0.out _ (Below.refl _ _)
  refine (awake15_any _).mono ?_
  rintro e w1 ⟨rfl, hb⟩
  have hbk1 : Hid (Below (w.heap.size + 1) (w.alloc (.cells #[.slice A0 t.es.length n0, .slice B0 t.ks.length m0] 27)) w1) := hid (hb.mono (by first | omega | (simp; done) | (simp; omega)))
  clear hb
  clear hB hs rt0 rl1 c00 c01
  obtain ⟨hB, hs, rt0, rl1, c00, c01⟩ := HX0.out _ hbk1.out
  go_wp2_with fail
  refine (small15_any t _ _ _ rt0).mono ?_
  rintro e w2 ⟨rfl, hb⟩
  have hbk2 : Hid (Below (w.heap.size + 1) (w.alloc (.cells #[.slice A0 t.es.length n0, .slice B0 t.ks.length m0] 27)) w2) := hid (hbk1.out.trans (hb.mono (by first | omega | (simp; done) | (simp; omega))))
  clear hb
  clear hB hs rt0 rl1 c00 c01
  obtain ⟨hB, hs, rt0, rl1, c00, c01⟩ := HX0.out _ hbk2.out
  cases hs : smlB t 60
  · clear hs
    go_wp2_with fail
    refine (awake15_any _).mono ?_
    rintro e w3 ⟨rfl, hb⟩
    have hbk3 : Hid (Below (w.heap.size + 1) (w.alloc (.cells #[.slice A0 t.es.length n0, .slice B0 t.ks.length m0] 27)) w3) := hid (hbk2.out.trans (hb.mono (by first | omega | (simp; done) | (simp; omega))))
    clear hb
    clear hB hs rt0 rl1 c00 c01
    obtain ⟨hB, hs, rt0, rl1, c00, c01⟩ := HX0.out _ hbk3.out
    go_wp2_with fail
    go_ret
    exact ⟨rfl, hB⟩
  have hsz : t.sz ≤ 60 := by have := sml_sz hs; omega
  clear hs
  by_cases h20 : 20 < p.length
  · have h20' : decide ((20 : Int) < (p.length : Int)) = true := decide_eq_true (by omega)
    go_wp2_with fail
    refine (awake15_any _).mono ?_
    rintro e w3 ⟨rfl, hb⟩
    have hbk3 : Hid (Below (w.heap.size + 1) (w.alloc (.cells #[.slice A0 t.es.length n0, .slice B0 t.ks.length m0] 27)) w3) := hid (hbk2.out.trans (hb.mono (by first | omega | (simp; done) | (simp; omega))))
    clear hb
    clear hB hs rt0 rl1 c00 c01
    obtain ⟨hB, hs, rt0, rl1, c00, c01⟩ := HX0.out _ hbk3.out
    go_wp2_with fail
    go_ret
    exact ⟨rfl, hB⟩
  · have h20' : decide ((20 : Int) < (p.length : Int)) = false := decide_eq_false (by omega)
    obtain ⟨V, HVE⟩ : ∃ q, Hid (readV t p = q) := ⟨_, rfl⟩
    obtain ⟨E, HEE⟩ : ∃ q, Hid (readI t p = q) := ⟨_, rfl⟩
    go_wp2_with fail
    refine (opRead_any t p _ _ _ _ rt0 rl1 (by omega)).mono ?_
    rw [HVE.out, HEE.out]
    rintro e w3 ⟨vl3, rfl, hsl3, hb⟩
    obtain ⟨D3x, k3x, rfl⟩ := hsl3.shape
    have hbk3 : Hid (Below (w.heap.size + 1) (w.alloc (.cells #[.slice A0 t.es.length n0, .slice B0 t.ks.length m0] 27)) w3) := hid (hbk2.out.trans (hb.mono (by first | omega | (simp; done) | (simp; omega))))
    clear hb
    clear hB hs rt0 rl1 c00 c01
    obtain ⟨hB, hs, rt0, rl1, c00, c01⟩ := HX0.out _ hbk3.out
    have hlt357 : w.heap.size < w3.heap.size := by omega
    have hne357 : w.heap.size ≠ w3.heap.size := by omega
    have hnr357 : w3.heap.size ≠ w.heap.size := by omega
    have HX1 : Hid (∀ W, Below (w3.heap.size + 1) (w3.alloc (.cells #[.int .i64 V.kind, .bool V.on, .int .i64 V.n, .slice D3x V.l.length k3x] 86)) W → (w3.heap.size + 1 ≤ (W).heap.size ∧ SlP W (W).heap.size 1 StE (.slice D3x V.l.length k3x) V.l ∧ (W).cell? ⟨w3.heap.size, 0, none⟩ = some (.int .i64 V.kind) ∧ (W).cell? ⟨w3.heap.size, 1, none⟩ = some (.bool V.on) ∧ (W).cell? ⟨w3.heap.size, 2, none⟩ = some (.int .i64 V.n) ∧ (W).cell? ⟨w3.heap.size, 3, none⟩ = some (.slice D3x V.l.length k3x) ∧ Below w.heap.size w W ∧ w.heap.size + 1 ≤ (W).heap.size ∧ t.rd W (W).heap.size (.slice A0 t.es.length n0) (.slice B0 t.ks.length m0) ∧ SlP W (W).heap.size 1 StE (.slice A1 p.length n1) p ∧ (W).cell? ⟨w.heap.size, 0, none⟩ = some (.slice A0 t.es.length n0) ∧ (W).cell? ⟨w.heap.size, 1, none⟩ = some (.slice B0 t.ks.length m0))) := fun W hW => by
      have g0 := (hW.block w3.heap.size (by omega)).trans (heap_new rfl)
      have hB : Below w3.heap.size w3 W := ((Below.refl _ w3).alloc (Nat.le_refl _) _).trans (hW.mono (by omega))
      exact ⟨by have := hW.size; simpa using this, hsl3.slp (fun b hb => hb.2) hB, cell_cells (i := 0) g0, cell_cells (i := 1) g0, cell_cells (i := 2) g0, cell_cells (i := 3) g0, HX0.out W (hbk3.out.trans (hB.mono (by omega)))⟩
    clear hsl3
    go_wp2_with fail
    clear hB hs rt0 rl1 c00 c01
    obtain ⟨hs_x, rl_x, c0_x, c1_x, c2_x, c3_x, hB, hs, rt0, rl1, c00, c01⟩ := HX1.out _ (Below.refl _ _)
    refine (r15read_any t p _ _ _ _ rt0 rl1 (by omega)).mono ?_
    rw [HVE.out, HEE.out]
    rintro e w4 ⟨vl4, rfl, hsl4, hb⟩
    obtain ⟨D4x, k4x, rfl⟩ := hsl4.shape
    have hbk4 : Hid (Below (w3.heap.size + 1) (w3.alloc (.cells #[.int .i64 V.kind, .bool V.on, .int .i64 V.n, .slice D3x V.l.length k3x] 86)) w4) := hid (hb.mono (by first | omega | (simp; done) | (simp; omega)))
    clear hb
    clear hs_x rl_x c0_x c1_x c2_x c3_x hB hs rt0 rl1 c00 c01
    obtain ⟨hs_x, rl_x, c0_x, c1_x, c2_x, c3_x, hB, hs, rt0, rl1, c00, c01⟩ := HX1.out _ hbk4.out
    have hlt457 : w.heap.size < w4.heap.size := by omega
    have hne457 : w.heap.size ≠ w4.heap.size := by omega
    have hnr457 : w4.heap.size ≠ w.heap.size := by omega
    have hlt4148 : w3.heap.size < w4.heap.size := by omega
    have hne4148 : w3.heap.size ≠ w4.heap.size := by omega
    have hnr4148 : w4.heap.size ≠ w3.heap.size := by omega
    have HX2 : Hid (∀ W, Below (w4.heap.size + 1) (w4.alloc (.cells #[.int .i64 V.kind, .bool V.on, .int .i64 V.n, .slice D4x V.l.length k4x] 86)) W → (w4.heap.size + 1 ≤ (W).heap.size ∧ SlP W (W).heap.size 1 StE (.slice D4x V.l.length k4x) V.l ∧ (W).cell? ⟨w4.heap.size, 0, none⟩ = some (.int .i64 V.kind) ∧ (W).cell? ⟨w4.heap.size, 1, none⟩ = some (.bool V.on) ∧ (W).cell? ⟨w4.heap.size, 2, none⟩ = some (.int .i64 V.n) ∧ (W).cell? ⟨w4.heap.size, 3, none⟩ = some (.slice D4x V.l.length k4x) ∧ w3.heap.size + 1 ≤ (W).heap.size ∧ SlP W (W).heap.size 1 StE (.slice D3x V.l.length k3x) V.l ∧ (W).cell? ⟨w3.heap.size, 0, none⟩ = some (.int .i64 V.kind) ∧ (W).cell? ⟨w3.heap.size, 1, none⟩ = some (.bool V.on) ∧ (W).cell? ⟨w3.heap.size, 2, none⟩ = some (.int .i64 V.n) ∧ (W).cell? ⟨w3.heap.size, 3, none⟩ = some (.slice D3x V.l.length k3x) ∧ Below w.heap.size w W ∧ w.heap.size + 1 ≤ (W).heap.size ∧ t.rd W (W).heap.size (.slice A0 t.es.length n0) (.slice B0 t.ks.length m0) ∧ SlP W (W).heap.size 1 StE (.slice A1 p.length n1) p ∧ (W).cell? ⟨w.heap.size, 0, none⟩ = some (.slice A0 t.es.length n0) ∧ (W).cell? ⟨w.heap.size, 1, none⟩ = some (.slice B0 t.ks.length m0))) := fun W hW => by
      have g0 := (hW.block w4.heap.size (by omega)).trans (heap_new rfl)
      have hB : Below w4.heap.size w4 W := ((Below.refl _ w4).alloc (Nat.le_refl _) _).trans (hW.mono (by omega))
      exact ⟨by have := hW.size; simpa using this, hsl4.slp (fun b hb => hb.2) hB, cell_cells (i := 0) g0, cell_cells (i := 1) g0, cell_cells (i := 2) g0, cell_cells (i := 3) g0, HX1.out W (hbk4.out.trans (hB.mono (by omega)))⟩
    clear hsl4
    go_wp2_with fail
    clear hs_x rl_x c0_x c1_x c2_x c3_x hB hs rt0 rl1 c00 c01
    obtain ⟨hs_y, rl_y, c0_y, c1_y, c2_y, c3_y, hs_x, rl_x, c0_x, c1_x, c2_x, c3_x, hB, hs, rt0, rl1, c00, c01⟩ := HX2.out _ (Below.refl _ _)
    refine (r15same_any V V _ _ _ rl_x rl_y).mono ?_
    rw [vwEq_self]
    rintro e w5 ⟨rfl, hb⟩
    have hbk5 : Hid (Below (w4.heap.size + 1) (w4.alloc (.cells #[.int .i64 V.kind, .bool V.on, .int .i64 V.n, .slice D4x V.l.length k4x] 86)) w5) := hid (hb.mono (by first | omega | (simp; done) | (simp; omega)))
    clear hb
    clear hs_y rl_y c0_y c1_y c2_y c3_y hs_x rl_x c0_x c1_x c2_x c3_x hB hs rt0 rl1 c00 c01
    obtain ⟨hs_y, rl_y, c0_y, c1_y, c2_y, c3_y, hs_x, rl_x, c0_x, c1_x, c2_x, c3_x, hB, hs, rt0, rl1, c00, c01⟩ := HX2.out _ hbk5.out
    go_wp2_with fail
    go_ret
    exact ⟨rfl, hB⟩
end Go.Proofs.YtmphgnjodangcaaGreat

namespace Go.Proofs.YtmphgnjodangcaaGreat
open Go.RowKit
set_option maxRecDepth 100000

set_option maxHeartbeats 4000000 in
theorem lawAP_any (t : Tr) (o : Opr) (d : Dt) (w : World) (ve0 vk0 vp1 : Value) (h0 : t.rd w w.heap.size ve0 vk0) (h1 : SlP w w.heap.size 1 StE vp1 o.path) (_ : o.Ok) (h2 : d.Ok) :
    Calls Tryz.prog 12 #[.agg #[ve0, vk0], .agg #[vp1, .int .i64 o.act, .string o.s, .int .i64 o.n], .agg #[.int .i64 d.dc, .int .i64 d.n]] w fun e w' => e = .returned (.bool true) ∧ Below w.heap.size w w' := by
  have HC0 : Hid (∀ w', Below w.heap.size w w' → t.rd w' w'.heap.size ve0 vk0) := fun w' hb => rd_below hb hb.size _ _ _ h0
  obtain ⟨A0, n0, B0, m0, rfl, rfl⟩ := rd_shape h0
  clear h0
  have HC1 : Hid (∀ w', Below w.heap.size w w' → SlP w' w'.heap.size 1 StE vp1 o.path) := fun w' hb => h1.imp hb hb.size fun _ _ _ h => h
  obtain ⟨A1, n1, rfl, _⟩ := h1
  have HX0 : Hid (∀ W, Below (w.heap.size + 3) (((w.alloc (.cells #[.slice A0 t.es.length n0, .slice B0 t.ks.length m0] 27)).alloc (.cells #[.slice A1 o.path.length n1, .int .i64 o.act, .string o.s, .int .i64 o.n] 80)).alloc (.cells #[.int .i64 d.dc, .int .i64 d.n] 54)) W → (Below w.heap.size w W ∧ w.heap.size + 3 ≤ (W).heap.size ∧ t.rd W (W).heap.size (.slice A0 t.es.length n0) (.slice B0 t.ks.length m0) ∧ SlP W (W).heap.size 1 StE (.slice A1 o.path.length n1) o.path ∧ (W).cell? ⟨w.heap.size, 0, none⟩ = some (.slice A0 t.es.length n0) ∧ (W).cell? ⟨w.heap.size, 1, none⟩ = some (.slice B0 t.ks.length m0) ∧ (W).cell? ⟨(w.heap.size + 1), 0, none⟩ = some (.slice A1 o.path.length n1) ∧ (W).cell? ⟨(w.heap.size + 1), 1, none⟩ = some (.int .i64 o.act) ∧ (W).cell? ⟨(w.heap.size + 1), 2, none⟩ = some (.string o.s) ∧ (W).cell? ⟨(w.heap.size + 1), 3, none⟩ = some (.int .i64 o.n) ∧ (W).cell? ⟨(w.heap.size + 2), 0, none⟩ = some (.int .i64 d.dc) ∧ (W).cell? ⟨(w.heap.size + 2), 1, none⟩ = some (.int .i64 d.n))) := fun W hW => by
    have g0 : W.heap[w.heap.size]? = some (.cells #[.slice A0 t.es.length n0, .slice B0 t.ks.length m0] 27 (0, 0)) := (hW.block _ (by omega)).trans ((heap_old (by simp <;> omega)).trans ((heap_old (by simp <;> omega)).trans (heap_new rfl)))
    have g1 : W.heap[(w.heap.size + 1)]? = some (.cells #[.slice A1 o.path.length n1, .int .i64 o.act, .string o.s, .int .i64 o.n] 80 (0, 0)) := (hW.block _ (by omega)).trans ((heap_old (by simp <;> omega)).trans (heap_new (by simp)))
    have g2 : W.heap[(w.heap.size + 2)]? = some (.cells #[.int .i64 d.dc, .int .i64 d.n] 54 (0, 0)) := (hW.block _ (by omega)).trans (heap_new (by simp))
    have hB : Below w.heap.size w W := ((((Below.refl _ w).alloc (Nat.le_refl _) _).alloc (by simp <;> omega) _).alloc (by simp <;> omega) _).trans (hW.mono (by omega))
    exact ⟨hB, by have := hW.size; simpa using this, HC0.out _ hB, HC1.out _ hB, cell_cells (i := 0) g0, cell_cells (i := 1) g0, cell_cells (i := 0) g1, cell_cells (i := 1) g1, cell_cells (i := 2) g1, cell_cells (i := 3) g1, cell_cells (i := 0) g2, cell_cells (i := 1) g2⟩
  have hnb1 : w.heap.size + 1 ≠ w.heap.size := by omega
  have hnb2 : w.heap.size + 2 ≠ w.heap.size := by omega
  go_enter Tryz.func12, Tryz.ntmps12
  have HOK := hid ‹o.Ok›
  go_wp2_with fail
  obtain ⟨hB, hs, rt0, rl1, c00, c01, c10, c11, c12, c13, c20, c21⟩ := HX0.out _ (Below.refl _ _)
  refine (awake15_any _).mono ?_
  rintro e w1 ⟨rfl, hb⟩
  have hbk1 : Hid (Below (w.heap.size + 3) (((w.alloc (.cells #[.slice A0 t.es.length n0, .slice B0 t.ks.length m0] 27)).alloc (.cells #[.slice A1 o.path.length n1, .int .i64 o.act, .string o.s, .int .i64 o.n] 80)).alloc (.cells #[.int .i64 d.dc, .int .i64 d.n] 54)) w1) := hid (hb.mono (by first | omega | (simp; done) | (simp; omega)))
  clear hb
  clear hB hs rt0 rl1 c00 c01 c10 c11 c12 c13 c20 c21
  obtain ⟨hB, hs, rt0, rl1, c00, c01, c10, c11, c12, c13, c20, c21⟩ := HX0.out _ hbk1.out
  go_wp2_with fail
  refine (small15_any t _ _ _ rt0).mono ?_
  rintro e w2 ⟨rfl, hb⟩
  have hbk2 : Hid (Below (w.heap.size + 3) (((w.alloc (.cells #[.slice A0 t.es.length n0, .slice B0 t.ks.length m0] 27)).alloc (.cells #[.slice A1 o.path.length n1, .int .i64 o.act, .string o.s, .int .i64 o.n] 80)).alloc (.cells #[.int .i64 d.dc, .int .i64 d.n] 54)) w2) := hid (hbk1.out.trans (hb.mono (by first | omega | (simp; done) | (simp; omega))))
  clear hb
  clear hB hs rt0 rl1 c00 c01 c10 c11 c12 c13 c20 c21
  obtain ⟨hB, hs, rt0, rl1, c00, c01, c10, c11, c12, c13, c20, c21⟩ := HX0.out _ hbk2.out
  cases hs : smlB t 60
  · clear hs
    go_wp2_with fail
    refine (awake15_any _).mono ?_
    rintro e w3 ⟨rfl, hb⟩
    have hbk3 : Hid (Below (w.heap.size + 3) (((w.alloc (.cells #[.slice A0 t.es.length n0, .slice B0 t.ks.length m0] 27)).alloc (.cells #[.slice A1 o.path.length n1, .int .i64 o.act, .string o.s, .int .i64 o.n] 80)).alloc (.cells #[.int .i64 d.dc, .int .i64 d.n] 54)) w3) := hid (hbk2.out.trans (hb.mono (by first | omega | (simp; done) | (simp; omega))))
    clear hb
    clear hB hs rt0 rl1 c00 c01 c10 c11 c12 c13 c20 c21
    obtain ⟨hB, hs, rt0, rl1, c00, c01, c10, c11, c12, c13, c20, c21⟩ := HX0.out _ hbk3.out
    go_wp2_with fail
    go_ret
    exact ⟨rfl, hB⟩
  have hsz : t.sz ≤ 60 := by have := sml_sz hs; omega
  clear hs
  by_cases h20 : 20 < o.path.length
  · have h20' : decide ((20 : Int) < (o.path.length : Int)) = true := decide_eq_true (by omega)
    go_wp2_with fail
    refine (awake15_any _).mono ?_
    rintro e w3 ⟨rfl, hb⟩
    have hbk3 : Hid (Below (w.heap.size + 3) (((w.alloc (.cells #[.slice A0 t.es.length n0, .slice B0 t.ks.length m0] 27)).alloc (.cells #[.slice A1 o.path.length n1, .int .i64 o.act, .string o.s, .int .i64 o.n] 80)).alloc (.cells #[.int .i64 d.dc, .int .i64 d.n] 54)) w3) := hid (hbk2.out.trans (hb.mono (by first | omega | (simp; done) | (simp; omega))))
    clear hb
    clear hB hs rt0 rl1 c00 c01 c10 c11 c12 c13 c20 c21
    obtain ⟨hB, hs, rt0, rl1, c00, c01, c10, c11, c12, c13, c20, c21⟩ := HX0.out _ hbk3.out
    go_wp2_with fail
    go_ret
    exact ⟨rfl, hB⟩
  · have h20' : decide ((20 : Int) < (o.path.length : Int)) = false := decide_eq_false (by omega)
    have hpl : o.path.length ≤ 20 := by omega
    obtain ⟨X, HXE⟩ : ∃ q, Hid (appT t o d = q) := ⟨_, rfl⟩
    obtain ⟨Y, HYE⟩ : ∃ q, Hid (appC t o d = q) := ⟨_, rfl⟩
    obtain ⟨E, HEE⟩ : ∃ q, Hid (appI t o d = q) := ⟨_, rfl⟩
    go_wp2_with fail
    refine (opApply_any t o d _ _ _ _ rt0 rl1 HOK.out h2 (by omega)).mono ?_
    rw [HXE.out, HYE.out, HEE.out]
    rintro e w3 ⟨xe3, xk3, xc3, rfl, hrd3, hsl3, hb⟩
    obtain ⟨A3x, n3x, B3x, m3x, rfl, rfl⟩ := rda_shape hrd3
    obtain ⟨D3x, k3x, rfl⟩ := hsl3.shape
    have hbk3 : Hid (Below (w.heap.size + 3) (((w.alloc (.cells #[.slice A0 t.es.length n0, .slice B0 t.ks.length m0] 27)).alloc (.cells #[.slice A1 o.path.length n1, .int .i64 o.act, .string o.s, .int .i64 o.n] 80)).alloc (.cells #[.int .i64 d.dc, .int .i64 d.n] 54)) w3) := hid (hbk2.out.trans (hb.mono (by first | omega | (simp; done) | (simp; omega))))
    clear hb
    clear hB hs rt0 rl1 c00 c01 c10 c11 c12 c13 c20 c21
    obtain ⟨hB, hs, rt0, rl1, c00, c01, c10, c11, c12, c13, c20, c21⟩ := HX0.out _ hbk3.out
    have hlt3133 : w.heap.size < w3.heap.size := by omega
    have hne3133 : w.heap.size ≠ w3.heap.size := by omega
    have hnr3133 : w3.heap.size ≠ w.heap.size := by omega
    have hlt3559 : (w.heap.size + 1) < w3.heap.size := by omega
    have hne3559 : (w.heap.size + 1) ≠ w3.heap.size := by omega
    have hnr3559 : w3.heap.size ≠ (w.heap.size + 1) := by omega
    have hlt3134 : (w.heap.size + 2) < w3.heap.size := by omega
    have hne3134 : (w.heap.size + 2) ≠ w3.heap.size := by omega
    have hnr3134 : w3.heap.size ≠ (w.heap.size + 2) := by omega
    have HX1 : Hid (∀ W, Below (w3.heap.size + 1) (w3.alloc (.cells #[.slice A3x X.es.length n3x, .slice B3x X.ks.length m3x, .slice D3x Y.length k3x] 31)) W → (w3.heap.size + 1 ≤ (W).heap.size ∧ X.rd W (W).heap.size (.slice A3x X.es.length n3x) (.slice B3x X.ks.length m3x) ∧ SlP W (W).heap.size 3 SpE (.slice D3x Y.length k3x) Y ∧ (W).cell? ⟨w3.heap.size, 0, none⟩ = some (.slice A3x X.es.length n3x) ∧ (W).cell? ⟨w3.heap.size, 1, none⟩ = some (.slice B3x X.ks.length m3x) ∧ (W).cell? ⟨w3.heap.size, 2, none⟩ = some (.slice D3x Y.length k3x) ∧ Below w.heap.size w W ∧ w.heap.size + 3 ≤ (W).heap.size ∧ t.rd W (W).heap.size (.slice A0 t.es.length n0) (.slice B0 t.ks.length m0) ∧ SlP W (W).heap.size 1 StE (.slice A1 o.path.length n1) o.path ∧ (W).cell? ⟨w.heap.size, 0, none⟩ = some (.slice A0 t.es.length n0) ∧ (W).cell? ⟨w.heap.size, 1, none⟩ = some (.slice B0 t.ks.length m0) ∧ (W).cell? ⟨(w.heap.size + 1), 0, none⟩ = some (.slice A1 o.path.length n1) ∧ (W).cell? ⟨(w.heap.size + 1), 1, none⟩ = some (.int .i64 o.act) ∧ (W).cell? ⟨(w.heap.size + 1), 2, none⟩ = some (.string o.s) ∧ (W).cell? ⟨(w.heap.size + 1), 3, none⟩ = some (.int .i64 o.n) ∧ (W).cell? ⟨(w.heap.size + 2), 0, none⟩ = some (.int .i64 d.dc) ∧ (W).cell? ⟨(w.heap.size + 2), 1, none⟩ = some (.int .i64 d.n))) := fun W hW => by
      have g0 := (hW.block w3.heap.size (by omega)).trans (heap_new rfl)
      have hB : Below w3.heap.size w3 W := ((Below.refl _ w3).alloc (Nat.le_refl _) _).trans (hW.mono (by omega))
      exact ⟨by have := hW.size; simpa using this, rda_rd hrd3 (fun b hb => hb.2) hB, hsl3.slp (fun b hb => hb.2) hB, cell_cells (i := 0) g0, cell_cells (i := 1) g0, cell_cells (i := 2) g0, HX0.out W (hbk3.out.trans (hB.mono (by omega)))⟩
    clear hrd3 hsl3
    go_wp2_with fail
    clear hB hs rt0 rl1 c00 c01 c10 c11 c12 c13 c20 c21
    obtain ⟨hs_x, rt_x, rc_x, c0_x, c1_x, c2_x, hB, hs, rt0, rl1, c00, c01, c10, c11, c12, c13, c20, c21⟩ := HX1.out _ (Below.refl _ _)
    refine (r15apply_any t o d _ _ _ _ rt0 rl1 HOK.out h2 (by omega) (by omega)).mono ?_
    rw [HXE.out, HYE.out, HEE.out]
    rintro e w4 ⟨xe4, xk4, xc4, rfl, hrd4, hsl4, hb⟩
    obtain ⟨A4x, n4x, B4x, m4x, rfl, rfl⟩ := rda_shape hrd4
    obtain ⟨D4x, k4x, rfl⟩ := hsl4.shape
    have hbk4 : Hid (Below (w3.heap.size + 1) (w3.alloc (.cells #[.slice A3x X.es.length n3x, .slice B3x X.ks.length m3x, .slice D3x Y.length k3x] 31)) w4) := hid (hb.mono (by first | omega | (simp; done) | (simp; omega)))
    clear hb
    clear hs_x rt_x rc_x c0_x c1_x c2_x hB hs rt0 rl1 c00 c01 c10 c11 c12 c13 c20 c21
    obtain ⟨hs_x, rt_x, rc_x, c0_x, c1_x, c2_x, hB, hs, rt0, rl1, c00, c01, c10, c11, c12, c13, c20, c21⟩ := HX1.out _ hbk4.out
    have hlt4133 : w.heap.size < w4.heap.size := by omega
    have hne4133 : w.heap.size ≠ w4.heap.size := by omega
    have hnr4133 : w4.heap.size ≠ w.heap.size := by omega
    have hlt4559 : (w.heap.size + 1) < w4.heap.size := by omega
    have hne4559 : (w.heap.size + 1) ≠ w4.heap.size := by omega
    have hnr4559 : w4.heap.size ≠ (w.heap.size + 1) := by omega
    have hlt4134 : (w.heap.size + 2) < w4.heap.size := by omega
    have hne4134 : (w.heap.size + 2) ≠ w4.heap.size := by omega
    have hnr4134 : w4.heap.size ≠ (w.heap.size + 2) := by omega
    have hlt4546 : w3.heap.size < w4.heap.size := by omega
    have hne4546 : w3.heap.size ≠ w4.heap.size := by omega
    have hnr4546 : w4.heap.size ≠ w3.heap.size := by omega
    have HX2 : Hid (∀ W, Below (w4.heap.size + 1) (w4.alloc (.cells #[.slice A4x X.es.length n4x, .slice B4x X.ks.length m4x, .slice D4x Y.length k4x] 31)) W → (w4.heap.size + 1 ≤ (W).heap.size ∧ X.rd W (W).heap.size (.slice A4x X.es.length n4x) (.slice B4x X.ks.length m4x) ∧ SlP W (W).heap.size 3 SpE (.slice D4x Y.length k4x) Y ∧ (W).cell? ⟨w4.heap.size, 0, none⟩ = some (.slice A4x X.es.length n4x) ∧ (W).cell? ⟨w4.heap.size, 1, none⟩ = some (.slice B4x X.ks.length m4x) ∧ (W).cell? ⟨w4.heap.size, 2, none⟩ = some (.slice D4x Y.length k4x) ∧ w3.heap.size + 1 ≤ (W).heap.size ∧ X.rd W (W).heap.size (.slice A3x X.es.length n3x) (.slice B3x X.ks.length m3x) ∧ SlP W (W).heap.size 3 SpE (.slice D3x Y.length k3x) Y ∧ (W).cell? ⟨w3.heap.size, 0, none⟩ = some (.slice A3x X.es.length n3x) ∧ (W).cell? ⟨w3.heap.size, 1, none⟩ = some (.slice B3x X.ks.length m3x) ∧ (W).cell? ⟨w3.heap.size, 2, none⟩ = some (.slice D3x Y.length k3x) ∧ Below w.heap.size w W ∧ w.heap.size + 3 ≤ (W).heap.size ∧ t.rd W (W).heap.size (.slice A0 t.es.length n0) (.slice B0 t.ks.length m0) ∧ SlP W (W).heap.size 1 StE (.slice A1 o.path.length n1) o.path ∧ (W).cell? ⟨w.heap.size, 0, none⟩ = some (.slice A0 t.es.length n0) ∧ (W).cell? ⟨w.heap.size, 1, none⟩ = some (.slice B0 t.ks.length m0) ∧ (W).cell? ⟨(w.heap.size + 1), 0, none⟩ = some (.slice A1 o.path.length n1) ∧ (W).cell? ⟨(w.heap.size + 1), 1, none⟩ = some (.int .i64 o.act) ∧ (W).cell? ⟨(w.heap.size + 1), 2, none⟩ = some (.string o.s) ∧ (W).cell? ⟨(w.heap.size + 1), 3, none⟩ = some (.int .i64 o.n) ∧ (W).cell? ⟨(w.heap.size + 2), 0, none⟩ = some (.int .i64 d.dc) ∧ (W).cell? ⟨(w.heap.size + 2), 1, none⟩ = some (.int .i64 d.n))) := fun W hW => by
      have g0 := (hW.block w4.heap.size (by omega)).trans (heap_new rfl)
      have hB : Below w4.heap.size w4 W := ((Below.refl _ w4).alloc (Nat.le_refl _) _).trans (hW.mono (by omega))
      exact ⟨by have := hW.size; simpa using this, rda_rd hrd4 (fun b hb => hb.2) hB, hsl4.slp (fun b hb => hb.2) hB, cell_cells (i := 0) g0, cell_cells (i := 1) g0, cell_cells (i := 2) g0, HX1.out W (hbk4.out.trans (hB.mono (by omega)))⟩
    clear hrd4 hsl4
    go_wp2_with fail
    clear hs_x rt_x rc_x c0_x c1_x c2_x hB hs rt0 rl1 c00 c01 c10 c11 c12 c13 c20 c21
    obtain ⟨hs_y, rt_y, rc_y, c0_y, c1_y, c2_y, hs_x, rt_x, rc_x, c0_x, c1_x, c2_x, hB, hs, rt0, rl1, c00, c01, c10, c11, c12, c13, c20, c21⟩ := HX2.out _ (Below.refl _ _)
    refine (r09same_any X X Y Y _ _ _ _ _ _ _ rt_x rt_y rc_x rc_y).mono ?_
    rw [show (trEq X X && decide (Y = Y)) = true from by rw [trEq_iff.2 rfl]; simp]
    rintro e w5 ⟨rfl, hb⟩
    have hbk5 : Hid (Below (w4.heap.size + 1) (w4.alloc (.cells #[.slice A4x X.es.length n4x, .slice B4x X.ks.length m4x, .slice D4x Y.length k4x] 31)) w5) := hid (hb.mono (by first | omega | (simp; done) | (simp; omega)))
    clear hb
    clear hs_y rt_y rc_y c0_y c1_y c2_y hs_x rt_x rc_x c0_x c1_x c2_x hB hs rt0 rl1 c00 c01 c10 c11 c12 c13 c20 c21
    obtain ⟨hs_y, rt_y, rc_y, c0_y, c1_y, c2_y, hs_x, rt_x, rc_x, c0_x, c1_x, c2_x, hB, hs, rt0, rl1, c00, c01, c10, c11, c12, c13, c20, c21⟩ := HX2.out _ hbk5.out
    go_wp2_with fail
    go_ret
    exact ⟨rfl, hB⟩
end Go.Proofs.YtmphgnjodangcaaGreat
