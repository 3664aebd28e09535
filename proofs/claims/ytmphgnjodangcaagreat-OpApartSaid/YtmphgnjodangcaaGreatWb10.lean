/- What the laws need, part 10: Four arguments, each read by itself. No condition. Arguments that are arrays, lists of numbers, and lists of what is known. No condition. Arguments that are changes, lists of changes, acts, or views. No condition. Arguments that are lists of acts. No condition. tributarylaw15.awake answers true; small, short. No condition. The law OpApart answers true. No condition. -/
import Derived.OpenShut
import Derived.Test.YtmphgnjodangcaaGreatWb9
namespace Go.Proofs.YtmphgnjodangcaaGreat
open Go.ChangeShapes Go.WideShapes Go.ChangeAt Go.RowKit

theorem trodAll_four {H : Type} {enc : TypeId × Value → H} {P : Program} {W : World} {t0 t1 t2 t3 : TypeId} {args : Array Value} {ds : List (DataW H)} {ps : List MemPlace} (h : DataW.TrodAll enc P W 0 (fun _ => true) true [t0, t1, t2, t3] args.toList ds ps) :
    ∃ v0 v1 v2 v3 d0 d1 d2 d3 p0 p1 p2 p3, args = #[v0, v1, v2, v3] ∧ ds = [d0, d1, d2, d3] ∧ ps = p0 ++ p1 ++ p2 ++ p3 ∧ DataW.Trod enc P W 0 (fun _ => true) true t0 v0 d0 p0 ∧ DataW.Trod enc P W 0 (fun _ => true) true t1 v1 d1 p1 ∧ DataW.Trod enc P W 0 (fun _ => true) true t2 v2 d2 p2 ∧ DataW.Trod enc P W 0 (fun _ => true) true t3 v3 d3 p3 := by
  obtain ⟨v0, vs, d0, ds', p0, q, hargs, rfl, rfl, h0, hrest⟩ := trodAll_cons h
  obtain ⟨v1, vs', d1, ds'', p1, q', rfl, rfl, rfl, h1, hrest'⟩ := trodAll_cons hrest
  obtain ⟨v2, vs'', d2, ds''', p2, q'', rfl, rfl, rfl, h2, hrest''⟩ := trodAll_cons hrest'
  obtain ⟨v3, vs''', d3, ds'''', p3, q''', rfl, rfl, rfl, h3, hrest'''⟩ := trodAll_cons hrest''
  obtain ⟨rfl, rfl, rfl⟩ := trodAll_nil hrest'''
  exact ⟨v0, v1, v2, v3, d0, d1, d2, d3, p0, p1, p2, p3, by cases args; simp_all, rfl, by simp, h0, h1, h2, h3⟩
end Go.Proofs.YtmphgnjodangcaaGreat

namespace Go.Proofs.YtmphgnjodangcaaGreat
open Go.ChangeShapes Go.WideShapes Go.ChangeAt Go.RowKit
set_option maxRecDepth 100000

theorem Wt.arr {H : Type} {P : Program} {t e : TypeId} {n : Nat} {parts : List (DataW H)} (hu : P.underlying t = some (.array n e)) (h : Wt P t (.agg parts)) : ∀ d ∈ parts, Wt P e d := fun d hd m hm => by
  refine h m ?_
  unfold DataW.weights
  rw [hu]
  exact Wt.all hd m hm
section
variable {H : Type} {enc : TypeId × Value → H} {W : World}
/-- A number of 32 bits. -/
def I3E (n : Int) (cs : List Value) : Prop := cs = [.int .i32 n] ∧ -2147483648 ≤ n ∧ n ≤ 2147483647
end
end Go.Proofs.YtmphgnjodangcaaGreat

namespace Go.Proofs.YtmphgnjodangcaaGreat
open Go.ChangeShapes Go.WideShapes Go.ChangeAt Go.RowKit
set_option maxRecDepth 100000

theorem okOp : Tryz.prog.readableRec 80 = true ∧ 80 < Tryz.prog.types.size := ⟨by kernel_rfl, of_decide_eq_true (by kernel_rfl)⟩
theorem cellsOp : Tryz.prog.cellsOf 80 = 4 := by kernel_rfl
theorem cellsStrings : Tryz.prog.cellsOf 39 = 1 := by kernel_rfl
section
variable {H : Type} {enc : TypeId × Value → H} {w : World}
theorem op_open {fuel : Nat} {cs : List Value} {x : DataW H × List MemPlace} (h : DataW.trod enc Tryz.prog w 0 (fun _ => true) true fuel 80 cs = some x) (hw : Wt Tryz.prog 80 x.1) : ∃ o : Opr, OpE w w.heap.size o cs := by
  obtain ⟨xs, n, rfl, rfl, hl, hx, hf⟩ := DataW.trod_struct Tryz.underlying80 h
  rw [cellsOp] at hl
  match cs, hl with
  | [c0, c1, c2, c3], _ =>
    match xs, hx with
    | [y0, y1, y2, y3], _ =>
      have f0 : DataW.trod enc Tryz.prog w 0 (fun _ => true) true n 39 (([c0, c1, c2, c3].drop 0).take (Tryz.prog.cellsOf 39)) = some y0 := hf 0 _ rfl
      rw [cellsStrings] at f0
      have f1 : DataW.trod enc Tryz.prog w 0 (fun _ => true) true n 3 (([c0, c1, c2, c3].drop 1).take (Tryz.prog.cellsOf 3)) = some y1 := hf 1 _ rfl
      rw [cellsOne.2.1] at f1
      have f2 : DataW.trod enc Tryz.prog w 0 (fun _ => true) true n 9 (([c0, c1, c2, c3].drop 2).take (Tryz.prog.cellsOf 9)) = some y2 := hf 2 _ rfl
      rw [cellsOne.1] at f2
      have f3 : DataW.trod enc Tryz.prog w 0 (fun _ => true) true n 2 (([c0, c1, c2, c3].drop 3).take (Tryz.prog.cellsOf 2)) = some y3 := hf 3 _ rfl
      rw [cellsOne.2.2.1] at f3
      obtain ⟨v1, l, e0, hL⟩ := slc_open (E := StE) Tryz.underlying39 cellsOne.1 (by decide) bytesString (by decide) (show DataW.trod enc Tryz.prog w 0 (fun _ => true) true n 39 [c0] = some y0 from f0) (Wt.field Tryz.underlying80 hw (i := 0) rfl rfl)
        fun _ _ _ _ hy hwy => str_open hy hwy
      obtain ⟨a, e1, _, w1⟩ := DataW.trod_int Tryz.underlying3 (show DataW.trod enc Tryz.prog w 0 (fun _ => true) true n 3 [c1] = some y1 from f1)
      obtain ⟨s, e2, hs⟩ := str_open (show DataW.trod enc Tryz.prog w 0 (fun _ => true) true n 9 [c2] = some y2 from f2) (Wt.field Tryz.underlying80 hw (i := 2) rfl rfl)
      obtain ⟨b, e3, _, w3⟩ := DataW.trod_int Tryz.underlying2 (show DataW.trod enc Tryz.prog w 0 (fun _ => true) true n 2 [c3] = some y3 from f3)
      simp at e0 e1 e2 e3
      subst e0; subst e1; subst e2; subst e3
      exact ⟨⟨l, a, s, b⟩, _, rfl, hL, wf_i64 w1, wf_i64 w3, hs⟩
end
section
variable {H : Type} {enc : TypeId × Value → H} {W : World} {base : Nat} {v : Value} {d : DataW H} {p : List MemPlace}
theorem op_arg (hv : Value.okWide Tryz.prog W .any base 80 v) (h : DataW.Trod enc Tryz.prog W 0 (fun _ => true) true 80 v d p) (hw : Wt Tryz.prog 80 d) :
    ∃ o : Opr, ∃ vp, v = .agg #[vp, .int .i64 o.act, .string o.s, .int .i64 o.n] ∧ SlP W W.heap.size 1 StE vp o.path ∧ o.Ok := by
  obtain ⟨cs, rfl, hs⟩ := okWide_struct Tryz.underlying80 hv
  obtain ⟨fuel, hf⟩ := h
  obtain ⟨o, vp, e, ht, hc⟩ := op_open hf hw
  refine ⟨o, vp, ?_, ht, hc⟩
  simp [Value.cells] at e
  obtain ⟨l⟩ := cs
  simp at e
  rw [e]
end
end Go.Proofs.YtmphgnjodangcaaGreat

namespace Go.Proofs.YtmphgnjodangcaaGreat
open Go.ChangeShapes Go.WideShapes Go.ChangeAt Go.RowKit
set_option maxRecDepth 100000

/-- What is done: who makes a change, or hears what another one knows. -/
structure ActP where
  who : Int
  fr : Int
  hears : Bool
  o : Opr
def ActE (w : World) (B : Nat) (x : ActP) (cs : List Value) : Prop :=
  ∃ vp, cs = [.int .u8 x.who, .int .u8 x.fr, .bool x.hears, vp, .int .i64 x.o.act, .string x.o.s, .int .i64 x.o.n] ∧ SlP w B 1 StE vp x.o.path ∧ x.o.Ok ∧ 0 ≤ x.who ∧ x.who ≤ 255 ∧ 0 ≤ x.fr ∧ x.fr ≤ 255
section
variable {H : Type} {enc : TypeId × Value → H} {w : World}
end
section
variable {H : Type} {enc : TypeId × Value → H} {W : World} {base : Nat} {v : Value} {d : DataW H} {p : List MemPlace}
end
end Go.Proofs.YtmphgnjodangcaaGreat

namespace Go.Proofs.YtmphgnjodangcaaGreat
open Go.RowKit
set_option maxRecDepth 100000

theorem Calls.intEq {P : Program} {f : FuncId} {args : Array Value} {w : World} {a b : Int} (h : Calls P f args w fun e w' => e = .returned (.int .i64 a) ∧ Below w.heap.size w w') (hb : a = b) : Calls P f args w fun e w' => e = .returned (.int .i64 b) ∧ Below w.heap.size w w' := hb ▸ h
def cB : ByteArray := ⟨#[99]⟩
def o15 : Opr := ⟨[cB], 5, ByteArray.empty, 3⟩
def t15 : Tr := .mk [] [(cB, .mk [⟨1, 1, ByteArray.empty, 3⟩] [])]
theorem awk15_I : appI (.mk [] []) o15 ⟨1, 1⟩ = 0 := by kernel_rfl
theorem awk15_T : appT (.mk [] []) o15 ⟨1, 1⟩ = t15 := by kernel_rfl
theorem awk15_R : readI t15 [cB] = 0 := by kernel_rfl
theorem awk15_V : readV t15 [cB] = ⟨3, false, 3, []⟩ := by kernel_rfl
set_option maxHeartbeats 4000000 in
theorem awake15_any (w : World) : Calls Tryz.prog 73 #[] w fun e w' => e = .returned (.bool true) ∧ Below w.heap.size w w' := by
  have HO : Hid (o15.Ok) := ⟨⟨by decide, by decide⟩, ⟨by decide, by decide⟩, by decide⟩
  have HCB : Hid (cB.size ≤ Big) := by unfold Hid; decide
  have hb0 : Below w.heap.size w (w.alloc (.cells #[.string cB] 9)) := (Below.refl _ w).alloc (Nat.le_refl _) _
  go_enter Tryz.func73, Tryz.ntmps73
  go_wp2_with fail
  refine (opApply_any (.mk [] []) o15 ⟨1, 1⟩ _ _ _ _ rd_empty (SlP.oneB (E := StE) (x := cB) (cs := [.string cB]) ⟨rfl, HCB.out⟩ rfl _ rfl (by simp)) HO.out ⟨⟨by decide, by decide⟩, ⟨by decide, by decide⟩⟩ (by simp [Tr.sz, Tr.szL])).mono ?_
  rw [awk15_I, awk15_T]
  rintro e w1 ⟨ve, vk, vc, rfl, hrd, hsc, hb1⟩
  have hR := awk15_R
  have hV := awk15_V
  have hz : t15.sz ≤ 4000 := by decide
  generalize appC (.mk [] []) o15 ⟨1, 1⟩ = C at *
  generalize t15 = T at *
  obtain ⟨Ae, ne, Ak, nk, rfl, rfl⟩ := rda_shape hrd
  obtain ⟨Ac, nc, rfl⟩ := hsc.shape
  have hB1 : Below w.heap.size w w1 := hb0.trans (hb1.mono (by simp))
  have hv : Below w1.heap.size w1 ((w1.alloc (.cells #[.slice Ae T.es.length ne, .slice Ak T.ks.length nk, .slice Ac C.length nc] 31)).alloc (.cells #[.string cB] 9)) := ((Below.refl _ w1).alloc (Nat.le_refl _) _).alloc (by simp) _
  have HT := hid (rda_rd hrd (fun b hb => hb.2) hv)
  have HB := hid (hB1.trans (hv.mono (by have := hB1.size; omega)))
  clear hrd hsc hb1 hv
  go_wp2_with fail
  refine (opRead_any T [cB] _ _ _ _ HT.out (SlP.oneB (E := StE) (x := cB) (cs := [.string cB]) ⟨rfl, HCB.out⟩ rfl _ (by simp) (by simp)) hz).mono ?_
  rw [hR, hV]
  rintro e w2 ⟨vl, rfl, hsl, hb2⟩
  obtain ⟨Al, nl, rfl⟩ := hsl.shape
  have hB2 := HB.out.trans (hb2.mono HB.out.size)
  have hb3 := hB2.alloc (o := .cells #[.int .i64 3, .bool false, .int .i64 3, .slice Al 0 nl] 86) hB2.size
  clear hsl hb2
  go_wp2_with fail
  go_ret
  exact ⟨rfl, hb3⟩
set_option maxHeartbeats 1000000 in
theorem small15_any (t : Tr) (w : World) (ve vk : Value) (h : t.rd w w.heap.size ve vk) :
    Calls Tryz.prog 76 #[.agg #[ve, vk]] w fun e w' => e = .returned (.bool (smlB t 60)) ∧ Below w.heap.size w w' := by
  obtain ⟨A3, n3, A4, n4, rfl, rfl⟩ := rd_shape h
  have hb0 : Below w.heap.size w (w.alloc (.cells #[.slice A3 t.es.length n3, .slice A4 t.ks.length n4] 27)) := (Below.refl _ w).alloc (Nat.le_refl _) _
  have HT := hid (rd_below hb0 hb0.size _ _ _ h)
  clear h
  go_enter Tryz.func76, Tryz.ntmps76
  go_wp2_with fail
  refine (r08small_any t _ _ _ 60 HT.out (by decide) (by decide)).mono ?_
  rintro e w1 ⟨rfl, hb1⟩
  go_wp2_with fail
  go_ret
  exact ⟨rfl, hb0.trans (hb1.mono (by simp))⟩
/-- Acts in memory. -/
def AcL (w : World) (v : Value) (l : List ActP) : Prop := SlP w w.heap.size 7 (ActE w w.heap.size) v l
theorem AcL.up {w w' : World} {v : Value} {l : List ActP} (h : AcL w v l) (hb : Below w.heap.size w w') : AcL w' v l :=
  SlP.imp h hb hb.size fun _ _ _ ⟨vp, h1, h2, h3⟩ => ⟨vp, h1, h2.imp hb hb.size fun _ _ _ h => h, h3⟩
theorem AcL.at {w : World} {A : Option Addr} {n : Nat} {l : List ActP} (h : AcL w (.slice A l.length n) l) {k : Nat} {x : ActP} (hx : l[k]? = some x) :
    ∃ b off A5 c5, A = some ⟨b, off, none⟩ ∧ b < w.heap.size ∧ SlP w w.heap.size 1 StE (.slice A5 x.o.path.length c5) x.o.path ∧ x.o.Ok ∧ (0 ≤ x.who ∧ x.who ≤ 255 ∧ 0 ≤ x.fr ∧ x.fr ≤ 255) ∧
      ∀ W, Below w.heap.size w W → (W.cell? ⟨b, off + k * 7, none⟩ = some (.int .u8 x.who) ∧ W.cell? ⟨b, off + k * 7 + 1, none⟩ = some (.int .u8 x.fr) ∧ W.cell? ⟨b, off + k * 7 + 2, none⟩ = some (.bool x.hears) ∧ W.cell? ⟨b, off + k * 7 + 3, none⟩ = some (.slice A5 x.o.path.length c5) ∧ W.cell? ⟨b, off + k * 7 + 4, none⟩ = some (.int .i64 x.o.act) ∧ W.cell? ⟨b, off + k * 7 + 5, none⟩ = some (.string x.o.s) ∧ W.cell? ⟨b, off + k * 7 + 6, none⟩ = some (.int .i64 x.o.n)) := by
  obtain ⟨A', n', hv, _, _, h3⟩ := h
  cases hv
  obtain ⟨b, off, rfl, hb, hc⟩ := h3 (by rintro rfl; simp at hx)
  obtain ⟨cs, ⟨vp, rfl, hp, ho, hw⟩, _, hu⟩ := hc k x hx
  obtain ⟨A5, c5, rfl, hpp⟩ := id hp
  exact ⟨b, off, A5, c5, rfl, hb, hp, ho, hw, fun W hW => ⟨(hW.cell hb).trans (hu 0 _ rfl), (hW.cell hb).trans (hu 1 _ rfl), (hW.cell hb).trans (hu 2 _ rfl), (hW.cell hb).trans (hu 3 _ rfl), (hW.cell hb).trans (hu 4 _ rfl), (hW.cell hb).trans (hu 5 _ rfl), (hW.cell hb).trans (hu 6 _ rfl)⟩⟩
/-- Are there few acts, with short texts? -/
def shortL (l : List ActP) (most : Int) : Bool := decide ((l.length : Int) ≤ most) && l.all fun x => shortB x.o
end Go.Proofs.YtmphgnjodangcaaGreat

namespace Go.Proofs.YtmphgnjodangcaaGreat
open Go.RowKit
set_option maxRecDepth 100000

set_option maxHeartbeats 4000000 in
theorem lawAT_any (t : Tr) (o : Opr) (d : Dt) (p : List ByteArray) (w : World) (ve0 vk0 vp1 vl3 : Value) (h0 : t.rd w w.heap.size ve0 vk0) (h1 : SlP w w.heap.size 1 StE vp1 o.path) (_ : o.Ok) (h2 : d.Ok) (h3 : SlP w w.heap.size 1 StE vl3 p) :
    Calls Tryz.prog 16 #[.agg #[ve0, vk0], .agg #[vp1, .int .i64 o.act, .string o.s, .int .i64 o.n], .agg #[.int .i64 d.dc, .int .i64 d.n], vl3] w fun e w' => e = .returned (.bool true) ∧ Below w.heap.size w w' := by
  have h1x := hid h1
  have h3x := hid h3
  have HC0 : Hid (∀ w', Below w.heap.size w w' → t.rd w' w'.heap.size ve0 vk0) := fun w' hb => rd_below hb hb.size _ _ _ h0
  obtain ⟨A0, n0, B0, m0, rfl, rfl⟩ := rd_shape h0
  clear h0
  have HC1 : Hid (∀ w', Below w.heap.size w w' → SlP w' w'.heap.size 1 StE vp1 o.path) := fun w' hb => h1.imp hb hb.size fun _ _ _ h => h
  obtain ⟨A1, n1, rfl, _⟩ := h1
  have HC3 : Hid (∀ w', Below w.heap.size w w' → SlP w' w'.heap.size 1 StE vl3 p) := fun w' hb => h3.imp hb hb.size fun _ _ _ h => h
  obtain ⟨A3, n3, rfl, _⟩ := h3
  have HX0 : Hid (∀ W, Below (w.heap.size + 3) (((w.alloc (.cells #[.slice A0 t.es.length n0, .slice B0 t.ks.length m0] 27)).alloc (.cells #[.slice A1 o.path.length n1, .int .i64 o.act, .string o.s, .int .i64 o.n] 80)).alloc (.cells #[.int .i64 d.dc, .int .i64 d.n] 54)) W → (Below w.heap.size w W ∧ w.heap.size + 3 ≤ (W).heap.size ∧ t.rd W (W).heap.size (.slice A0 t.es.length n0) (.slice B0 t.ks.length m0) ∧ SlP W (W).heap.size 1 StE (.slice A1 o.path.length n1) o.path ∧ SlP W (W).heap.size 1 StE (.slice A3 p.length n3) p ∧ (W).cell? ⟨w.heap.size, 0, none⟩ = some (.slice A0 t.es.length n0) ∧ (W).cell? ⟨w.heap.size, 1, none⟩ = some (.slice B0 t.ks.length m0) ∧ (W).cell? ⟨(w.heap.size + 1), 0, none⟩ = some (.slice A1 o.path.length n1) ∧ (W).cell? ⟨(w.heap.size + 1), 1, none⟩ = some (.int .i64 o.act) ∧ (W).cell? ⟨(w.heap.size + 1), 2, none⟩ = some (.string o.s) ∧ (W).cell? ⟨(w.heap.size + 1), 3, none⟩ = some (.int .i64 o.n) ∧ (W).cell? ⟨(w.heap.size + 2), 0, none⟩ = some (.int .i64 d.dc) ∧ (W).cell? ⟨(w.heap.size + 2), 1, none⟩ = some (.int .i64 d.n))) := fun W hW => by
    have g0 : W.heap[w.heap.size]? = some (.cells #[.slice A0 t.es.length n0, .slice B0 t.ks.length m0] 27 (0, 0)) := (hW.block _ (by omega)).trans ((heap_old (by simp <;> omega)).trans ((heap_old (by simp <;> omega)).trans (heap_new rfl)))
    have g1 : W.heap[(w.heap.size + 1)]? = some (.cells #[.slice A1 o.path.length n1, .int .i64 o.act, .string o.s, .int .i64 o.n] 80 (0, 0)) := (hW.block _ (by omega)).trans ((heap_old (by simp <;> omega)).trans (heap_new (by simp)))
    have g2 : W.heap[(w.heap.size + 2)]? = some (.cells #[.int .i64 d.dc, .int .i64 d.n] 54 (0, 0)) := (hW.block _ (by omega)).trans (heap_new (by simp))
    have hB : Below w.heap.size w W := ((((Below.refl _ w).alloc (Nat.le_refl _) _).alloc (by simp <;> omega) _).alloc (by simp <;> omega) _).trans (hW.mono (by omega))
    exact ⟨hB, by have := hW.size; simpa using this, HC0.out _ hB, HC1.out _ hB, HC3.out _ hB, cell_cells (i := 0) g0, cell_cells (i := 1) g0, cell_cells (i := 0) g1, cell_cells (i := 1) g1, cell_cells (i := 2) g1, cell_cells (i := 3) g1, cell_cells (i := 0) g2, cell_cells (i := 1) g2⟩
  have hnb1 : w.heap.size + 1 ≠ w.heap.size := by omega
  have hnb2 : w.heap.size + 2 ≠ w.heap.size := by omega
  go_enter Tryz.func16, Tryz.ntmps16
  have HOK := hid ‹o.Ok›
  obtain ⟨SM, HSM⟩ : ∃ q, Hid (smlB t 60 = q) := ⟨_, rfl⟩
  obtain ⟨RT, HRT⟩ : ∃ q, Hid (t.right 5 = q) := ⟨_, rfl⟩
  obtain ⟨OC, HOC⟩ : ∃ q, Hid (onceL (t.lvs []) = q) := ⟨_, rfl⟩
  obtain ⟨OI, HOI⟩ : ∃ q, Hid (opI o = q) := ⟨_, rfl⟩
  cases SM
  · skip
    go_upto_region 1 with (fail)
    obtain ⟨hB, hs, rt0, rl1, rl3, c00, c01, c10, c11, c12, c13, c20, c21⟩ := HX0.out _ (Below.refl _ _)
    have hsz1 : (w.heap.size + 3) ≤ ((((w.alloc (.cells #[.slice A0 t.es.length n0, .slice B0 t.ks.length m0] 27)).alloc (.cells #[.slice A1 o.path.length n1, .int .i64 o.act, .string o.s, .int .i64 o.n] 80)).alloc (.cells #[.int .i64 d.dc, .int .i64 d.n] 54))).heap.size := (by first | omega | (simp; done) | (simp; omega))
    have Hrt0_1 : Hid (∀ W, Below (w.heap.size + 3) (((w.alloc (.cells #[.slice A0 t.es.length n0, .slice B0 t.ks.length m0] 27)).alloc (.cells #[.slice A1 o.path.length n1, .int .i64 o.act, .string o.s, .int .i64 o.n] 80)).alloc (.cells #[.int .i64 d.dc, .int .i64 d.n] 54)) W → t.rd W (W).heap.size (.slice A0 t.es.length n0) (.slice B0 t.ks.length m0)) := fun W hW => by
      obtain ⟨_, _, z, _, _, _, _, _, _, _, _, _, _⟩ := HX0.out W hW
      exact z
    have Hrl1_1 : Hid (∀ W, Below (w.heap.size + 3) (((w.alloc (.cells #[.slice A0 t.es.length n0, .slice B0 t.ks.length m0] 27)).alloc (.cells #[.slice A1 o.path.length n1, .int .i64 o.act, .string o.s, .int .i64 o.n] 80)).alloc (.cells #[.int .i64 d.dc, .int .i64 d.n] 54)) W → SlP W (W).heap.size 1 StE (.slice A1 o.path.length n1) o.path) := fun W hW => by
      obtain ⟨_, _, _, z, _, _, _, _, _, _, _, _, _⟩ := HX0.out W hW
      exact z
    have Hrl3_1 : Hid (∀ W, Below (w.heap.size + 3) (((w.alloc (.cells #[.slice A0 t.es.length n0, .slice B0 t.ks.length m0] 27)).alloc (.cells #[.slice A1 o.path.length n1, .int .i64 o.act, .string o.s, .int .i64 o.n] 80)).alloc (.cells #[.int .i64 d.dc, .int .i64 d.n] 54)) W → SlP W (W).heap.size 1 StE (.slice A3 p.length n3) p) := fun W hW => by
      obtain ⟨_, _, _, _, z, _, _, _, _, _, _, _, _⟩ := HX0.out W hW
      exact z
    have HQ1_0 := hid (fun (wf : World) (hbf : Below ((((w.alloc (.cells #[.slice A0 t.es.length n0, .slice B0 t.ks.length m0] 27)).alloc (.cells #[.slice A1 o.path.length n1, .int .i64 o.act, .string o.s, .int .i64 o.n] 80)).alloc (.cells #[.int .i64 d.dc, .int .i64 d.n] 54))).heap.size (((w.alloc (.cells #[.slice A0 t.es.length n0, .slice B0 t.ks.length m0] 27)).alloc (.cells #[.slice A1 o.path.length n1, .int .i64 o.act, .string o.s, .int .i64 o.n] 80)).alloc (.cells #[.int .i64 d.dc, .int .i64 d.n] 54)) wf) => Calls.boolEq (awake15_any wf) rfl)
    have HQ1_1 := hid (fun (wf : World) (hbf : Below ((((w.alloc (.cells #[.slice A0 t.es.length n0, .slice B0 t.ks.length m0] 27)).alloc (.cells #[.slice A1 o.path.length n1, .int .i64 o.act, .string o.s, .int .i64 o.n] 80)).alloc (.cells #[.int .i64 d.dc, .int .i64 d.n] 54))).heap.size (((w.alloc (.cells #[.slice A0 t.es.length n0, .slice B0 t.ks.length m0] 27)).alloc (.cells #[.slice A1 o.path.length n1, .int .i64 o.act, .string o.s, .int .i64 o.n] 80)).alloc (.cells #[.int .i64 d.dc, .int .i64 d.n] 54)) wf) => Calls.boolEq (small15_any t wf _ _ (Hrt0_1.out _ ((Below.refl _ _).trans (hbf.mono hsz1)))) HSM.out)
    have f_c00 := far_cell (B := ((((w.alloc (.cells #[.slice A0 t.es.length n0, .slice B0 t.ks.length m0] 27)).alloc (.cells #[.slice A1 o.path.length n1, .int .i64 o.act, .string o.s, .int .i64 o.n] 80)).alloc (.cells #[.int .i64 d.dc, .int .i64 d.n] 54))).heap.size) c00 (by first | omega | (simp; done) | (simp; omega))
    have f_c01 := far_cell (B := ((((w.alloc (.cells #[.slice A0 t.es.length n0, .slice B0 t.ks.length m0] 27)).alloc (.cells #[.slice A1 o.path.length n1, .int .i64 o.act, .string o.s, .int .i64 o.n] 80)).alloc (.cells #[.int .i64 d.dc, .int .i64 d.n] 54))).heap.size) c01 (by first | omega | (simp; done) | (simp; omega))
    have f_c10 := far_cell (B := ((((w.alloc (.cells #[.slice A0 t.es.length n0, .slice B0 t.ks.length m0] 27)).alloc (.cells #[.slice A1 o.path.length n1, .int .i64 o.act, .string o.s, .int .i64 o.n] 80)).alloc (.cells #[.int .i64 d.dc, .int .i64 d.n] 54))).heap.size) c10 (by first | omega | (simp; done) | (simp; omega))
    have f_c11 := far_cell (B := ((((w.alloc (.cells #[.slice A0 t.es.length n0, .slice B0 t.ks.length m0] 27)).alloc (.cells #[.slice A1 o.path.length n1, .int .i64 o.act, .string o.s, .int .i64 o.n] 80)).alloc (.cells #[.int .i64 d.dc, .int .i64 d.n] 54))).heap.size) c11 (by first | omega | (simp; done) | (simp; omega))
    have f_c12 := far_cell (B := ((((w.alloc (.cells #[.slice A0 t.es.length n0, .slice B0 t.ks.length m0] 27)).alloc (.cells #[.slice A1 o.path.length n1, .int .i64 o.act, .string o.s, .int .i64 o.n] 80)).alloc (.cells #[.int .i64 d.dc, .int .i64 d.n] 54))).heap.size) c12 (by first | omega | (simp; done) | (simp; omega))
    have f_c13 := far_cell (B := ((((w.alloc (.cells #[.slice A0 t.es.length n0, .slice B0 t.ks.length m0] 27)).alloc (.cells #[.slice A1 o.path.length n1, .int .i64 o.act, .string o.s, .int .i64 o.n] 80)).alloc (.cells #[.int .i64 d.dc, .int .i64 d.n] 54))).heap.size) c13 (by first | omega | (simp; done) | (simp; omega))
    clear hB hs rt0 rl1 rl3 c00 c01 c10 c11 c12 c13 c20 c21
    refine wp_region_far ((((w.alloc (.cells #[.slice A0 t.es.length n0, .slice B0 t.ks.length m0] 27)).alloc (.cells #[.slice A1 o.path.length n1, .int .i64 o.act, .string o.s, .int .i64 o.n] 80)).alloc (.cells #[.int .i64 d.dc, .int .i64 d.n] 54))).heap.size (by kernel_rfl) (by kernel_rfl) ?_
    repeat (go_big_quiet_step (first | (go_at_call 73; with_reducible exact Calls.far_all (Nat.le_refl _) HQ1_0.out) | (go_at_call 76; with_reducible exact Calls.far_all (Nat.le_refl _) HQ1_1.out)))
    refine wpQuiet_nil ?_
    intro w1 hb
    clear f_c00 f_c01 f_c10 f_c11 f_c12 f_c13
    have hbk1 : Hid (Below (w.heap.size + 3) (((w.alloc (.cells #[.slice A0 t.es.length n0, .slice B0 t.ks.length m0] 27)).alloc (.cells #[.slice A1 o.path.length n1, .int .i64 o.act, .string o.s, .int .i64 o.n] 80)).alloc (.cells #[.int .i64 d.dc, .int .i64 d.n] 54)) w1) := hid ((Below.refl _ _).trans (hb.mono hsz1))
    clear hb
    obtain ⟨hB, hs, rt0, rl1, rl3, c00, c01, c10, c11, c12, c13, c20, c21⟩ := HX0.out _ hbk1.out
    go_wp2_with fail
    refine (awake15_any _).mono ?_
    rintro e w2 ⟨rfl, hb⟩
    have hbk2 : Hid (Below (w.heap.size + 3) (((w.alloc (.cells #[.slice A0 t.es.length n0, .slice B0 t.ks.length m0] 27)).alloc (.cells #[.slice A1 o.path.length n1, .int .i64 o.act, .string o.s, .int .i64 o.n] 80)).alloc (.cells #[.int .i64 d.dc, .int .i64 d.n] 54)) w2) := hid (hbk1.out.trans (hb.mono (by first | omega | (simp; done) | (simp; omega))))
    clear hb
    clear hB hs rt0 rl1 rl3 c00 c01 c10 c11 c12 c13 c20 c21
    obtain ⟨hB, hs, rt0, rl1, rl3, c00, c01, c10, c11, c12, c13, c20, c21⟩ := HX0.out _ hbk2.out
    go_wp2_with fail
    go_ret
    exact ⟨rfl, hB⟩
  · skip
    have hsz : t.sz ≤ 60 := by have := sml_sz HSM.out; omega
    by_cases h20 : 20 < p.length
    · skip
      have h20' : decide ((20 : Int) < (p.length : Int)) = true := by exact decide_eq_true (by omega)
      go_upto_region 1 with (fail)
      obtain ⟨hB, hs, rt0, rl1, rl3, c00, c01, c10, c11, c12, c13, c20, c21⟩ := HX0.out _ (Below.refl _ _)
      have hsz1 : (w.heap.size + 3) ≤ ((((w.alloc (.cells #[.slice A0 t.es.length n0, .slice B0 t.ks.length m0] 27)).alloc (.cells #[.slice A1 o.path.length n1, .int .i64 o.act, .string o.s, .int .i64 o.n] 80)).alloc (.cells #[.int .i64 d.dc, .int .i64 d.n] 54))).heap.size := (by first | omega | (simp; done) | (simp; omega))
      have Hrt0_1 : Hid (∀ W, Below (w.heap.size + 3) (((w.alloc (.cells #[.slice A0 t.es.length n0, .slice B0 t.ks.length m0] 27)).alloc (.cells #[.slice A1 o.path.length n1, .int .i64 o.act, .string o.s, .int .i64 o.n] 80)).alloc (.cells #[.int .i64 d.dc, .int .i64 d.n] 54)) W → t.rd W (W).heap.size (.slice A0 t.es.length n0) (.slice B0 t.ks.length m0)) := fun W hW => by
        obtain ⟨_, _, z, _, _, _, _, _, _, _, _, _, _⟩ := HX0.out W hW
        exact z
      have Hrl1_1 : Hid (∀ W, Below (w.heap.size + 3) (((w.alloc (.cells #[.slice A0 t.es.length n0, .slice B0 t.ks.length m0] 27)).alloc (.cells #[.slice A1 o.path.length n1, .int .i64 o.act, .string o.s, .int .i64 o.n] 80)).alloc (.cells #[.int .i64 d.dc, .int .i64 d.n] 54)) W → SlP W (W).heap.size 1 StE (.slice A1 o.path.length n1) o.path) := fun W hW => by
        obtain ⟨_, _, _, z, _, _, _, _, _, _, _, _, _⟩ := HX0.out W hW
        exact z
      have Hrl3_1 : Hid (∀ W, Below (w.heap.size + 3) (((w.alloc (.cells #[.slice A0 t.es.length n0, .slice B0 t.ks.length m0] 27)).alloc (.cells #[.slice A1 o.path.length n1, .int .i64 o.act, .string o.s, .int .i64 o.n] 80)).alloc (.cells #[.int .i64 d.dc, .int .i64 d.n] 54)) W → SlP W (W).heap.size 1 StE (.slice A3 p.length n3) p) := fun W hW => by
        obtain ⟨_, _, _, _, z, _, _, _, _, _, _, _, _⟩ := HX0.out W hW
        exact z
      have HQ1_0 := hid (fun (wf : World) (hbf : Below ((((w.alloc (.cells #[.slice A0 t.es.length n0, .slice B0 t.ks.length m0] 27)).alloc (.cells #[.slice A1 o.path.length n1, .int .i64 o.act, .string o.s, .int .i64 o.n] 80)).alloc (.cells #[.int .i64 d.dc, .int .i64 d.n] 54))).heap.size (((w.alloc (.cells #[.slice A0 t.es.length n0, .slice B0 t.ks.length m0] 27)).alloc (.cells #[.slice A1 o.path.length n1, .int .i64 o.act, .string o.s, .int .i64 o.n] 80)).alloc (.cells #[.int .i64 d.dc, .int .i64 d.n] 54)) wf) => Calls.boolEq (awake15_any wf) rfl)
      have HQ1_1 := hid (fun (wf : World) (hbf : Below ((((w.alloc (.cells #[.slice A0 t.es.length n0, .slice B0 t.ks.length m0] 27)).alloc (.cells #[.slice A1 o.path.length n1, .int .i64 o.act, .string o.s, .int .i64 o.n] 80)).alloc (.cells #[.int .i64 d.dc, .int .i64 d.n] 54))).heap.size (((w.alloc (.cells #[.slice A0 t.es.length n0, .slice B0 t.ks.length m0] 27)).alloc (.cells #[.slice A1 o.path.length n1, .int .i64 o.act, .string o.s, .int .i64 o.n] 80)).alloc (.cells #[.int .i64 d.dc, .int .i64 d.n] 54)) wf) => Calls.boolEq (small15_any t wf _ _ (Hrt0_1.out _ ((Below.refl _ _).trans (hbf.mono hsz1)))) HSM.out)
      have f_c00 := far_cell (B := ((((w.alloc (.cells #[.slice A0 t.es.length n0, .slice B0 t.ks.length m0] 27)).alloc (.cells #[.slice A1 o.path.length n1, .int .i64 o.act, .string o.s, .int .i64 o.n] 80)).alloc (.cells #[.int .i64 d.dc, .int .i64 d.n] 54))).heap.size) c00 (by first | omega | (simp; done) | (simp; omega))
      have f_c01 := far_cell (B := ((((w.alloc (.cells #[.slice A0 t.es.length n0, .slice B0 t.ks.length m0] 27)).alloc (.cells #[.slice A1 o.path.length n1, .int .i64 o.act, .string o.s, .int .i64 o.n] 80)).alloc (.cells #[.int .i64 d.dc, .int .i64 d.n] 54))).heap.size) c01 (by first | omega | (simp; done) | (simp; omega))
      have f_c10 := far_cell (B := ((((w.alloc (.cells #[.slice A0 t.es.length n0, .slice B0 t.ks.length m0] 27)).alloc (.cells #[.slice A1 o.path.length n1, .int .i64 o.act, .string o.s, .int .i64 o.n] 80)).alloc (.cells #[.int .i64 d.dc, .int .i64 d.n] 54))).heap.size) c10 (by first | omega | (simp; done) | (simp; omega))
      have f_c11 := far_cell (B := ((((w.alloc (.cells #[.slice A0 t.es.length n0, .slice B0 t.ks.length m0] 27)).alloc (.cells #[.slice A1 o.path.length n1, .int .i64 o.act, .string o.s, .int .i64 o.n] 80)).alloc (.cells #[.int .i64 d.dc, .int .i64 d.n] 54))).heap.size) c11 (by first | omega | (simp; done) | (simp; omega))
      have f_c12 := far_cell (B := ((((w.alloc (.cells #[.slice A0 t.es.length n0, .slice B0 t.ks.length m0] 27)).alloc (.cells #[.slice A1 o.path.length n1, .int .i64 o.act, .string o.s, .int .i64 o.n] 80)).alloc (.cells #[.int .i64 d.dc, .int .i64 d.n] 54))).heap.size) c12 (by first | omega | (simp; done) | (simp; omega))
      have f_c13 := far_cell (B := ((((w.alloc (.cells #[.slice A0 t.es.length n0, .slice B0 t.ks.length m0] 27)).alloc (.cells #[.slice A1 o.path.length n1, .int .i64 o.act, .string o.s, .int .i64 o.n] 80)).alloc (.cells #[.int .i64 d.dc, .int .i64 d.n] 54))).heap.size) c13 (by first | omega | (simp; done) | (simp; omega))
      clear hB hs rt0 rl1 rl3 c00 c01 c10 c11 c12 c13 c20 c21
      refine wp_region_far ((((w.alloc (.cells #[.slice A0 t.es.length n0, .slice B0 t.ks.length m0] 27)).alloc (.cells #[.slice A1 o.path.length n1, .int .i64 o.act, .string o.s, .int .i64 o.n] 80)).alloc (.cells #[.int .i64 d.dc, .int .i64 d.n] 54))).heap.size (by kernel_rfl) (by kernel_rfl) ?_
      repeat (go_big_quiet_step (first | (go_at_call 73; with_reducible exact Calls.far_all (Nat.le_refl _) HQ1_0.out) | (go_at_call 76; with_reducible exact Calls.far_all (Nat.le_refl _) HQ1_1.out)))
      refine wpQuiet_nil ?_
      intro w1 hb
      clear f_c00 f_c01 f_c10 f_c11 f_c12 f_c13
      have hbk1 : Hid (Below (w.heap.size + 3) (((w.alloc (.cells #[.slice A0 t.es.length n0, .slice B0 t.ks.length m0] 27)).alloc (.cells #[.slice A1 o.path.length n1, .int .i64 o.act, .string o.s, .int .i64 o.n] 80)).alloc (.cells #[.int .i64 d.dc, .int .i64 d.n] 54)) w1) := hid ((Below.refl _ _).trans (hb.mono hsz1))
      clear hb
      obtain ⟨hB, hs, rt0, rl1, rl3, c00, c01, c10, c11, c12, c13, c20, c21⟩ := HX0.out _ hbk1.out
      go_wp2_with fail
      refine (awake15_any _).mono ?_
      rintro e w2 ⟨rfl, hb⟩
      have hbk2 : Hid (Below (w.heap.size + 3) (((w.alloc (.cells #[.slice A0 t.es.length n0, .slice B0 t.ks.length m0] 27)).alloc (.cells #[.slice A1 o.path.length n1, .int .i64 o.act, .string o.s, .int .i64 o.n] 80)).alloc (.cells #[.int .i64 d.dc, .int .i64 d.n] 54)) w2) := hid (hbk1.out.trans (hb.mono (by first | omega | (simp; done) | (simp; omega))))
      clear hb
      clear hB hs rt0 rl1 rl3 c00 c01 c10 c11 c12 c13 c20 c21
      obtain ⟨hB, hs, rt0, rl1, rl3, c00, c01, c10, c11, c12, c13, c20, c21⟩ := HX0.out _ hbk2.out
      go_wp2_with fail
      go_ret
      exact ⟨rfl, hB⟩
    · skip
      have h20' : decide ((20 : Int) < (p.length : Int)) = false := by exact decide_eq_false (by omega)
      cases RT
      · skip
        go_upto_region 1 with (fail)
        obtain ⟨hB, hs, rt0, rl1, rl3, c00, c01, c10, c11, c12, c13, c20, c21⟩ := HX0.out _ (Below.refl _ _)
        have hsz1 : (w.heap.size + 3) ≤ ((((w.alloc (.cells #[.slice A0 t.es.length n0, .slice B0 t.ks.length m0] 27)).alloc (.cells #[.slice A1 o.path.length n1, .int .i64 o.act, .string o.s, .int .i64 o.n] 80)).alloc (.cells #[.int .i64 d.dc, .int .i64 d.n] 54))).heap.size := (by first | omega | (simp; done) | (simp; omega))
        have Hrt0_1 : Hid (∀ W, Below (w.heap.size + 3) (((w.alloc (.cells #[.slice A0 t.es.length n0, .slice B0 t.ks.length m0] 27)).alloc (.cells #[.slice A1 o.path.length n1, .int .i64 o.act, .string o.s, .int .i64 o.n] 80)).alloc (.cells #[.int .i64 d.dc, .int .i64 d.n] 54)) W → t.rd W (W).heap.size (.slice A0 t.es.length n0) (.slice B0 t.ks.length m0)) := fun W hW => by
          obtain ⟨_, _, z, _, _, _, _, _, _, _, _, _, _⟩ := HX0.out W hW
          exact z
        have Hrl1_1 : Hid (∀ W, Below (w.heap.size + 3) (((w.alloc (.cells #[.slice A0 t.es.length n0, .slice B0 t.ks.length m0] 27)).alloc (.cells #[.slice A1 o.path.length n1, .int .i64 o.act, .string o.s, .int .i64 o.n] 80)).alloc (.cells #[.int .i64 d.dc, .int .i64 d.n] 54)) W → SlP W (W).heap.size 1 StE (.slice A1 o.path.length n1) o.path) := fun W hW => by
          obtain ⟨_, _, _, z, _, _, _, _, _, _, _, _, _⟩ := HX0.out W hW
          exact z
        have Hrl3_1 : Hid (∀ W, Below (w.heap.size + 3) (((w.alloc (.cells #[.slice A0 t.es.length n0, .slice B0 t.ks.length m0] 27)).alloc (.cells #[.slice A1 o.path.length n1, .int .i64 o.act, .string o.s, .int .i64 o.n] 80)).alloc (.cells #[.int .i64 d.dc, .int .i64 d.n] 54)) W → SlP W (W).heap.size 1 StE (.slice A3 p.length n3) p) := fun W hW => by
          obtain ⟨_, _, _, _, z, _, _, _, _, _, _, _, _⟩ := HX0.out W hW
          exact z
        have HQ1_0 := hid (fun (wf : World) (hbf : Below ((((w.alloc (.cells #[.slice A0 t.es.length n0, .slice B0 t.ks.length m0] 27)).alloc (.cells #[.slice A1 o.path.length n1, .int .i64 o.act, .string o.s, .int .i64 o.n] 80)).alloc (.cells #[.int .i64 d.dc, .int .i64 d.n] 54))).heap.size (((w.alloc (.cells #[.slice A0 t.es.length n0, .slice B0 t.ks.length m0] 27)).alloc (.cells #[.slice A1 o.path.length n1, .int .i64 o.act, .string o.s, .int .i64 o.n] 80)).alloc (.cells #[.int .i64 d.dc, .int .i64 d.n] 54)) wf) => Calls.boolEq (awake15_any wf) rfl)
        have HQ1_1 := hid (fun (wf : World) (hbf : Below ((((w.alloc (.cells #[.slice A0 t.es.length n0, .slice B0 t.ks.length m0] 27)).alloc (.cells #[.slice A1 o.path.length n1, .int .i64 o.act, .string o.s, .int .i64 o.n] 80)).alloc (.cells #[.int .i64 d.dc, .int .i64 d.n] 54))).heap.size (((w.alloc (.cells #[.slice A0 t.es.length n0, .slice B0 t.ks.length m0] 27)).alloc (.cells #[.slice A1 o.path.length n1, .int .i64 o.act, .string o.s, .int .i64 o.n] 80)).alloc (.cells #[.int .i64 d.dc, .int .i64 d.n] 54)) wf) => Calls.boolEq (small15_any t wf _ _ (Hrt0_1.out _ ((Below.refl _ _).trans (hbf.mono hsz1)))) HSM.out)
        have HQ1_2 := hid (fun (wf : World) (hbf : Below ((((w.alloc (.cells #[.slice A0 t.es.length n0, .slice B0 t.ks.length m0] 27)).alloc (.cells #[.slice A1 o.path.length n1, .int .i64 o.act, .string o.s, .int .i64 o.n] 80)).alloc (.cells #[.int .i64 d.dc, .int .i64 d.n] 54))).heap.size (((w.alloc (.cells #[.slice A0 t.es.length n0, .slice B0 t.ks.length m0] 27)).alloc (.cells #[.slice A1 o.path.length n1, .int .i64 o.act, .string o.s, .int .i64 o.n] 80)).alloc (.cells #[.int .i64 d.dc, .int .i64 d.n] 54)) wf) => Calls.boolEq (r08Right_any t wf _ _ (Hrt0_1.out _ ((Below.refl _ _).trans (hbf.mono hsz1)))) HRT.out)
        have f_c00 := far_cell (B := ((((w.alloc (.cells #[.slice A0 t.es.length n0, .slice B0 t.ks.length m0] 27)).alloc (.cells #[.slice A1 o.path.length n1, .int .i64 o.act, .string o.s, .int .i64 o.n] 80)).alloc (.cells #[.int .i64 d.dc, .int .i64 d.n] 54))).heap.size) c00 (by first | omega | (simp; done) | (simp; omega))
        have f_c01 := far_cell (B := ((((w.alloc (.cells #[.slice A0 t.es.length n0, .slice B0 t.ks.length m0] 27)).alloc (.cells #[.slice A1 o.path.length n1, .int .i64 o.act, .string o.s, .int .i64 o.n] 80)).alloc (.cells #[.int .i64 d.dc, .int .i64 d.n] 54))).heap.size) c01 (by first | omega | (simp; done) | (simp; omega))
        have f_c10 := far_cell (B := ((((w.alloc (.cells #[.slice A0 t.es.length n0, .slice B0 t.ks.length m0] 27)).alloc (.cells #[.slice A1 o.path.length n1, .int .i64 o.act, .string o.s, .int .i64 o.n] 80)).alloc (.cells #[.int .i64 d.dc, .int .i64 d.n] 54))).heap.size) c10 (by first | omega | (simp; done) | (simp; omega))
        have f_c11 := far_cell (B := ((((w.alloc (.cells #[.slice A0 t.es.length n0, .slice B0 t.ks.length m0] 27)).alloc (.cells #[.slice A1 o.path.length n1, .int .i64 o.act, .string o.s, .int .i64 o.n] 80)).alloc (.cells #[.int .i64 d.dc, .int .i64 d.n] 54))).heap.size) c11 (by first | omega | (simp; done) | (simp; omega))
        have f_c12 := far_cell (B := ((((w.alloc (.cells #[.slice A0 t.es.length n0, .slice B0 t.ks.length m0] 27)).alloc (.cells #[.slice A1 o.path.length n1, .int .i64 o.act, .string o.s, .int .i64 o.n] 80)).alloc (.cells #[.int .i64 d.dc, .int .i64 d.n] 54))).heap.size) c12 (by first | omega | (simp; done) | (simp; omega))
        have f_c13 := far_cell (B := ((((w.alloc (.cells #[.slice A0 t.es.length n0, .slice B0 t.ks.length m0] 27)).alloc (.cells #[.slice A1 o.path.length n1, .int .i64 o.act, .string o.s, .int .i64 o.n] 80)).alloc (.cells #[.int .i64 d.dc, .int .i64 d.n] 54))).heap.size) c13 (by first | omega | (simp; done) | (simp; omega))
        clear hB hs rt0 rl1 rl3 c00 c01 c10 c11 c12 c13 c20 c21
        refine wp_region_far ((((w.alloc (.cells #[.slice A0 t.es.length n0, .slice B0 t.ks.length m0] 27)).alloc (.cells #[.slice A1 o.path.length n1, .int .i64 o.act, .string o.s, .int .i64 o.n] 80)).alloc (.cells #[.int .i64 d.dc, .int .i64 d.n] 54))).heap.size (by kernel_rfl) (by kernel_rfl) ?_
        repeat (go_big_quiet_step (first | (go_at_call 73; with_reducible exact Calls.far_all (Nat.le_refl _) HQ1_0.out) | (go_at_call 76; with_reducible exact Calls.far_all (Nat.le_refl _) HQ1_1.out) | (go_at_call 40; with_reducible exact Calls.far_all (Nat.le_refl _) HQ1_2.out)))
        refine wpQuiet_nil ?_
        intro w1 hb
        clear f_c00 f_c01 f_c10 f_c11 f_c12 f_c13
        have hbk1 : Hid (Below (w.heap.size + 3) (((w.alloc (.cells #[.slice A0 t.es.length n0, .slice B0 t.ks.length m0] 27)).alloc (.cells #[.slice A1 o.path.length n1, .int .i64 o.act, .string o.s, .int .i64 o.n] 80)).alloc (.cells #[.int .i64 d.dc, .int .i64 d.n] 54)) w1) := hid ((Below.refl _ _).trans (hb.mono hsz1))
        clear hb
        obtain ⟨hB, hs, rt0, rl1, rl3, c00, c01, c10, c11, c12, c13, c20, c21⟩ := HX0.out _ hbk1.out
        go_wp2_with fail
        refine (awake15_any _).mono ?_
        rintro e w2 ⟨rfl, hb⟩
        have hbk2 : Hid (Below (w.heap.size + 3) (((w.alloc (.cells #[.slice A0 t.es.length n0, .slice B0 t.ks.length m0] 27)).alloc (.cells #[.slice A1 o.path.length n1, .int .i64 o.act, .string o.s, .int .i64 o.n] 80)).alloc (.cells #[.int .i64 d.dc, .int .i64 d.n] 54)) w2) := hid (hbk1.out.trans (hb.mono (by first | omega | (simp; done) | (simp; omega))))
        clear hb
        clear hB hs rt0 rl1 rl3 c00 c01 c10 c11 c12 c13 c20 c21
        obtain ⟨hB, hs, rt0, rl1, rl3, c00, c01, c10, c11, c12, c13, c20, c21⟩ := HX0.out _ hbk2.out
        go_wp2_with fail
        go_ret
        exact ⟨rfl, hB⟩
      · skip
        cases OC
        · skip
          go_upto_region 1 with (fail)
          obtain ⟨hB, hs, rt0, rl1, rl3, c00, c01, c10, c11, c12, c13, c20, c21⟩ := HX0.out _ (Below.refl _ _)
          have hsz1 : (w.heap.size + 3) ≤ ((((w.alloc (.cells #[.slice A0 t.es.length n0, .slice B0 t.ks.length m0] 27)).alloc (.cells #[.slice A1 o.path.length n1, .int .i64 o.act, .string o.s, .int .i64 o.n] 80)).alloc (.cells #[.int .i64 d.dc, .int .i64 d.n] 54))).heap.size := (by first | omega | (simp; done) | (simp; omega))
          have Hrt0_1 : Hid (∀ W, Below (w.heap.size + 3) (((w.alloc (.cells #[.slice A0 t.es.length n0, .slice B0 t.ks.length m0] 27)).alloc (.cells #[.slice A1 o.path.length n1, .int .i64 o.act, .string o.s, .int .i64 o.n] 80)).alloc (.cells #[.int .i64 d.dc, .int .i64 d.n] 54)) W → t.rd W (W).heap.size (.slice A0 t.es.length n0) (.slice B0 t.ks.length m0)) := fun W hW => by
            obtain ⟨_, _, z, _, _, _, _, _, _, _, _, _, _⟩ := HX0.out W hW
            exact z
          have Hrl1_1 : Hid (∀ W, Below (w.heap.size + 3) (((w.alloc (.cells #[.slice A0 t.es.length n0, .slice B0 t.ks.length m0] 27)).alloc (.cells #[.slice A1 o.path.length n1, .int .i64 o.act, .string o.s, .int .i64 o.n] 80)).alloc (.cells #[.int .i64 d.dc, .int .i64 d.n] 54)) W → SlP W (W).heap.size 1 StE (.slice A1 o.path.length n1) o.path) := fun W hW => by
            obtain ⟨_, _, _, z, _, _, _, _, _, _, _, _, _⟩ := HX0.out W hW
            exact z
          have Hrl3_1 : Hid (∀ W, Below (w.heap.size + 3) (((w.alloc (.cells #[.slice A0 t.es.length n0, .slice B0 t.ks.length m0] 27)).alloc (.cells #[.slice A1 o.path.length n1, .int .i64 o.act, .string o.s, .int .i64 o.n] 80)).alloc (.cells #[.int .i64 d.dc, .int .i64 d.n] 54)) W → SlP W (W).heap.size 1 StE (.slice A3 p.length n3) p) := fun W hW => by
            obtain ⟨_, _, _, _, z, _, _, _, _, _, _, _, _⟩ := HX0.out W hW
            exact z
          have HQ1_0 := hid (fun (wf : World) (hbf : Below ((((w.alloc (.cells #[.slice A0 t.es.length n0, .slice B0 t.ks.length m0] 27)).alloc (.cells #[.slice A1 o.path.length n1, .int .i64 o.act, .string o.s, .int .i64 o.n] 80)).alloc (.cells #[.int .i64 d.dc, .int .i64 d.n] 54))).heap.size (((w.alloc (.cells #[.slice A0 t.es.length n0, .slice B0 t.ks.length m0] 27)).alloc (.cells #[.slice A1 o.path.length n1, .int .i64 o.act, .string o.s, .int .i64 o.n] 80)).alloc (.cells #[.int .i64 d.dc, .int .i64 d.n] 54)) wf) => Calls.boolEq (awake15_any wf) rfl)
          have HQ1_1 := hid (fun (wf : World) (hbf : Below ((((w.alloc (.cells #[.slice A0 t.es.length n0, .slice B0 t.ks.length m0] 27)).alloc (.cells #[.slice A1 o.path.length n1, .int .i64 o.act, .string o.s, .int .i64 o.n] 80)).alloc (.cells #[.int .i64 d.dc, .int .i64 d.n] 54))).heap.size (((w.alloc (.cells #[.slice A0 t.es.length n0, .slice B0 t.ks.length m0] 27)).alloc (.cells #[.slice A1 o.path.length n1, .int .i64 o.act, .string o.s, .int .i64 o.n] 80)).alloc (.cells #[.int .i64 d.dc, .int .i64 d.n] 54)) wf) => Calls.boolEq (small15_any t wf _ _ (Hrt0_1.out _ ((Below.refl _ _).trans (hbf.mono hsz1)))) HSM.out)
          have HQ1_2 := hid (fun (wf : World) (hbf : Below ((((w.alloc (.cells #[.slice A0 t.es.length n0, .slice B0 t.ks.length m0] 27)).alloc (.cells #[.slice A1 o.path.length n1, .int .i64 o.act, .string o.s, .int .i64 o.n] 80)).alloc (.cells #[.int .i64 d.dc, .int .i64 d.n] 54))).heap.size (((w.alloc (.cells #[.slice A0 t.es.length n0, .slice B0 t.ks.length m0] 27)).alloc (.cells #[.slice A1 o.path.length n1, .int .i64 o.act, .string o.s, .int .i64 o.n] 80)).alloc (.cells #[.int .i64 d.dc, .int .i64 d.n] 54)) wf) => Calls.boolEq (r08Right_any t wf _ _ (Hrt0_1.out _ ((Below.refl _ _).trans (hbf.mono hsz1)))) HRT.out)
          have HQ1_3 := hid (fun (wf : World) (hbf : Below ((((w.alloc (.cells #[.slice A0 t.es.length n0, .slice B0 t.ks.length m0] 27)).alloc (.cells #[.slice A1 o.path.length n1, .int .i64 o.act, .string o.s, .int .i64 o.n] 80)).alloc (.cells #[.int .i64 d.dc, .int .i64 d.n] 54))).heap.size (((w.alloc (.cells #[.slice A0 t.es.length n0, .slice B0 t.ks.length m0] 27)).alloc (.cells #[.slice A1 o.path.length n1, .int .i64 o.act, .string o.s, .int .i64 o.n] 80)).alloc (.cells #[.int .i64 d.dc, .int .i64 d.n] 54)) wf) => Calls.boolEq (r08once_any t wf _ _ (Hrt0_1.out _ ((Below.refl _ _).trans (hbf.mono hsz1))) (by omega)) HOC.out)
          have f_c00 := far_cell (B := ((((w.alloc (.cells #[.slice A0 t.es.length n0, .slice B0 t.ks.length m0] 27)).alloc (.cells #[.slice A1 o.path.length n1, .int .i64 o.act, .string o.s, .int .i64 o.n] 80)).alloc (.cells #[.int .i64 d.dc, .int .i64 d.n] 54))).heap.size) c00 (by first | omega | (simp; done) | (simp; omega))
          have f_c01 := far_cell (B := ((((w.alloc (.cells #[.slice A0 t.es.length n0, .slice B0 t.ks.length m0] 27)).alloc (.cells #[.slice A1 o.path.length n1, .int .i64 o.act, .string o.s, .int .i64 o.n] 80)).alloc (.cells #[.int .i64 d.dc, .int .i64 d.n] 54))).heap.size) c01 (by first | omega | (simp; done) | (simp; omega))
          have f_c10 := far_cell (B := ((((w.alloc (.cells #[.slice A0 t.es.length n0, .slice B0 t.ks.length m0] 27)).alloc (.cells #[.slice A1 o.path.length n1, .int .i64 o.act, .string o.s, .int .i64 o.n] 80)).alloc (.cells #[.int .i64 d.dc, .int .i64 d.n] 54))).heap.size) c10 (by first | omega | (simp; done) | (simp; omega))
          have f_c11 := far_cell (B := ((((w.alloc (.cells #[.slice A0 t.es.length n0, .slice B0 t.ks.length m0] 27)).alloc (.cells #[.slice A1 o.path.length n1, .int .i64 o.act, .string o.s, .int .i64 o.n] 80)).alloc (.cells #[.int .i64 d.dc, .int .i64 d.n] 54))).heap.size) c11 (by first | omega | (simp; done) | (simp; omega))
          have f_c12 := far_cell (B := ((((w.alloc (.cells #[.slice A0 t.es.length n0, .slice B0 t.ks.length m0] 27)).alloc (.cells #[.slice A1 o.path.length n1, .int .i64 o.act, .string o.s, .int .i64 o.n] 80)).alloc (.cells #[.int .i64 d.dc, .int .i64 d.n] 54))).heap.size) c12 (by first | omega | (simp; done) | (simp; omega))
          have f_c13 := far_cell (B := ((((w.alloc (.cells #[.slice A0 t.es.length n0, .slice B0 t.ks.length m0] 27)).alloc (.cells #[.slice A1 o.path.length n1, .int .i64 o.act, .string o.s, .int .i64 o.n] 80)).alloc (.cells #[.int .i64 d.dc, .int .i64 d.n] 54))).heap.size) c13 (by first | omega | (simp; done) | (simp; omega))
          clear hB hs rt0 rl1 rl3 c00 c01 c10 c11 c12 c13 c20 c21
          refine wp_region_far ((((w.alloc (.cells #[.slice A0 t.es.length n0, .slice B0 t.ks.length m0] 27)).alloc (.cells #[.slice A1 o.path.length n1, .int .i64 o.act, .string o.s, .int .i64 o.n] 80)).alloc (.cells #[.int .i64 d.dc, .int .i64 d.n] 54))).heap.size (by kernel_rfl) (by kernel_rfl) ?_
          repeat (go_big_quiet_step (first | (go_at_call 73; with_reducible exact Calls.far_all (Nat.le_refl _) HQ1_0.out) | (go_at_call 76; with_reducible exact Calls.far_all (Nat.le_refl _) HQ1_1.out) | (go_at_call 40; with_reducible exact Calls.far_all (Nat.le_refl _) HQ1_2.out) | (go_at_call 65; with_reducible exact Calls.far_all (Nat.le_refl _) HQ1_3.out)))
          refine wpQuiet_nil ?_
          intro w1 hb
          clear f_c00 f_c01 f_c10 f_c11 f_c12 f_c13
          have hbk1 : Hid (Below (w.heap.size + 3) (((w.alloc (.cells #[.slice A0 t.es.length n0, .slice B0 t.ks.length m0] 27)).alloc (.cells #[.slice A1 o.path.length n1, .int .i64 o.act, .string o.s, .int .i64 o.n] 80)).alloc (.cells #[.int .i64 d.dc, .int .i64 d.n] 54)) w1) := hid ((Below.refl _ _).trans (hb.mono hsz1))
          clear hb
          obtain ⟨hB, hs, rt0, rl1, rl3, c00, c01, c10, c11, c12, c13, c20, c21⟩ := HX0.out _ hbk1.out
          go_wp2_with fail
          refine (awake15_any _).mono ?_
          rintro e w2 ⟨rfl, hb⟩
          have hbk2 : Hid (Below (w.heap.size + 3) (((w.alloc (.cells #[.slice A0 t.es.length n0, .slice B0 t.ks.length m0] 27)).alloc (.cells #[.slice A1 o.path.length n1, .int .i64 o.act, .string o.s, .int .i64 o.n] 80)).alloc (.cells #[.int .i64 d.dc, .int .i64 d.n] 54)) w2) := hid (hbk1.out.trans (hb.mono (by first | omega | (simp; done) | (simp; omega))))
          clear hb
          clear hB hs rt0 rl1 rl3 c00 c01 c10 c11 c12 c13 c20 c21
          obtain ⟨hB, hs, rt0, rl1, rl3, c00, c01, c10, c11, c12, c13, c20, c21⟩ := HX0.out _ hbk2.out
          go_wp2_with fail
          go_ret
          exact ⟨rfl, hB⟩
        · skip
          by_cases hoi : OI = 0
          · skip
            subst hoi
            by_cases h0p : p.length = 0
            · skip
              have h0' : ((p.length : Int) == 0) = true := by simpa using h0p
              go_upto_region 1 with (fail)
              obtain ⟨hB, hs, rt0, rl1, rl3, c00, c01, c10, c11, c12, c13, c20, c21⟩ := HX0.out _ (Below.refl _ _)
              have hsz1 : (w.heap.size + 3) ≤ ((((w.alloc (.cells #[.slice A0 t.es.length n0, .slice B0 t.ks.length m0] 27)).alloc (.cells #[.slice A1 o.path.length n1, .int .i64 o.act, .string o.s, .int .i64 o.n] 80)).alloc (.cells #[.int .i64 d.dc, .int .i64 d.n] 54))).heap.size := (by first | omega | (simp; done) | (simp; omega))
              have Hrt0_1 : Hid (∀ W, Below (w.heap.size + 3) (((w.alloc (.cells #[.slice A0 t.es.length n0, .slice B0 t.ks.length m0] 27)).alloc (.cells #[.slice A1 o.path.length n1, .int .i64 o.act, .string o.s, .int .i64 o.n] 80)).alloc (.cells #[.int .i64 d.dc, .int .i64 d.n] 54)) W → t.rd W (W).heap.size (.slice A0 t.es.length n0) (.slice B0 t.ks.length m0)) := fun W hW => by
                obtain ⟨_, _, z, _, _, _, _, _, _, _, _, _, _⟩ := HX0.out W hW
                exact z
              have Hrl1_1 : Hid (∀ W, Below (w.heap.size + 3) (((w.alloc (.cells #[.slice A0 t.es.length n0, .slice B0 t.ks.length m0] 27)).alloc (.cells #[.slice A1 o.path.length n1, .int .i64 o.act, .string o.s, .int .i64 o.n] 80)).alloc (.cells #[.int .i64 d.dc, .int .i64 d.n] 54)) W → SlP W (W).heap.size 1 StE (.slice A1 o.path.length n1) o.path) := fun W hW => by
                obtain ⟨_, _, _, z, _, _, _, _, _, _, _, _, _⟩ := HX0.out W hW
                exact z
              have Hrl3_1 : Hid (∀ W, Below (w.heap.size + 3) (((w.alloc (.cells #[.slice A0 t.es.length n0, .slice B0 t.ks.length m0] 27)).alloc (.cells #[.slice A1 o.path.length n1, .int .i64 o.act, .string o.s, .int .i64 o.n] 80)).alloc (.cells #[.int .i64 d.dc, .int .i64 d.n] 54)) W → SlP W (W).heap.size 1 StE (.slice A3 p.length n3) p) := fun W hW => by
                obtain ⟨_, _, _, _, z, _, _, _, _, _, _, _, _⟩ := HX0.out W hW
                exact z
              have HQ1_0 := hid (fun (wf : World) (hbf : Below ((((w.alloc (.cells #[.slice A0 t.es.length n0, .slice B0 t.ks.length m0] 27)).alloc (.cells #[.slice A1 o.path.length n1, .int .i64 o.act, .string o.s, .int .i64 o.n] 80)).alloc (.cells #[.int .i64 d.dc, .int .i64 d.n] 54))).heap.size (((w.alloc (.cells #[.slice A0 t.es.length n0, .slice B0 t.ks.length m0] 27)).alloc (.cells #[.slice A1 o.path.length n1, .int .i64 o.act, .string o.s, .int .i64 o.n] 80)).alloc (.cells #[.int .i64 d.dc, .int .i64 d.n] 54)) wf) => Calls.boolEq (awake15_any wf) rfl)
              have HQ1_1 := hid (fun (wf : World) (hbf : Below ((((w.alloc (.cells #[.slice A0 t.es.length n0, .slice B0 t.ks.length m0] 27)).alloc (.cells #[.slice A1 o.path.length n1, .int .i64 o.act, .string o.s, .int .i64 o.n] 80)).alloc (.cells #[.int .i64 d.dc, .int .i64 d.n] 54))).heap.size (((w.alloc (.cells #[.slice A0 t.es.length n0, .slice B0 t.ks.length m0] 27)).alloc (.cells #[.slice A1 o.path.length n1, .int .i64 o.act, .string o.s, .int .i64 o.n] 80)).alloc (.cells #[.int .i64 d.dc, .int .i64 d.n] 54)) wf) => Calls.boolEq (small15_any t wf _ _ (Hrt0_1.out _ ((Below.refl _ _).trans (hbf.mono hsz1)))) HSM.out)
              have HQ1_2 := hid (fun (wf : World) (hbf : Below ((((w.alloc (.cells #[.slice A0 t.es.length n0, .slice B0 t.ks.length m0] 27)).alloc (.cells #[.slice A1 o.path.length n1, .int .i64 o.act, .string o.s, .int .i64 o.n] 80)).alloc (.cells #[.int .i64 d.dc, .int .i64 d.n] 54))).heap.size (((w.alloc (.cells #[.slice A0 t.es.length n0, .slice B0 t.ks.length m0] 27)).alloc (.cells #[.slice A1 o.path.length n1, .int .i64 o.act, .string o.s, .int .i64 o.n] 80)).alloc (.cells #[.int .i64 d.dc, .int .i64 d.n] 54)) wf) => Calls.boolEq (r08Right_any t wf _ _ (Hrt0_1.out _ ((Below.refl _ _).trans (hbf.mono hsz1)))) HRT.out)
              have HQ1_3 := hid (fun (wf : World) (hbf : Below ((((w.alloc (.cells #[.slice A0 t.es.length n0, .slice B0 t.ks.length m0] 27)).alloc (.cells #[.slice A1 o.path.length n1, .int .i64 o.act, .string o.s, .int .i64 o.n] 80)).alloc (.cells #[.int .i64 d.dc, .int .i64 d.n] 54))).heap.size (((w.alloc (.cells #[.slice A0 t.es.length n0, .slice B0 t.ks.length m0] 27)).alloc (.cells #[.slice A1 o.path.length n1, .int .i64 o.act, .string o.s, .int .i64 o.n] 80)).alloc (.cells #[.int .i64 d.dc, .int .i64 d.n] 54)) wf) => Calls.boolEq (r08once_any t wf _ _ (Hrt0_1.out _ ((Below.refl _ _).trans (hbf.mono hsz1))) (by omega)) HOC.out)
              have HQ1_4 := hid (fun (wf : World) (hbf : Below ((((w.alloc (.cells #[.slice A0 t.es.length n0, .slice B0 t.ks.length m0] 27)).alloc (.cells #[.slice A1 o.path.length n1, .int .i64 o.act, .string o.s, .int .i64 o.n] 80)).alloc (.cells #[.int .i64 d.dc, .int .i64 d.n] 54))).heap.size (((w.alloc (.cells #[.slice A0 t.es.length n0, .slice B0 t.ks.length m0] 27)).alloc (.cells #[.slice A1 o.path.length n1, .int .i64 o.act, .string o.s, .int .i64 o.n] 80)).alloc (.cells #[.int .i64 d.dc, .int .i64 d.n] 54)) wf) => Calls.intEq (r15op_any o _ wf (Hrl1_1.out _ ((Below.refl _ _).trans (hbf.mono hsz1))) HOK.out) HOI.out)
              have f_c00 := far_cell (B := ((((w.alloc (.cells #[.slice A0 t.es.length n0, .slice B0 t.ks.length m0] 27)).alloc (.cells #[.slice A1 o.path.length n1, .int .i64 o.act, .string o.s, .int .i64 o.n] 80)).alloc (.cells #[.int .i64 d.dc, .int .i64 d.n] 54))).heap.size) c00 (by first | omega | (simp; done) | (simp; omega))
              have f_c01 := far_cell (B := ((((w.alloc (.cells #[.slice A0 t.es.length n0, .slice B0 t.ks.length m0] 27)).alloc (.cells #[.slice A1 o.path.length n1, .int .i64 o.act, .string o.s, .int .i64 o.n] 80)).alloc (.cells #[.int .i64 d.dc, .int .i64 d.n] 54))).heap.size) c01 (by first | omega | (simp; done) | (simp; omega))
              have f_c10 := far_cell (B := ((((w.alloc (.cells #[.slice A0 t.es.length n0, .slice B0 t.ks.length m0] 27)).alloc (.cells #[.slice A1 o.path.length n1, .int .i64 o.act, .string o.s, .int .i64 o.n] 80)).alloc (.cells #[.int .i64 d.dc, .int .i64 d.n] 54))).heap.size) c10 (by first | omega | (simp; done) | (simp; omega))
              have f_c11 := far_cell (B := ((((w.alloc (.cells #[.slice A0 t.es.length n0, .slice B0 t.ks.length m0] 27)).alloc (.cells #[.slice A1 o.path.length n1, .int .i64 o.act, .string o.s, .int .i64 o.n] 80)).alloc (.cells #[.int .i64 d.dc, .int .i64 d.n] 54))).heap.size) c11 (by first | omega | (simp; done) | (simp; omega))
              have f_c12 := far_cell (B := ((((w.alloc (.cells #[.slice A0 t.es.length n0, .slice B0 t.ks.length m0] 27)).alloc (.cells #[.slice A1 o.path.length n1, .int .i64 o.act, .string o.s, .int .i64 o.n] 80)).alloc (.cells #[.int .i64 d.dc, .int .i64 d.n] 54))).heap.size) c12 (by first | omega | (simp; done) | (simp; omega))
              have f_c13 := far_cell (B := ((((w.alloc (.cells #[.slice A0 t.es.length n0, .slice B0 t.ks.length m0] 27)).alloc (.cells #[.slice A1 o.path.length n1, .int .i64 o.act, .string o.s, .int .i64 o.n] 80)).alloc (.cells #[.int .i64 d.dc, .int .i64 d.n] 54))).heap.size) c13 (by first | omega | (simp; done) | (simp; omega))
              clear hB hs rt0 rl1 rl3 c00 c01 c10 c11 c12 c13 c20 c21
              refine wp_region_far ((((w.alloc (.cells #[.slice A0 t.es.length n0, .slice B0 t.ks.length m0] 27)).alloc (.cells #[.slice A1 o.path.length n1, .int .i64 o.act, .string o.s, .int .i64 o.n] 80)).alloc (.cells #[.int .i64 d.dc, .int .i64 d.n] 54))).heap.size (by kernel_rfl) (by kernel_rfl) ?_
              repeat (go_big_quiet_step (first | (go_at_call 73; with_reducible exact Calls.far_all (Nat.le_refl _) HQ1_0.out) | (go_at_call 76; with_reducible exact Calls.far_all (Nat.le_refl _) HQ1_1.out) | (go_at_call 40; with_reducible exact Calls.far_all (Nat.le_refl _) HQ1_2.out) | (go_at_call 65; with_reducible exact Calls.far_all (Nat.le_refl _) HQ1_3.out) | (go_at_call 85; with_reducible exact Calls.far_all (Nat.le_refl _) HQ1_4.out)))
              refine wpQuiet_nil ?_
              intro w1 hb
              clear f_c00 f_c01 f_c10 f_c11 f_c12 f_c13
              have hbk1 : Hid (Below (w.heap.size + 3) (((w.alloc (.cells #[.slice A0 t.es.length n0, .slice B0 t.ks.length m0] 27)).alloc (.cells #[.slice A1 o.path.length n1, .int .i64 o.act, .string o.s, .int .i64 o.n] 80)).alloc (.cells #[.int .i64 d.dc, .int .i64 d.n] 54)) w1) := hid ((Below.refl _ _).trans (hb.mono hsz1))
              clear hb
              obtain ⟨hB, hs, rt0, rl1, rl3, c00, c01, c10, c11, c12, c13, c20, c21⟩ := HX0.out _ hbk1.out
              go_wp2_with fail
              refine (awake15_any _).mono ?_
              rintro e w2 ⟨rfl, hb⟩
              have hbk2 : Hid (Below (w.heap.size + 3) (((w.alloc (.cells #[.slice A0 t.es.length n0, .slice B0 t.ks.length m0] 27)).alloc (.cells #[.slice A1 o.path.length n1, .int .i64 o.act, .string o.s, .int .i64 o.n] 80)).alloc (.cells #[.int .i64 d.dc, .int .i64 d.n] 54)) w2) := hid (hbk1.out.trans (hb.mono (by first | omega | (simp; done) | (simp; omega))))
              clear hb
              clear hB hs rt0 rl1 rl3 c00 c01 c10 c11 c12 c13 c20 c21
              obtain ⟨hB, hs, rt0, rl1, rl3, c00, c01, c10, c11, c12, c13, c20, c21⟩ := HX0.out _ hbk2.out
              go_wp2_with fail
              go_ret
              exact ⟨rfl, hB⟩
            · skip
              have h0' : ((p.length : Int) == 0) = false := by simpa using h0p
              obtain ⟨k, hk⟩ : ∃ k, p[0]? = some k := ⟨_, List.getElem?_eq_getElem (Nat.pos_of_ne_zero h0p)⟩
              have hol := (path_ok (op_ok HOI.out).path).1
              obtain ⟨q, hq⟩ : ∃ q, o.path[0]? = some q := ⟨_, List.getElem?_eq_getElem (by omega)⟩
              have HQ0 := hid hq
              have HK0 := hid hk
              obtain ⟨bq, oq, hAq, hbq, hcq⟩ : ∃ b off, A1 = some ⟨b, off, none⟩ ∧ b < w.heap.size ∧ w.cell? ⟨b, off, none⟩ = some (.string q) := by
                obtain ⟨_, _, hv, _, _, h3⟩ := h1x.out
                cases hv
                obtain ⟨b, off, rfl, hb, hc⟩ := h3 (by intro e; rw [e] at hq; cases hq)
                obtain ⟨cs, ⟨rfl, _⟩, _, hu⟩ := hc 0 _ hq
                exact ⟨b, off, rfl, hb, by simpa using hu 0 _ rfl⟩
              obtain ⟨bk, ok, hAk, hbk, hck⟩ : ∃ b off, A3 = some ⟨b, off, none⟩ ∧ b < w.heap.size ∧ w.cell? ⟨b, off, none⟩ = some (.string k) := by
                obtain ⟨_, _, hv, _, _, h3⟩ := h3x.out
                cases hv
                obtain ⟨b, off, rfl, hb, hc⟩ := h3 (by intro e; rw [e] at hk; cases hk)
                obtain ⟨cs, ⟨rfl, _⟩, _, hu⟩ := hc 0 _ hk
                exact ⟨b, off, rfl, hb, by simpa using hu 0 _ rfl⟩
              subst hAq
              subst hAk
              have HX1 : Hid (∀ W, Below (w.heap.size + 3) (((w.alloc (.cells #[.slice A0 t.es.length n0, .slice B0 t.ks.length m0] 27)).alloc (.cells #[.slice (some ⟨bq, oq, none⟩) o.path.length n1, .int .i64 o.act, .string o.s, .int .i64 o.n] 80)).alloc (.cells #[.int .i64 d.dc, .int .i64 d.n] 54)) W → ((W).cell? ⟨bq, oq, none⟩ = some (.string q) ∧ (W).cell? ⟨bk, ok, none⟩ = some (.string k) ∧ Below w.heap.size w W ∧ w.heap.size + 3 ≤ (W).heap.size ∧ t.rd W (W).heap.size (.slice A0 t.es.length n0) (.slice B0 t.ks.length m0) ∧ SlP W (W).heap.size 1 StE (.slice (some ⟨bq, oq, none⟩) o.path.length n1) o.path ∧ SlP W (W).heap.size 1 StE (.slice (some ⟨bk, ok, none⟩) p.length n3) p ∧ (W).cell? ⟨w.heap.size, 0, none⟩ = some (.slice A0 t.es.length n0) ∧ (W).cell? ⟨w.heap.size, 1, none⟩ = some (.slice B0 t.ks.length m0) ∧ (W).cell? ⟨(w.heap.size + 1), 0, none⟩ = some (.slice (some ⟨bq, oq, none⟩) o.path.length n1) ∧ (W).cell? ⟨(w.heap.size + 1), 1, none⟩ = some (.int .i64 o.act) ∧ (W).cell? ⟨(w.heap.size + 1), 2, none⟩ = some (.string o.s) ∧ (W).cell? ⟨(w.heap.size + 1), 3, none⟩ = some (.int .i64 o.n) ∧ (W).cell? ⟨(w.heap.size + 2), 0, none⟩ = some (.int .i64 d.dc) ∧ (W).cell? ⟨(w.heap.size + 2), 1, none⟩ = some (.int .i64 d.n))) := fun W hW =>
                ⟨((HX0.out W hW).1.cell hbq).trans hcq, ((HX0.out W hW).1.cell hbk).trans hck, HX0.out W hW⟩
              have hlq : bq < w.heap.size + 3 := by omega
              have hlk : bk < w.heap.size + 3 := by omega
              have hq1 : (0 : Int) < (o.path.length : Int) := by omega
              have hk1 : (0 : Int) < (p.length : Int) := by have := Nat.pos_of_ne_zero h0p; omega
              clear hq hk h1x h3x
              by_cases hqk : q = k
              · have hqk' : (q.toList == k.toList) = true := by rw [hqk]; simp
                clear hqk
                go_upto_region 1 with (fail)
                obtain ⟨ch_q, ch_k, hB, hs, rt0, rl1, rl3, c00, c01, c10, c11, c12, c13, c20, c21⟩ := HX1.out _ (Below.refl _ _)
                have hsz1 : (w.heap.size + 3) ≤ ((((w.alloc (.cells #[.slice A0 t.es.length n0, .slice B0 t.ks.length m0] 27)).alloc (.cells #[.slice (some ⟨bq, oq, none⟩) o.path.length n1, .int .i64 o.act, .string o.s, .int .i64 o.n] 80)).alloc (.cells #[.int .i64 d.dc, .int .i64 d.n] 54))).heap.size := (by first | omega | (simp; done) | (simp; omega))
                have Hrt0_1 : Hid (∀ W, Below (w.heap.size + 3) (((w.alloc (.cells #[.slice A0 t.es.length n0, .slice B0 t.ks.length m0] 27)).alloc (.cells #[.slice (some ⟨bq, oq, none⟩) o.path.length n1, .int .i64 o.act, .string o.s, .int .i64 o.n] 80)).alloc (.cells #[.int .i64 d.dc, .int .i64 d.n] 54)) W → t.rd W (W).heap.size (.slice A0 t.es.length n0) (.slice B0 t.ks.length m0)) := fun W hW => by
                  obtain ⟨_, _, _, _, z, _, _, _, _, _, _, _, _, _, _⟩ := HX1.out W hW
                  exact z
                have Hrl1_1 : Hid (∀ W, Below (w.heap.size + 3) (((w.alloc (.cells #[.slice A0 t.es.length n0, .slice B0 t.ks.length m0] 27)).alloc (.cells #[.slice (some ⟨bq, oq, none⟩) o.path.length n1, .int .i64 o.act, .string o.s, .int .i64 o.n] 80)).alloc (.cells #[.int .i64 d.dc, .int .i64 d.n] 54)) W → SlP W (W).heap.size 1 StE (.slice (some ⟨bq, oq, none⟩) o.path.length n1) o.path) := fun W hW => by
                  obtain ⟨_, _, _, _, _, z, _, _, _, _, _, _, _, _, _⟩ := HX1.out W hW
                  exact z
                have Hrl3_1 : Hid (∀ W, Below (w.heap.size + 3) (((w.alloc (.cells #[.slice A0 t.es.length n0, .slice B0 t.ks.length m0] 27)).alloc (.cells #[.slice (some ⟨bq, oq, none⟩) o.path.length n1, .int .i64 o.act, .string o.s, .int .i64 o.n] 80)).alloc (.cells #[.int .i64 d.dc, .int .i64 d.n] 54)) W → SlP W (W).heap.size 1 StE (.slice (some ⟨bk, ok, none⟩) p.length n3) p) := fun W hW => by
                  obtain ⟨_, _, _, _, _, _, z, _, _, _, _, _, _, _, _⟩ := HX1.out W hW
                  exact z
                have HQ1_0 := hid (fun (wf : World) (hbf : Below ((((w.alloc (.cells #[.slice A0 t.es.length n0, .slice B0 t.ks.length m0] 27)).alloc (.cells #[.slice (some ⟨bq, oq, none⟩) o.path.length n1, .int .i64 o.act, .string o.s, .int .i64 o.n] 80)).alloc (.cells #[.int .i64 d.dc, .int .i64 d.n] 54))).heap.size (((w.alloc (.cells #[.slice A0 t.es.length n0, .slice B0 t.ks.length m0] 27)).alloc (.cells #[.slice (some ⟨bq, oq, none⟩) o.path.length n1, .int .i64 o.act, .string o.s, .int .i64 o.n] 80)).alloc (.cells #[.int .i64 d.dc, .int .i64 d.n] 54)) wf) => Calls.boolEq (awake15_any wf) rfl)
                have HQ1_1 := hid (fun (wf : World) (hbf : Below ((((w.alloc (.cells #[.slice A0 t.es.length n0, .slice B0 t.ks.length m0] 27)).alloc (.cells #[.slice (some ⟨bq, oq, none⟩) o.path.length n1, .int .i64 o.act, .string o.s, .int .i64 o.n] 80)).alloc (.cells #[.int .i64 d.dc, .int .i64 d.n] 54))).heap.size (((w.alloc (.cells #[.slice A0 t.es.length n0, .slice B0 t.ks.length m0] 27)).alloc (.cells #[.slice (some ⟨bq, oq, none⟩) o.path.length n1, .int .i64 o.act, .string o.s, .int .i64 o.n] 80)).alloc (.cells #[.int .i64 d.dc, .int .i64 d.n] 54)) wf) => Calls.boolEq (small15_any t wf _ _ (Hrt0_1.out _ ((Below.refl _ _).trans (hbf.mono hsz1)))) HSM.out)
                have HQ1_2 := hid (fun (wf : World) (hbf : Below ((((w.alloc (.cells #[.slice A0 t.es.length n0, .slice B0 t.ks.length m0] 27)).alloc (.cells #[.slice (some ⟨bq, oq, none⟩) o.path.length n1, .int .i64 o.act, .string o.s, .int .i64 o.n] 80)).alloc (.cells #[.int .i64 d.dc, .int .i64 d.n] 54))).heap.size (((w.alloc (.cells #[.slice A0 t.es.length n0, .slice B0 t.ks.length m0] 27)).alloc (.cells #[.slice (some ⟨bq, oq, none⟩) o.path.length n1, .int .i64 o.act, .string o.s, .int .i64 o.n] 80)).alloc (.cells #[.int .i64 d.dc, .int .i64 d.n] 54)) wf) => Calls.boolEq (r08Right_any t wf _ _ (Hrt0_1.out _ ((Below.refl _ _).trans (hbf.mono hsz1)))) HRT.out)
                have HQ1_3 := hid (fun (wf : World) (hbf : Below ((((w.alloc (.cells #[.slice A0 t.es.length n0, .slice B0 t.ks.length m0] 27)).alloc (.cells #[.slice (some ⟨bq, oq, none⟩) o.path.length n1, .int .i64 o.act, .string o.s, .int .i64 o.n] 80)).alloc (.cells #[.int .i64 d.dc, .int .i64 d.n] 54))).heap.size (((w.alloc (.cells #[.slice A0 t.es.length n0, .slice B0 t.ks.length m0] 27)).alloc (.cells #[.slice (some ⟨bq, oq, none⟩) o.path.length n1, .int .i64 o.act, .string o.s, .int .i64 o.n] 80)).alloc (.cells #[.int .i64 d.dc, .int .i64 d.n] 54)) wf) => Calls.boolEq (r08once_any t wf _ _ (Hrt0_1.out _ ((Below.refl _ _).trans (hbf.mono hsz1))) (by omega)) HOC.out)
                have HQ1_4 := hid (fun (wf : World) (hbf : Below ((((w.alloc (.cells #[.slice A0 t.es.length n0, .slice B0 t.ks.length m0] 27)).alloc (.cells #[.slice (some ⟨bq, oq, none⟩) o.path.length n1, .int .i64 o.act, .string o.s, .int .i64 o.n] 80)).alloc (.cells #[.int .i64 d.dc, .int .i64 d.n] 54))).heap.size (((w.alloc (.cells #[.slice A0 t.es.length n0, .slice B0 t.ks.length m0] 27)).alloc (.cells #[.slice (some ⟨bq, oq, none⟩) o.path.length n1, .int .i64 o.act, .string o.s, .int .i64 o.n] 80)).alloc (.cells #[.int .i64 d.dc, .int .i64 d.n] 54)) wf) => Calls.intEq (r15op_any o _ wf (Hrl1_1.out _ ((Below.refl _ _).trans (hbf.mono hsz1))) HOK.out) HOI.out)
                have f_ch_q := far_cell (B := ((((w.alloc (.cells #[.slice A0 t.es.length n0, .slice B0 t.ks.length m0] 27)).alloc (.cells #[.slice (some ⟨bq, oq, none⟩) o.path.length n1, .int .i64 o.act, .string o.s, .int .i64 o.n] 80)).alloc (.cells #[.int .i64 d.dc, .int .i64 d.n] 54))).heap.size) ch_q (by first | omega | (simp; done) | (simp; omega))
                have f_ch_k := far_cell (B := ((((w.alloc (.cells #[.slice A0 t.es.length n0, .slice B0 t.ks.length m0] 27)).alloc (.cells #[.slice (some ⟨bq, oq, none⟩) o.path.length n1, .int .i64 o.act, .string o.s, .int .i64 o.n] 80)).alloc (.cells #[.int .i64 d.dc, .int .i64 d.n] 54))).heap.size) ch_k (by first | omega | (simp; done) | (simp; omega))
                have f_c00 := far_cell (B := ((((w.alloc (.cells #[.slice A0 t.es.length n0, .slice B0 t.ks.length m0] 27)).alloc (.cells #[.slice (some ⟨bq, oq, none⟩) o.path.length n1, .int .i64 o.act, .string o.s, .int .i64 o.n] 80)).alloc (.cells #[.int .i64 d.dc, .int .i64 d.n] 54))).heap.size) c00 (by first | omega | (simp; done) | (simp; omega))
                have f_c01 := far_cell (B := ((((w.alloc (.cells #[.slice A0 t.es.length n0, .slice B0 t.ks.length m0] 27)).alloc (.cells #[.slice (some ⟨bq, oq, none⟩) o.path.length n1, .int .i64 o.act, .string o.s, .int .i64 o.n] 80)).alloc (.cells #[.int .i64 d.dc, .int .i64 d.n] 54))).heap.size) c01 (by first | omega | (simp; done) | (simp; omega))
                have f_c10 := far_cell (B := ((((w.alloc (.cells #[.slice A0 t.es.length n0, .slice B0 t.ks.length m0] 27)).alloc (.cells #[.slice (some ⟨bq, oq, none⟩) o.path.length n1, .int .i64 o.act, .string o.s, .int .i64 o.n] 80)).alloc (.cells #[.int .i64 d.dc, .int .i64 d.n] 54))).heap.size) c10 (by first | omega | (simp; done) | (simp; omega))
                have f_c11 := far_cell (B := ((((w.alloc (.cells #[.slice A0 t.es.length n0, .slice B0 t.ks.length m0] 27)).alloc (.cells #[.slice (some ⟨bq, oq, none⟩) o.path.length n1, .int .i64 o.act, .string o.s, .int .i64 o.n] 80)).alloc (.cells #[.int .i64 d.dc, .int .i64 d.n] 54))).heap.size) c11 (by first | omega | (simp; done) | (simp; omega))
                have f_c12 := far_cell (B := ((((w.alloc (.cells #[.slice A0 t.es.length n0, .slice B0 t.ks.length m0] 27)).alloc (.cells #[.slice (some ⟨bq, oq, none⟩) o.path.length n1, .int .i64 o.act, .string o.s, .int .i64 o.n] 80)).alloc (.cells #[.int .i64 d.dc, .int .i64 d.n] 54))).heap.size) c12 (by first | omega | (simp; done) | (simp; omega))
                have f_c13 := far_cell (B := ((((w.alloc (.cells #[.slice A0 t.es.length n0, .slice B0 t.ks.length m0] 27)).alloc (.cells #[.slice (some ⟨bq, oq, none⟩) o.path.length n1, .int .i64 o.act, .string o.s, .int .i64 o.n] 80)).alloc (.cells #[.int .i64 d.dc, .int .i64 d.n] 54))).heap.size) c13 (by first | omega | (simp; done) | (simp; omega))
                clear ch_q ch_k hB hs rt0 rl1 rl3 c00 c01 c10 c11 c12 c13 c20 c21
                refine wp_region_far ((((w.alloc (.cells #[.slice A0 t.es.length n0, .slice B0 t.ks.length m0] 27)).alloc (.cells #[.slice (some ⟨bq, oq, none⟩) o.path.length n1, .int .i64 o.act, .string o.s, .int .i64 o.n] 80)).alloc (.cells #[.int .i64 d.dc, .int .i64 d.n] 54))).heap.size (by kernel_rfl) (by kernel_rfl) ?_
                repeat (go_big_quiet_step (first | (go_at_call 73; with_reducible exact Calls.far_all (Nat.le_refl _) HQ1_0.out) | (go_at_call 76; with_reducible exact Calls.far_all (Nat.le_refl _) HQ1_1.out) | (go_at_call 40; with_reducible exact Calls.far_all (Nat.le_refl _) HQ1_2.out) | (go_at_call 65; with_reducible exact Calls.far_all (Nat.le_refl _) HQ1_3.out) | (go_at_call 85; with_reducible exact Calls.far_all (Nat.le_refl _) HQ1_4.out)))
                refine wpQuiet_nil ?_
                intro w1 hb
                clear f_ch_q f_ch_k f_c00 f_c01 f_c10 f_c11 f_c12 f_c13
                have hbk1 : Hid (Below (w.heap.size + 3) (((w.alloc (.cells #[.slice A0 t.es.length n0, .slice B0 t.ks.length m0] 27)).alloc (.cells #[.slice (some ⟨bq, oq, none⟩) o.path.length n1, .int .i64 o.act, .string o.s, .int .i64 o.n] 80)).alloc (.cells #[.int .i64 d.dc, .int .i64 d.n] 54)) w1) := hid ((Below.refl _ _).trans (hb.mono hsz1))
                clear hb
                obtain ⟨ch_q, ch_k, hB, hs, rt0, rl1, rl3, c00, c01, c10, c11, c12, c13, c20, c21⟩ := HX1.out _ hbk1.out
                go_wp2_with fail
                refine (awake15_any _).mono ?_
                rintro e w2 ⟨rfl, hb⟩
                have hbk2 : Hid (Below (w.heap.size + 3) (((w.alloc (.cells #[.slice A0 t.es.length n0, .slice B0 t.ks.length m0] 27)).alloc (.cells #[.slice (some ⟨bq, oq, none⟩) o.path.length n1, .int .i64 o.act, .string o.s, .int .i64 o.n] 80)).alloc (.cells #[.int .i64 d.dc, .int .i64 d.n] 54)) w2) := hid (hbk1.out.trans (hb.mono (by first | omega | (simp; done) | (simp; omega))))
                clear hb
                clear ch_q ch_k hB hs rt0 rl1 rl3 c00 c01 c10 c11 c12 c13 c20 c21
                obtain ⟨ch_q, ch_k, hB, hs, rt0, rl1, rl3, c00, c01, c10, c11, c12, c13, c20, c21⟩ := HX1.out _ hbk2.out
                go_wp2_with fail
                go_ret
                exact ⟨rfl, hB⟩
              · have hqk' : (q.toList == k.toList) = false := by simp [bytes_inj]; exact hqk
                have HQK : Hid (o.path[0]? ≠ p[0]?) := by unfold Hid; rw [HQ0.out, HK0.out]; exact fun e => hqk (Option.some.inj e)
                clear hqk
                go_upto_region 1 with (fail)
                obtain ⟨ch_q, ch_k, hB, hs, rt0, rl1, rl3, c00, c01, c10, c11, c12, c13, c20, c21⟩ := HX1.out _ (Below.refl _ _)
                have hsz1 : (w.heap.size + 3) ≤ ((((w.alloc (.cells #[.slice A0 t.es.length n0, .slice B0 t.ks.length m0] 27)).alloc (.cells #[.slice (some ⟨bq, oq, none⟩) o.path.length n1, .int .i64 o.act, .string o.s, .int .i64 o.n] 80)).alloc (.cells #[.int .i64 d.dc, .int .i64 d.n] 54))).heap.size := (by first | omega | (simp; done) | (simp; omega))
                have Hrt0_1 : Hid (∀ W, Below (w.heap.size + 3) (((w.alloc (.cells #[.slice A0 t.es.length n0, .slice B0 t.ks.length m0] 27)).alloc (.cells #[.slice (some ⟨bq, oq, none⟩) o.path.length n1, .int .i64 o.act, .string o.s, .int .i64 o.n] 80)).alloc (.cells #[.int .i64 d.dc, .int .i64 d.n] 54)) W → t.rd W (W).heap.size (.slice A0 t.es.length n0) (.slice B0 t.ks.length m0)) := fun W hW => by
                  obtain ⟨_, _, _, _, z, _, _, _, _, _, _, _, _, _, _⟩ := HX1.out W hW
                  exact z
                have Hrl1_1 : Hid (∀ W, Below (w.heap.size + 3) (((w.alloc (.cells #[.slice A0 t.es.length n0, .slice B0 t.ks.length m0] 27)).alloc (.cells #[.slice (some ⟨bq, oq, none⟩) o.path.length n1, .int .i64 o.act, .string o.s, .int .i64 o.n] 80)).alloc (.cells #[.int .i64 d.dc, .int .i64 d.n] 54)) W → SlP W (W).heap.size 1 StE (.slice (some ⟨bq, oq, none⟩) o.path.length n1) o.path) := fun W hW => by
                  obtain ⟨_, _, _, _, _, z, _, _, _, _, _, _, _, _, _⟩ := HX1.out W hW
                  exact z
                have Hrl3_1 : Hid (∀ W, Below (w.heap.size + 3) (((w.alloc (.cells #[.slice A0 t.es.length n0, .slice B0 t.ks.length m0] 27)).alloc (.cells #[.slice (some ⟨bq, oq, none⟩) o.path.length n1, .int .i64 o.act, .string o.s, .int .i64 o.n] 80)).alloc (.cells #[.int .i64 d.dc, .int .i64 d.n] 54)) W → SlP W (W).heap.size 1 StE (.slice (some ⟨bk, ok, none⟩) p.length n3) p) := fun W hW => by
                  obtain ⟨_, _, _, _, _, _, z, _, _, _, _, _, _, _, _⟩ := HX1.out W hW
                  exact z
                have HQ1_0 := hid (fun (wf : World) (hbf : Below ((((w.alloc (.cells #[.slice A0 t.es.length n0, .slice B0 t.ks.length m0] 27)).alloc (.cells #[.slice (some ⟨bq, oq, none⟩) o.path.length n1, .int .i64 o.act, .string o.s, .int .i64 o.n] 80)).alloc (.cells #[.int .i64 d.dc, .int .i64 d.n] 54))).heap.size (((w.alloc (.cells #[.slice A0 t.es.length n0, .slice B0 t.ks.length m0] 27)).alloc (.cells #[.slice (some ⟨bq, oq, none⟩) o.path.length n1, .int .i64 o.act, .string o.s, .int .i64 o.n] 80)).alloc (.cells #[.int .i64 d.dc, .int .i64 d.n] 54)) wf) => Calls.boolEq (awake15_any wf) rfl)
                have HQ1_1 := hid (fun (wf : World) (hbf : Below ((((w.alloc (.cells #[.slice A0 t.es.length n0, .slice B0 t.ks.length m0] 27)).alloc (.cells #[.slice (some ⟨bq, oq, none⟩) o.path.length n1, .int .i64 o.act, .string o.s, .int .i64 o.n] 80)).alloc (.cells #[.int .i64 d.dc, .int .i64 d.n] 54))).heap.size (((w.alloc (.cells #[.slice A0 t.es.length n0, .slice B0 t.ks.length m0] 27)).alloc (.cells #[.slice (some ⟨bq, oq, none⟩) o.path.length n1, .int .i64 o.act, .string o.s, .int .i64 o.n] 80)).alloc (.cells #[.int .i64 d.dc, .int .i64 d.n] 54)) wf) => Calls.boolEq (small15_any t wf _ _ (Hrt0_1.out _ ((Below.refl _ _).trans (hbf.mono hsz1)))) HSM.out)
                have HQ1_2 := hid (fun (wf : World) (hbf : Below ((((w.alloc (.cells #[.slice A0 t.es.length n0, .slice B0 t.ks.length m0] 27)).alloc (.cells #[.slice (some ⟨bq, oq, none⟩) o.path.length n1, .int .i64 o.act, .string o.s, .int .i64 o.n] 80)).alloc (.cells #[.int .i64 d.dc, .int .i64 d.n] 54))).heap.size (((w.alloc (.cells #[.slice A0 t.es.length n0, .slice B0 t.ks.length m0] 27)).alloc (.cells #[.slice (some ⟨bq, oq, none⟩) o.path.length n1, .int .i64 o.act, .string o.s, .int .i64 o.n] 80)).alloc (.cells #[.int .i64 d.dc, .int .i64 d.n] 54)) wf) => Calls.boolEq (r08Right_any t wf _ _ (Hrt0_1.out _ ((Below.refl _ _).trans (hbf.mono hsz1)))) HRT.out)
                have HQ1_3 := hid (fun (wf : World) (hbf : Below ((((w.alloc (.cells #[.slice A0 t.es.length n0, .slice B0 t.ks.length m0] 27)).alloc (.cells #[.slice (some ⟨bq, oq, none⟩) o.path.length n1, .int .i64 o.act, .string o.s, .int .i64 o.n] 80)).alloc (.cells #[.int .i64 d.dc, .int .i64 d.n] 54))).heap.size (((w.alloc (.cells #[.slice A0 t.es.length n0, .slice B0 t.ks.length m0] 27)).alloc (.cells #[.slice (some ⟨bq, oq, none⟩) o.path.length n1, .int .i64 o.act, .string o.s, .int .i64 o.n] 80)).alloc (.cells #[.int .i64 d.dc, .int .i64 d.n] 54)) wf) => Calls.boolEq (r08once_any t wf _ _ (Hrt0_1.out _ ((Below.refl _ _).trans (hbf.mono hsz1))) (by omega)) HOC.out)
                have HQ1_4 := hid (fun (wf : World) (hbf : Below ((((w.alloc (.cells #[.slice A0 t.es.length n0, .slice B0 t.ks.length m0] 27)).alloc (.cells #[.slice (some ⟨bq, oq, none⟩) o.path.length n1, .int .i64 o.act, .string o.s, .int .i64 o.n] 80)).alloc (.cells #[.int .i64 d.dc, .int .i64 d.n] 54))).heap.size (((w.alloc (.cells #[.slice A0 t.es.length n0, .slice B0 t.ks.length m0] 27)).alloc (.cells #[.slice (some ⟨bq, oq, none⟩) o.path.length n1, .int .i64 o.act, .string o.s, .int .i64 o.n] 80)).alloc (.cells #[.int .i64 d.dc, .int .i64 d.n] 54)) wf) => Calls.intEq (r15op_any o _ wf (Hrl1_1.out _ ((Below.refl _ _).trans (hbf.mono hsz1))) HOK.out) HOI.out)
                have f_ch_q := far_cell (B := ((((w.alloc (.cells #[.slice A0 t.es.length n0, .slice B0 t.ks.length m0] 27)).alloc (.cells #[.slice (some ⟨bq, oq, none⟩) o.path.length n1, .int .i64 o.act, .string o.s, .int .i64 o.n] 80)).alloc (.cells #[.int .i64 d.dc, .int .i64 d.n] 54))).heap.size) ch_q (by first | omega | (simp; done) | (simp; omega))
                have f_ch_k := far_cell (B := ((((w.alloc (.cells #[.slice A0 t.es.length n0, .slice B0 t.ks.length m0] 27)).alloc (.cells #[.slice (some ⟨bq, oq, none⟩) o.path.length n1, .int .i64 o.act, .string o.s, .int .i64 o.n] 80)).alloc (.cells #[.int .i64 d.dc, .int .i64 d.n] 54))).heap.size) ch_k (by first | omega | (simp; done) | (simp; omega))
                have f_c00 := far_cell (B := ((((w.alloc (.cells #[.slice A0 t.es.length n0, .slice B0 t.ks.length m0] 27)).alloc (.cells #[.slice (some ⟨bq, oq, none⟩) o.path.length n1, .int .i64 o.act, .string o.s, .int .i64 o.n] 80)).alloc (.cells #[.int .i64 d.dc, .int .i64 d.n] 54))).heap.size) c00 (by first | omega | (simp; done) | (simp; omega))
                have f_c01 := far_cell (B := ((((w.alloc (.cells #[.slice A0 t.es.length n0, .slice B0 t.ks.length m0] 27)).alloc (.cells #[.slice (some ⟨bq, oq, none⟩) o.path.length n1, .int .i64 o.act, .string o.s, .int .i64 o.n] 80)).alloc (.cells #[.int .i64 d.dc, .int .i64 d.n] 54))).heap.size) c01 (by first | omega | (simp; done) | (simp; omega))
                have f_c10 := far_cell (B := ((((w.alloc (.cells #[.slice A0 t.es.length n0, .slice B0 t.ks.length m0] 27)).alloc (.cells #[.slice (some ⟨bq, oq, none⟩) o.path.length n1, .int .i64 o.act, .string o.s, .int .i64 o.n] 80)).alloc (.cells #[.int .i64 d.dc, .int .i64 d.n] 54))).heap.size) c10 (by first | omega | (simp; done) | (simp; omega))
                have f_c11 := far_cell (B := ((((w.alloc (.cells #[.slice A0 t.es.length n0, .slice B0 t.ks.length m0] 27)).alloc (.cells #[.slice (some ⟨bq, oq, none⟩) o.path.length n1, .int .i64 o.act, .string o.s, .int .i64 o.n] 80)).alloc (.cells #[.int .i64 d.dc, .int .i64 d.n] 54))).heap.size) c11 (by first | omega | (simp; done) | (simp; omega))
                have f_c12 := far_cell (B := ((((w.alloc (.cells #[.slice A0 t.es.length n0, .slice B0 t.ks.length m0] 27)).alloc (.cells #[.slice (some ⟨bq, oq, none⟩) o.path.length n1, .int .i64 o.act, .string o.s, .int .i64 o.n] 80)).alloc (.cells #[.int .i64 d.dc, .int .i64 d.n] 54))).heap.size) c12 (by first | omega | (simp; done) | (simp; omega))
                have f_c13 := far_cell (B := ((((w.alloc (.cells #[.slice A0 t.es.length n0, .slice B0 t.ks.length m0] 27)).alloc (.cells #[.slice (some ⟨bq, oq, none⟩) o.path.length n1, .int .i64 o.act, .string o.s, .int .i64 o.n] 80)).alloc (.cells #[.int .i64 d.dc, .int .i64 d.n] 54))).heap.size) c13 (by first | omega | (simp; done) | (simp; omega))
                clear ch_q ch_k hB hs rt0 rl1 rl3 c00 c01 c10 c11 c12 c13 c20 c21
                refine wp_region_far ((((w.alloc (.cells #[.slice A0 t.es.length n0, .slice B0 t.ks.length m0] 27)).alloc (.cells #[.slice (some ⟨bq, oq, none⟩) o.path.length n1, .int .i64 o.act, .string o.s, .int .i64 o.n] 80)).alloc (.cells #[.int .i64 d.dc, .int .i64 d.n] 54))).heap.size (by kernel_rfl) (by kernel_rfl) ?_
                repeat (go_big_quiet_step (first | (go_at_call 73; with_reducible exact Calls.far_all (Nat.le_refl _) HQ1_0.out) | (go_at_call 76; with_reducible exact Calls.far_all (Nat.le_refl _) HQ1_1.out) | (go_at_call 40; with_reducible exact Calls.far_all (Nat.le_refl _) HQ1_2.out) | (go_at_call 65; with_reducible exact Calls.far_all (Nat.le_refl _) HQ1_3.out) | (go_at_call 85; with_reducible exact Calls.far_all (Nat.le_refl _) HQ1_4.out)))
                refine wpQuiet_nil ?_
                intro w1 hb
                clear f_ch_q f_ch_k f_c00 f_c01 f_c10 f_c11 f_c12 f_c13
                have hbk1 : Hid (Below (w.heap.size + 3) (((w.alloc (.cells #[.slice A0 t.es.length n0, .slice B0 t.ks.length m0] 27)).alloc (.cells #[.slice (some ⟨bq, oq, none⟩) o.path.length n1, .int .i64 o.act, .string o.s, .int .i64 o.n] 80)).alloc (.cells #[.int .i64 d.dc, .int .i64 d.n] 54)) w1) := hid ((Below.refl _ _).trans (hb.mono hsz1))
                clear hb
                obtain ⟨ch_q, ch_k, hB, hs, rt0, rl1, rl3, c00, c01, c10, c11, c12, c13, c20, c21⟩ := HX1.out _ hbk1.out
                obtain ⟨X, HXE⟩ : ∃ q, Hid (appT t o d = q) := ⟨_, rfl⟩
                obtain ⟨Y, HYE⟩ : ∃ q, Hid (appC t o d = q) := ⟨_, rfl⟩
                obtain ⟨E, HEE⟩ : ∃ q, Hid (appI t o d = q) := ⟨_, rfl⟩
                go_wp2_with fail
                refine (opApply_any t o d _ _ _ _ rt0 rl1 HOK.out h2 (by omega)).mono ?_
                rw [HXE.out, HYE.out, HEE.out]
                rintro e w2 ⟨xe2, xk2, xc2, rfl, hrd2, hsl2, hb⟩
                obtain ⟨A2x, n2x, B2x, m2x, rfl, rfl⟩ := rda_shape hrd2
                obtain ⟨D2x, k2x, rfl⟩ := hsl2.shape
                have hbk2 : Hid (Below (w.heap.size + 3) (((w.alloc (.cells #[.slice A0 t.es.length n0, .slice B0 t.ks.length m0] 27)).alloc (.cells #[.slice (some ⟨bq, oq, none⟩) o.path.length n1, .int .i64 o.act, .string o.s, .int .i64 o.n] 80)).alloc (.cells #[.int .i64 d.dc, .int .i64 d.n] 54)) w2) := hid (hbk1.out.trans (hb.mono (by first | omega | (simp; done) | (simp; omega))))
                clear hb
                clear ch_q ch_k hB hs rt0 rl1 rl3 c00 c01 c10 c11 c12 c13 c20 c21
                obtain ⟨ch_q, ch_k, hB, hs, rt0, rl1, rl3, c00, c01, c10, c11, c12, c13, c20, c21⟩ := HX1.out _ hbk2.out
                by_cases hE : E = 0
                · subst hE
                  obtain ⟨X2, Y2, Z, ZC, V, EI, hx2, hy2, HZE, HZ, HZC, HI1, HV1, HI2, HV2, hX1, hY1, hZ1, hK1⟩ := ap_plain HOC.out hsz HEE.out (p := p) (by intro e; rw [e] at h0p; exact h0p rfl) HQK.out
                  have e2 : X = X2 := HXE.out.symm.trans hx2.out
                  subst e2
                  have e3 : Y = Y2 := HYE.out.symm.trans hy2.out
                  subst e3
                  have HN := hid (right_nums (app_ok HEE.out).1)
                  clear h0p
                  have hlt292 : w.heap.size < w2.heap.size := by omega
                  have hne292 : w.heap.size ≠ w2.heap.size := by omega
                  have hnr292 : w2.heap.size ≠ w.heap.size := by omega
                  have hlt2153 : (w.heap.size + 1) < w2.heap.size := by omega
                  have hne2153 : (w.heap.size + 1) ≠ w2.heap.size := by omega
                  have hnr2153 : w2.heap.size ≠ (w.heap.size + 1) := by omega
                  have hlt2472 : (w.heap.size + 2) < w2.heap.size := by omega
                  have hne2472 : (w.heap.size + 2) ≠ w2.heap.size := by omega
                  have hnr2472 : w2.heap.size ≠ (w.heap.size + 2) := by omega
                  have HX2 : Hid (∀ W, Below (w2.heap.size + 1) (w2.alloc (.cells #[.slice A2x X.es.length n2x, .slice B2x X.ks.length m2x, .slice D2x Y.length k2x] 31)) W → (w2.heap.size + 1 ≤ (W).heap.size ∧ X.rd W (W).heap.size (.slice A2x X.es.length n2x) (.slice B2x X.ks.length m2x) ∧ SlP W (W).heap.size 3 SpE (.slice D2x Y.length k2x) Y ∧ (W).cell? ⟨w2.heap.size, 0, none⟩ = some (.slice A2x X.es.length n2x) ∧ (W).cell? ⟨w2.heap.size, 1, none⟩ = some (.slice B2x X.ks.length m2x) ∧ (W).cell? ⟨w2.heap.size, 2, none⟩ = some (.slice D2x Y.length k2x) ∧ (W).cell? ⟨bq, oq, none⟩ = some (.string q) ∧ (W).cell? ⟨bk, ok, none⟩ = some (.string k) ∧ Below w.heap.size w W ∧ w.heap.size + 3 ≤ (W).heap.size ∧ t.rd W (W).heap.size (.slice A0 t.es.length n0) (.slice B0 t.ks.length m0) ∧ SlP W (W).heap.size 1 StE (.slice (some ⟨bq, oq, none⟩) o.path.length n1) o.path ∧ SlP W (W).heap.size 1 StE (.slice (some ⟨bk, ok, none⟩) p.length n3) p ∧ (W).cell? ⟨w.heap.size, 0, none⟩ = some (.slice A0 t.es.length n0) ∧ (W).cell? ⟨w.heap.size, 1, none⟩ = some (.slice B0 t.ks.length m0) ∧ (W).cell? ⟨(w.heap.size + 1), 0, none⟩ = some (.slice (some ⟨bq, oq, none⟩) o.path.length n1) ∧ (W).cell? ⟨(w.heap.size + 1), 1, none⟩ = some (.int .i64 o.act) ∧ (W).cell? ⟨(w.heap.size + 1), 2, none⟩ = some (.string o.s) ∧ (W).cell? ⟨(w.heap.size + 1), 3, none⟩ = some (.int .i64 o.n) ∧ (W).cell? ⟨(w.heap.size + 2), 0, none⟩ = some (.int .i64 d.dc) ∧ (W).cell? ⟨(w.heap.size + 2), 1, none⟩ = some (.int .i64 d.n))) := fun W hW => by
                    have g0 := (hW.block w2.heap.size (by omega)).trans (heap_new rfl)
                    have hB : Below w2.heap.size w2 W := ((Below.refl _ w2).alloc (Nat.le_refl _) _).trans (hW.mono (by omega))
                    exact ⟨by have := hW.size; simpa using this, rda_rd hrd2 (fun b hb => hb.2) hB, hsl2.slp (fun b hb => hb.2) hB, cell_cells (i := 0) g0, cell_cells (i := 1) g0, cell_cells (i := 2) g0, HX1.out W (hbk2.out.trans (hB.mono (by omega)))⟩
                  clear hrd2 hsl2
                  go_wp2_with fail
                  clear ch_q ch_k hB hs rt0 rl1 rl3 c00 c01 c10 c11 c12 c13 c20 c21
                  obtain ⟨hs_x, rt_x, rc_x, c0_x, c1_x, c2_x, ch_q, ch_k, hB, hs, rt0, rl1, rl3, c00, c01, c10, c11, c12, c13, c20, c21⟩ := HX2.out _ (Below.refl _ _)
                  go_upto_region 6 with (fail)
                  have HK2 : Hid (∀ W, Below (w2.heap.size + 1) (w2.alloc (.cells #[.slice A2x X.es.length n2x, .slice B2x X.ks.length m2x, .slice D2x Y.length k2x] 31)) W → ((W).cell? ⟨w2.heap.size, 0, none⟩ = some (.slice A2x X.es.length n2x) ∧ (W).cell? ⟨w2.heap.size, 1, none⟩ = some (.slice B2x X.ks.length m2x) ∧ (W).cell? ⟨w2.heap.size, 2, none⟩ = some (.slice D2x Y.length k2x) ∧ (W).cell? ⟨w.heap.size, 0, none⟩ = some (.slice A0 t.es.length n0) ∧ (W).cell? ⟨w.heap.size, 1, none⟩ = some (.slice B0 t.ks.length m0))) := fun W hW => by
                    obtain ⟨_, _, _, z_c0_x, z_c1_x, z_c2_x, _, _, _, _, _, _, _, z_c00, z_c01, _, _, _, _, _, _⟩ := HX2.out W hW
                    exact ⟨z_c0_x, z_c1_x, z_c2_x, z_c00, z_c01⟩
                  have Hrt_x_2 : Hid (∀ W, Below (w2.heap.size + 1) (w2.alloc (.cells #[.slice A2x X.es.length n2x, .slice B2x X.ks.length m2x, .slice D2x Y.length k2x] 31)) W → X.rd W (W).heap.size (.slice A2x X.es.length n2x) (.slice B2x X.ks.length m2x)) := fun W hW => by
                    obtain ⟨_, z, _, _, _, _, _, _, _, _, _, _, _, _, _, _, _, _, _, _, _⟩ := HX2.out W hW
                    exact z
                  have Hrc_x_2 : Hid (∀ W, Below (w2.heap.size + 1) (w2.alloc (.cells #[.slice A2x X.es.length n2x, .slice B2x X.ks.length m2x, .slice D2x Y.length k2x] 31)) W → SlP W (W).heap.size 3 SpE (.slice D2x Y.length k2x) Y) := fun W hW => by
                    obtain ⟨_, _, z, _, _, _, _, _, _, _, _, _, _, _, _, _, _, _, _, _, _⟩ := HX2.out W hW
                    exact z
                  have Hrt0_2 : Hid (∀ W, Below (w2.heap.size + 1) (w2.alloc (.cells #[.slice A2x X.es.length n2x, .slice B2x X.ks.length m2x, .slice D2x Y.length k2x] 31)) W → t.rd W (W).heap.size (.slice A0 t.es.length n0) (.slice B0 t.ks.length m0)) := fun W hW => by
                    obtain ⟨_, _, _, _, _, _, _, _, _, _, z, _, _, _, _, _, _, _, _, _, _⟩ := HX2.out W hW
                    exact z
                  have Hrl1_2 : Hid (∀ W, Below (w2.heap.size + 1) (w2.alloc (.cells #[.slice A2x X.es.length n2x, .slice B2x X.ks.length m2x, .slice D2x Y.length k2x] 31)) W → SlP W (W).heap.size 1 StE (.slice (some ⟨bq, oq, none⟩) o.path.length n1) o.path) := fun W hW => by
                    obtain ⟨_, _, _, _, _, _, _, _, _, _, _, z, _, _, _, _, _, _, _, _, _⟩ := HX2.out W hW
                    exact z
                  have Hrl3_2 : Hid (∀ W, Below (w2.heap.size + 1) (w2.alloc (.cells #[.slice A2x X.es.length n2x, .slice B2x X.ks.length m2x, .slice D2x Y.length k2x] 31)) W → SlP W (W).heap.size 1 StE (.slice (some ⟨bk, ok, none⟩) p.length n3) p) := fun W hW => by
                    obtain ⟨_, _, _, _, _, _, _, _, _, _, _, _, z, _, _, _, _, _, _, _, _⟩ := HX2.out W hW
                    exact z
                  have HS_2 : Hid (∀ W, Below (w2.heap.size + 1) (w2.alloc (.cells #[.slice A2x X.es.length n2x, .slice B2x X.ks.length m2x, .slice D2x Y.length k2x] 31)) W → (w2.heap.size + 1) ≤ W.heap.size) := fun W hW => by
                    have := hW.size
                    first | omega | (simp at this; omega)
                  have hsb2 := HS_2.out _ (Below.refl _ _)
                  clear rt_x rc_x ch_q ch_k hB rt0 rl1 rl3 c10 c11 c12 c13 c20 c21
                  go_cut [11, 12] (fun s11 s12 wx => s12 = .int .i64 0 ∧ Box3 (w2.heap.size + 1) (w2.alloc (.cells #[.slice A2x X.es.length n2x, .slice B2x X.ks.length m2x, .slice D2x Y.length k2x] 31)) 31 Z ZC s11 wx)
                  case first =>
                    go_region_held3 (fun W => (W).cell? ⟨w2.heap.size, 0, none⟩ = some (.slice A2x X.es.length n2x) ∧ (W).cell? ⟨w2.heap.size, 1, none⟩ = some (.slice B2x X.ks.length m2x) ∧ (W).cell? ⟨w2.heap.size, 2, none⟩ = some (.slice D2x Y.length k2x) ∧ (W).cell? ⟨w.heap.size, 0, none⟩ = some (.slice A0 t.es.length n0) ∧ (W).cell? ⟨w.heap.size, 1, none⟩ = some (.slice B0 t.ks.length m0))
                      (first | go_keep | exact HK2.out _ hbr4.out | exact HK2.out _ (hbr4.out.trans (by go_grown)) | exact HK2.out _ hbr3.out | exact HK2.out _ (hbr3.out.trans (by go_grown)) | exact HK2.out _ (((hbr4.out.setCell (by first | (simp; done) | (simp; omega)) _).setCell (by first | (simp; done) | (simp; omega)) _).setCell (by first | (simp; done) | (simp; omega)) _) | exact HK2.out _ (by go_grown) | fail)
                      (first
                        | (go_at_call 45; go_loud ((refine (cJoin_any (knC t) Y t X _ _ _ _ _ _ _ (Hrt0_2.out _ (hbr3.out.trans (by go_grown))) (Hrt_x_2.out _ (hbr3.out.trans (by go_grown))) (HS3.out.slp (fun b hb => hb.2) (by go_grown)) (Hrc_x_2.out _ (hbr3.out.trans (by go_grown))) (by omega) (by omega) (by omega) (by omega)).mono ?_); rw [HZ.out, HZC.out, HZE.out]; rintro e w4 ⟨xe4, xk4, xc4, rfl, hrd4, hsl4, hb⟩; have hbr4 : Hid (Below (w2.heap.size + 1) (w2.alloc (.cells #[.slice A2x X.es.length n2x, .slice B2x X.ks.length m2x, .slice D2x Y.length k2x] 31)) w4) := hid (Below.trans (hbr3.out.trans (by go_grown)) (hb.mono (by first | omega | (simp; done) | (simp; omega)))); have hsr4 := HS_2.out _ hbr4.out; have hch3_4 : Hid (Below w3.heap.size w3 w4) := hid (Below.trans (by go_grown) (hb.mono (by first | omega | (simp; done) | (simp; omega)))); obtain ⟨Ar4, nr4, Br4, mr4, hv1, hv2⟩ := rda_shape hrd4; subst hv1; subst hv2; obtain ⟨Dr4, kr4, hv3⟩ := hsl4.shape; subst hv3; have HR4 := hid hrd4; have HL4 := hid hsl4; clear hrd4 hsl4; (first | (have HG4 : Hid (w4.heap[w3.heap.size]? = some (.cells #[.slice none 0 0, .slice none 0 0, .slice none 0 0] 31 (0, 0))) := hid (z_new hb); have k0 : w4.cell? ⟨w3.heap.size, 0, none⟩ = some (.slice none 0 0) := cell_cells (i := 0) HG4.out; have k1 : w4.cell? ⟨w3.heap.size, 1, none⟩ = some (.slice none 0 0) := cell_cells (i := 1) HG4.out; have k2 : w4.cell? ⟨w3.heap.size, 2, none⟩ = some (.slice none 0 0) := cell_cells (i := 2) HG4.out; have z0 := cells_frz (i := 0) HG4.out; have z1 := cells_frz (i := 1) HG4.out; have z2 := cells_frz (i := 2) HG4.out; have hna0 : w.heap.size ≠ w3.heap.size := (by omega); have hnb0 : w3.heap.size ≠ w.heap.size := (by omega); have hna1 : (w.heap.size + 1) ≠ w3.heap.size := (by omega); have hnb1 : w3.heap.size ≠ (w.heap.size + 1) := (by omega); have hna2 : (w.heap.size + 2) ≠ w3.heap.size := (by omega); have hnb2 : w3.heap.size ≠ (w.heap.size + 2) := (by omega); have hna3 : w2.heap.size ≠ w3.heap.size := (by omega); have hnb3 : w3.heap.size ≠ w2.heap.size := (by omega)) | (have HG4 : Hid (w4.heap[(w2.heap.size + 1)]? = some (.cells #[.slice none 0 0, .slice none 0 0, .slice none 0 0] 31 (0, 0))) := hid ((hb.block _ (lt_of_block HGA.out)).trans HGA.out); have k0 : w4.cell? ⟨(w2.heap.size + 1), 0, none⟩ = some (.slice none 0 0) := cell_cells (i := 0) HG4.out; have k1 : w4.cell? ⟨(w2.heap.size + 1), 1, none⟩ = some (.slice none 0 0) := cell_cells (i := 1) HG4.out; have k2 : w4.cell? ⟨(w2.heap.size + 1), 2, none⟩ = some (.slice none 0 0) := cell_cells (i := 2) HG4.out; have z0 := cells_frz (i := 0) HG4.out; have z1 := cells_frz (i := 1) HG4.out; have z2 := cells_frz (i := 2) HG4.out; have hna0 : w.heap.size ≠ (w2.heap.size + 1) := (by omega); have hnb0 : (w2.heap.size + 1) ≠ w.heap.size := (by omega); have hna1 : (w.heap.size + 1) ≠ (w2.heap.size + 1) := (by omega); have hnb1 : (w2.heap.size + 1) ≠ (w.heap.size + 1) := (by omega); have hnc1 : w.heap.size ≠ w2.heap.size := (by omega); have hnd1 : w2.heap.size ≠ w.heap.size := (by omega); have hna2 : (w.heap.size + 2) ≠ (w2.heap.size + 1) := (by omega); have hnb2 : (w2.heap.size + 1) ≠ (w.heap.size + 2) := (by omega); have hna3 : w2.heap.size ≠ (w2.heap.size + 1) := (by omega); have hnb3 : (w2.heap.size + 1) ≠ w2.heap.size := (by omega)) | skip); clear hb))
                        | (go_at_call 41; go_loud ((refine (r10known_any t _ _ _ (Hrt0_2.out _ (by go_grown)) (by omega) HN.out).mono ?_); rintro e w3 ⟨vc3, rfl, hsl3, hb⟩; have hbr3 : Hid (Below (w2.heap.size + 1) (w2.alloc (.cells #[.slice A2x X.es.length n2x, .slice B2x X.ks.length m2x, .slice D2x Y.length k2x] 31)) w3) := hid (Below.trans (by go_grown) (hb.mono (by first | omega | (simp; done) | (simp; omega)))); have hsr3 := HS_2.out _ hbr3.out; obtain ⟨Dk3, kk3, hv3⟩ := hsl3.shape; subst hv3; have HS3 := hid hsl3; clear hsl3; (first | (have HGA : Hid (w3.heap[(w2.heap.size + 1)]? = some (.cells #[.slice none 0 0, .slice none 0 0, .slice none 0 0] 31 (0, 0))) := hid (z_new2D hb)) | (have HGA : Hid (w3.heap[(w2.heap.size + 1)]? = some (.cells #[.slice none 0 0, .slice none 0 0, .slice none 0 0] 31 (0, 0))) := hid (z_newD hb)) | (have HGA : Hid (w3.heap[(w2.heap.size + 1)]? = some (.cells #[.slice none 0 0, .slice none 0 0, .slice none 0 0] 31 (0, 0))) := hid (z_new2 hb)) | (have HGA : Hid (w3.heap[(w2.heap.size + 1)]? = some (.cells #[.slice none 0 0, .slice none 0 0, .slice none 0 0] 31 (0, 0))) := hid (z_new hb)) | skip); clear hb)))
                    all_goals
                      go_wp2_with fail
                      go_meet
                      case rel => exact ⟨rfl, (by first | exact box_new hbr4.out (HS_2.out _ hbr4.out) HR4.out HL4.out | exact box_set HG4.out hbr4.out (by omega) (by first | (simp; done) | (simp; omega) | exact lt_of_block HGA.out | (have := lt_of_block HGA.out; simp; omega)) HR4.out HL4.out)⟩
                  case rest =>
                    obtain ⟨rfl, g5, xe5, xk5, xc5, rfl, hG5, hrd5, hsl5, hbz⟩ := hcut
                    obtain ⟨A5x, n5x, B5x, m5x, rfl, rfl⟩ := rd_shape hrd5
                    obtain ⟨D5x, k5x, rfl, _⟩ := id hsl5
                    have hlg5 := lt_of_block hG5
                    obtain ⟨wq5, hwq5⟩ : ∃ z : World, z = wc := ⟨wc, rfl⟩
                    subst hwq5
                    have HSZ5 : Hid ((w2.heap.size + 1) ≤ wq5.heap.size) := HS_2.out _ hbz
                    have HX3 : Hid (∀ W, Below wq5.heap.size wq5 W → (wq5.heap.size ≤ (W).heap.size ∧ Z.rd W (W).heap.size (.slice A5x Z.es.length n5x) (.slice B5x Z.ks.length m5x) ∧ SlP W (W).heap.size 3 SpE (.slice D5x ZC.length k5x) ZC ∧ (W).cell? ⟨g5, 0, none⟩ = some (.slice A5x Z.es.length n5x) ∧ (W).cell? ⟨g5, 1, none⟩ = some (.slice B5x Z.ks.length m5x) ∧ (W).cell? ⟨g5, 2, none⟩ = some (.slice D5x ZC.length k5x) ∧ w2.heap.size + 1 ≤ (W).heap.size ∧ X.rd W (W).heap.size (.slice A2x X.es.length n2x) (.slice B2x X.ks.length m2x) ∧ SlP W (W).heap.size 3 SpE (.slice D2x Y.length k2x) Y ∧ (W).cell? ⟨w2.heap.size, 0, none⟩ = some (.slice A2x X.es.length n2x) ∧ (W).cell? ⟨w2.heap.size, 1, none⟩ = some (.slice B2x X.ks.length m2x) ∧ (W).cell? ⟨w2.heap.size, 2, none⟩ = some (.slice D2x Y.length k2x) ∧ (W).cell? ⟨bq, oq, none⟩ = some (.string q) ∧ (W).cell? ⟨bk, ok, none⟩ = some (.string k) ∧ Below w.heap.size w W ∧ w.heap.size + 3 ≤ (W).heap.size ∧ t.rd W (W).heap.size (.slice A0 t.es.length n0) (.slice B0 t.ks.length m0) ∧ SlP W (W).heap.size 1 StE (.slice (some ⟨bq, oq, none⟩) o.path.length n1) o.path ∧ SlP W (W).heap.size 1 StE (.slice (some ⟨bk, ok, none⟩) p.length n3) p ∧ (W).cell? ⟨w.heap.size, 0, none⟩ = some (.slice A0 t.es.length n0) ∧ (W).cell? ⟨w.heap.size, 1, none⟩ = some (.slice B0 t.ks.length m0) ∧ (W).cell? ⟨(w.heap.size + 1), 0, none⟩ = some (.slice (some ⟨bq, oq, none⟩) o.path.length n1) ∧ (W).cell? ⟨(w.heap.size + 1), 1, none⟩ = some (.int .i64 o.act) ∧ (W).cell? ⟨(w.heap.size + 1), 2, none⟩ = some (.string o.s) ∧ (W).cell? ⟨(w.heap.size + 1), 3, none⟩ = some (.int .i64 o.n) ∧ (W).cell? ⟨(w.heap.size + 2), 0, none⟩ = some (.int .i64 d.dc) ∧ (W).cell? ⟨(w.heap.size + 2), 1, none⟩ = some (.int .i64 d.n))) := fun W hW => by
                      have g0 := (hW.block g5 hlg5).trans hG5
                      exact ⟨hW.size, rd_below hW hW.size _ _ _ hrd5, hsl5.imp hW hW.size (fun _ _ _ h => h), cell_cells (i := 0) g0, cell_cells (i := 1) g0, cell_cells (i := 2) g0, HX2.out W (hbz.trans (hW.mono HSZ5.out))⟩
                    clear hrd5 hsl5 hG5
                    clear hs_x c0_x c1_x c2_x hs c00 c01
                    obtain ⟨hs_j, rt_j, rc_j, c0_j, c1_j, c2_j, hs_x, rt_x, rc_x, c0_x, c1_x, c2_x, ch_q, ch_k, hB, hs, rt0, rl1, rl3, c00, c01, c10, c11, c12, c13, c20, c21⟩ := HX3.out _ (Below.refl _ _)
                    go_wp2_with fail
                    refine (opRead_any t p _ _ _ _ rt0 rl3 (by omega)).mono ?_
                    rw [HV1.out, HI1.out]
                    rintro e w6 ⟨vl6, rfl, hsl6, hb⟩
                    obtain ⟨D6x, k6x, rfl⟩ := hsl6.shape
                    have hbk6 : Hid (Below wq5.heap.size wq5 w6) := hid (hb.mono (by first | omega | (simp; done) | (simp; omega)))
                    clear hb
                    clear hs_j rt_j rc_j c0_j c1_j c2_j hs_x rt_x rc_x c0_x c1_x c2_x ch_q ch_k hB hs rt0 rl1 rl3 c00 c01 c10 c11 c12 c13 c20 c21
                    obtain ⟨hs_j, rt_j, rc_j, c0_j, c1_j, c2_j, hs_x, rt_x, rc_x, c0_x, c1_x, c2_x, ch_q, ch_k, hB, hs, rt0, rl1, rl3, c00, c01, c10, c11, c12, c13, c20, c21⟩ := HX3.out _ hbk6.out
                    have hlt692 : w.heap.size < w6.heap.size := by omega
                    have hne692 : w.heap.size ≠ w6.heap.size := by omega
                    have hnr692 : w6.heap.size ≠ w.heap.size := by omega
                    have hlt6153 : (w.heap.size + 1) < w6.heap.size := by omega
                    have hne6153 : (w.heap.size + 1) ≠ w6.heap.size := by omega
                    have hnr6153 : w6.heap.size ≠ (w.heap.size + 1) := by omega
                    have hlt6472 : (w.heap.size + 2) < w6.heap.size := by omega
                    have hne6472 : (w.heap.size + 2) ≠ w6.heap.size := by omega
                    have hnr6472 : w6.heap.size ≠ (w.heap.size + 2) := by omega
                    have hlt6402 : w2.heap.size < w6.heap.size := by omega
                    have hne6402 : w2.heap.size ≠ w6.heap.size := by omega
                    have hnr6402 : w6.heap.size ≠ w2.heap.size := by omega
                    have hlt6713 : g5 < w6.heap.size := by omega
                    have hne6713 : g5 ≠ w6.heap.size := by omega
                    have hnr6713 : w6.heap.size ≠ g5 := by omega
                    have HX4 : Hid (∀ W, Below (w6.heap.size + 1) (w6.alloc (.cells #[.int .i64 V.kind, .bool V.on, .int .i64 V.n, .slice D6x V.l.length k6x] 86)) W → (w6.heap.size + 1 ≤ (W).heap.size ∧ SlP W (W).heap.size 1 StE (.slice D6x V.l.length k6x) V.l ∧ (W).cell? ⟨w6.heap.size, 0, none⟩ = some (.int .i64 V.kind) ∧ (W).cell? ⟨w6.heap.size, 1, none⟩ = some (.bool V.on) ∧ (W).cell? ⟨w6.heap.size, 2, none⟩ = some (.int .i64 V.n) ∧ (W).cell? ⟨w6.heap.size, 3, none⟩ = some (.slice D6x V.l.length k6x) ∧ wq5.heap.size ≤ (W).heap.size ∧ Z.rd W (W).heap.size (.slice A5x Z.es.length n5x) (.slice B5x Z.ks.length m5x) ∧ SlP W (W).heap.size 3 SpE (.slice D5x ZC.length k5x) ZC ∧ (W).cell? ⟨g5, 0, none⟩ = some (.slice A5x Z.es.length n5x) ∧ (W).cell? ⟨g5, 1, none⟩ = some (.slice B5x Z.ks.length m5x) ∧ (W).cell? ⟨g5, 2, none⟩ = some (.slice D5x ZC.length k5x) ∧ w2.heap.size + 1 ≤ (W).heap.size ∧ X.rd W (W).heap.size (.slice A2x X.es.length n2x) (.slice B2x X.ks.length m2x) ∧ SlP W (W).heap.size 3 SpE (.slice D2x Y.length k2x) Y ∧ (W).cell? ⟨w2.heap.size, 0, none⟩ = some (.slice A2x X.es.length n2x) ∧ (W).cell? ⟨w2.heap.size, 1, none⟩ = some (.slice B2x X.ks.length m2x) ∧ (W).cell? ⟨w2.heap.size, 2, none⟩ = some (.slice D2x Y.length k2x) ∧ (W).cell? ⟨bq, oq, none⟩ = some (.string q) ∧ (W).cell? ⟨bk, ok, none⟩ = some (.string k) ∧ Below w.heap.size w W ∧ w.heap.size + 3 ≤ (W).heap.size ∧ t.rd W (W).heap.size (.slice A0 t.es.length n0) (.slice B0 t.ks.length m0) ∧ SlP W (W).heap.size 1 StE (.slice (some ⟨bq, oq, none⟩) o.path.length n1) o.path ∧ SlP W (W).heap.size 1 StE (.slice (some ⟨bk, ok, none⟩) p.length n3) p ∧ (W).cell? ⟨w.heap.size, 0, none⟩ = some (.slice A0 t.es.length n0) ∧ (W).cell? ⟨w.heap.size, 1, none⟩ = some (.slice B0 t.ks.length m0) ∧ (W).cell? ⟨(w.heap.size + 1), 0, none⟩ = some (.slice (some ⟨bq, oq, none⟩) o.path.length n1) ∧ (W).cell? ⟨(w.heap.size + 1), 1, none⟩ = some (.int .i64 o.act) ∧ (W).cell? ⟨(w.heap.size + 1), 2, none⟩ = some (.string o.s) ∧ (W).cell? ⟨(w.heap.size + 1), 3, none⟩ = some (.int .i64 o.n) ∧ (W).cell? ⟨(w.heap.size + 2), 0, none⟩ = some (.int .i64 d.dc) ∧ (W).cell? ⟨(w.heap.size + 2), 1, none⟩ = some (.int .i64 d.n))) := fun W hW => by
                      have g0 := (hW.block w6.heap.size (by omega)).trans (heap_new rfl)
                      have hB : Below w6.heap.size w6 W := ((Below.refl _ w6).alloc (Nat.le_refl _) _).trans (hW.mono (by omega))
                      exact ⟨by have := hW.size; simpa using this, hsl6.slp (fun b hb => hb.2) hB, cell_cells (i := 0) g0, cell_cells (i := 1) g0, cell_cells (i := 2) g0, cell_cells (i := 3) g0, HX3.out W (hbk6.out.trans (hB.mono (by omega)))⟩
                    clear hsl6
                    go_wp2_with fail
                    clear hs_j rt_j rc_j c0_j c1_j c2_j hs_x rt_x rc_x c0_x c1_x c2_x ch_q ch_k hB hs rt0 rl1 rl3 c00 c01 c10 c11 c12 c13 c20 c21
                    obtain ⟨hs_v, rl_v, c0_v, c1_v, c2_v, c3_v, hs_j, rt_j, rc_j, c0_j, c1_j, c2_j, hs_x, rt_x, rc_x, c0_x, c1_x, c2_x, ch_q, ch_k, hB, hs, rt0, rl1, rl3, c00, c01, c10, c11, c12, c13, c20, c21⟩ := HX4.out _ (Below.refl _ _)
                    refine (opRead_any Z p _ _ _ _ rt_j rl3 (by omega)).mono ?_
                    rw [HV2.out, HI2.out]
                    rintro e w7 ⟨vl7, rfl, hsl7, hb⟩
                    obtain ⟨D7x, k7x, rfl⟩ := hsl7.shape
                    have hbk7 : Hid (Below (w6.heap.size + 1) (w6.alloc (.cells #[.int .i64 V.kind, .bool V.on, .int .i64 V.n, .slice D6x V.l.length k6x] 86)) w7) := hid (hb.mono (by first | omega | (simp; done) | (simp; omega)))
                    clear hb
                    clear hs_v rl_v c0_v c1_v c2_v c3_v hs_j rt_j rc_j c0_j c1_j c2_j hs_x rt_x rc_x c0_x c1_x c2_x ch_q ch_k hB hs rt0 rl1 rl3 c00 c01 c10 c11 c12 c13 c20 c21
                    obtain ⟨hs_v, rl_v, c0_v, c1_v, c2_v, c3_v, hs_j, rt_j, rc_j, c0_j, c1_j, c2_j, hs_x, rt_x, rc_x, c0_x, c1_x, c2_x, ch_q, ch_k, hB, hs, rt0, rl1, rl3, c00, c01, c10, c11, c12, c13, c20, c21⟩ := HX4.out _ hbk7.out
                    have hlt792 : w.heap.size < w7.heap.size := by omega
                    have hne792 : w.heap.size ≠ w7.heap.size := by omega
                    have hnr792 : w7.heap.size ≠ w.heap.size := by omega
                    have hlt7153 : (w.heap.size + 1) < w7.heap.size := by omega
                    have hne7153 : (w.heap.size + 1) ≠ w7.heap.size := by omega
                    have hnr7153 : w7.heap.size ≠ (w.heap.size + 1) := by omega
                    have hlt7472 : (w.heap.size + 2) < w7.heap.size := by omega
                    have hne7472 : (w.heap.size + 2) ≠ w7.heap.size := by omega
                    have hnr7472 : w7.heap.size ≠ (w.heap.size + 2) := by omega
                    have hlt7402 : w2.heap.size < w7.heap.size := by omega
                    have hne7402 : w2.heap.size ≠ w7.heap.size := by omega
                    have hnr7402 : w7.heap.size ≠ w2.heap.size := by omega
                    have hlt7713 : g5 < w7.heap.size := by omega
                    have hne7713 : g5 ≠ w7.heap.size := by omega
                    have hnr7713 : w7.heap.size ≠ g5 := by omega
                    have hlt7800 : w6.heap.size < w7.heap.size := by omega
                    have hne7800 : w6.heap.size ≠ w7.heap.size := by omega
                    have hnr7800 : w7.heap.size ≠ w6.heap.size := by omega
                    have HX5 : Hid (∀ W, Below (w7.heap.size + 1) (w7.alloc (.cells #[.int .i64 V.kind, .bool V.on, .int .i64 V.n, .slice D7x V.l.length k7x] 86)) W → (w7.heap.size + 1 ≤ (W).heap.size ∧ SlP W (W).heap.size 1 StE (.slice D7x V.l.length k7x) V.l ∧ (W).cell? ⟨w7.heap.size, 0, none⟩ = some (.int .i64 V.kind) ∧ (W).cell? ⟨w7.heap.size, 1, none⟩ = some (.bool V.on) ∧ (W).cell? ⟨w7.heap.size, 2, none⟩ = some (.int .i64 V.n) ∧ (W).cell? ⟨w7.heap.size, 3, none⟩ = some (.slice D7x V.l.length k7x) ∧ w6.heap.size + 1 ≤ (W).heap.size ∧ SlP W (W).heap.size 1 StE (.slice D6x V.l.length k6x) V.l ∧ (W).cell? ⟨w6.heap.size, 0, none⟩ = some (.int .i64 V.kind) ∧ (W).cell? ⟨w6.heap.size, 1, none⟩ = some (.bool V.on) ∧ (W).cell? ⟨w6.heap.size, 2, none⟩ = some (.int .i64 V.n) ∧ (W).cell? ⟨w6.heap.size, 3, none⟩ = some (.slice D6x V.l.length k6x) ∧ wq5.heap.size ≤ (W).heap.size ∧ Z.rd W (W).heap.size (.slice A5x Z.es.length n5x) (.slice B5x Z.ks.length m5x) ∧ SlP W (W).heap.size 3 SpE (.slice D5x ZC.length k5x) ZC ∧ (W).cell? ⟨g5, 0, none⟩ = some (.slice A5x Z.es.length n5x) ∧ (W).cell? ⟨g5, 1, none⟩ = some (.slice B5x Z.ks.length m5x) ∧ (W).cell? ⟨g5, 2, none⟩ = some (.slice D5x ZC.length k5x) ∧ w2.heap.size + 1 ≤ (W).heap.size ∧ X.rd W (W).heap.size (.slice A2x X.es.length n2x) (.slice B2x X.ks.length m2x) ∧ SlP W (W).heap.size 3 SpE (.slice D2x Y.length k2x) Y ∧ (W).cell? ⟨w2.heap.size, 0, none⟩ = some (.slice A2x X.es.length n2x) ∧ (W).cell? ⟨w2.heap.size, 1, none⟩ = some (.slice B2x X.ks.length m2x) ∧ (W).cell? ⟨w2.heap.size, 2, none⟩ = some (.slice D2x Y.length k2x) ∧ (W).cell? ⟨bq, oq, none⟩ = some (.string q) ∧ (W).cell? ⟨bk, ok, none⟩ = some (.string k) ∧ Below w.heap.size w W ∧ w.heap.size + 3 ≤ (W).heap.size ∧ t.rd W (W).heap.size (.slice A0 t.es.length n0) (.slice B0 t.ks.length m0) ∧ SlP W (W).heap.size 1 StE (.slice (some ⟨bq, oq, none⟩) o.path.length n1) o.path ∧ SlP W (W).heap.size 1 StE (.slice (some ⟨bk, ok, none⟩) p.length n3) p ∧ (W).cell? ⟨w.heap.size, 0, none⟩ = some (.slice A0 t.es.length n0) ∧ (W).cell? ⟨w.heap.size, 1, none⟩ = some (.slice B0 t.ks.length m0) ∧ (W).cell? ⟨(w.heap.size + 1), 0, none⟩ = some (.slice (some ⟨bq, oq, none⟩) o.path.length n1) ∧ (W).cell? ⟨(w.heap.size + 1), 1, none⟩ = some (.int .i64 o.act) ∧ (W).cell? ⟨(w.heap.size + 1), 2, none⟩ = some (.string o.s) ∧ (W).cell? ⟨(w.heap.size + 1), 3, none⟩ = some (.int .i64 o.n) ∧ (W).cell? ⟨(w.heap.size + 2), 0, none⟩ = some (.int .i64 d.dc) ∧ (W).cell? ⟨(w.heap.size + 2), 1, none⟩ = some (.int .i64 d.n))) := fun W hW => by
                      have g0 := (hW.block w7.heap.size (by omega)).trans (heap_new rfl)
                      have hB : Below w7.heap.size w7 W := ((Below.refl _ w7).alloc (Nat.le_refl _) _).trans (hW.mono (by omega))
                      exact ⟨by have := hW.size; simpa using this, hsl7.slp (fun b hb => hb.2) hB, cell_cells (i := 0) g0, cell_cells (i := 1) g0, cell_cells (i := 2) g0, cell_cells (i := 3) g0, HX4.out W (hbk7.out.trans (hB.mono (by omega)))⟩
                    clear hsl7
                    go_wp2_with fail
                    clear hs_v rl_v c0_v c1_v c2_v c3_v hs_j rt_j rc_j c0_j c1_j c2_j hs_x rt_x rc_x c0_x c1_x c2_x ch_q ch_k hB hs rt0 rl1 rl3 c00 c01 c10 c11 c12 c13 c20 c21
                    obtain ⟨hs_u, rl_u, c0_u, c1_u, c2_u, c3_u, hs_v, rl_v, c0_v, c1_v, c2_v, c3_v, hs_j, rt_j, rc_j, c0_j, c1_j, c2_j, hs_x, rt_x, rc_x, c0_x, c1_x, c2_x, ch_q, ch_k, hB, hs, rt0, rl1, rl3, c00, c01, c10, c11, c12, c13, c20, c21⟩ := HX5.out _ (Below.refl _ _)
                    refine (r15same_any V V _ _ _ rl_v rl_u).mono ?_
                    rw [vwEq_self]
                    rintro e w8 ⟨rfl, hb⟩
                    have hbk8 : Hid (Below (w7.heap.size + 1) (w7.alloc (.cells #[.int .i64 V.kind, .bool V.on, .int .i64 V.n, .slice D7x V.l.length k7x] 86)) w8) := hid (hb.mono (by first | omega | (simp; done) | (simp; omega)))
                    clear hb
                    clear hs_u rl_u c0_u c1_u c2_u c3_u hs_v rl_v c0_v c1_v c2_v c3_v hs_j rt_j rc_j c0_j c1_j c2_j hs_x rt_x rc_x c0_x c1_x c2_x ch_q ch_k hB hs rt0 rl1 rl3 c00 c01 c10 c11 c12 c13 c20 c21
                    obtain ⟨hs_u, rl_u, c0_u, c1_u, c2_u, c3_u, hs_v, rl_v, c0_v, c1_v, c2_v, c3_v, hs_j, rt_j, rc_j, c0_j, c1_j, c2_j, hs_x, rt_x, rc_x, c0_x, c1_x, c2_x, ch_q, ch_k, hB, hs, rt0, rl1, rl3, c00, c01, c10, c11, c12, c13, c20, c21⟩ := HX5.out _ hbk8.out
                    go_wp2_with fail
                    go_ret
                    exact ⟨rfl, hB⟩
                · have hE' : (E == 0) = false := by simpa using hE
                  have hz := app_err (t := t) (o := o) (d := d) (by rw [HEE.out]; exact hE)
                  have HSM2 : Hid ((trEq X (.mk [] []) && decide (Y = [])) = true) := by unfold Hid; rw [← HXE.out, ← HYE.out, hz.1, hz.2, trEq_iff.2 rfl]; simp
                  clear hE hz
                  have hlt292 : w.heap.size < w2.heap.size := by omega
                  have hne292 : w.heap.size ≠ w2.heap.size := by omega
                  have hnr292 : w2.heap.size ≠ w.heap.size := by omega
                  have hlt2153 : (w.heap.size + 1) < w2.heap.size := by omega
                  have hne2153 : (w.heap.size + 1) ≠ w2.heap.size := by omega
                  have hnr2153 : w2.heap.size ≠ (w.heap.size + 1) := by omega
                  have hlt2472 : (w.heap.size + 2) < w2.heap.size := by omega
                  have hne2472 : (w.heap.size + 2) ≠ w2.heap.size := by omega
                  have hnr2472 : w2.heap.size ≠ (w.heap.size + 2) := by omega
                  have HX2 : Hid (∀ W, Below (w2.heap.size + 1) (w2.alloc (.cells #[.slice A2x X.es.length n2x, .slice B2x X.ks.length m2x, .slice D2x Y.length k2x] 31)) W → (w2.heap.size + 1 ≤ (W).heap.size ∧ X.rd W (W).heap.size (.slice A2x X.es.length n2x) (.slice B2x X.ks.length m2x) ∧ SlP W (W).heap.size 3 SpE (.slice D2x Y.length k2x) Y ∧ (W).cell? ⟨w2.heap.size, 0, none⟩ = some (.slice A2x X.es.length n2x) ∧ (W).cell? ⟨w2.heap.size, 1, none⟩ = some (.slice B2x X.ks.length m2x) ∧ (W).cell? ⟨w2.heap.size, 2, none⟩ = some (.slice D2x Y.length k2x) ∧ (W).cell? ⟨bq, oq, none⟩ = some (.string q) ∧ (W).cell? ⟨bk, ok, none⟩ = some (.string k) ∧ Below w.heap.size w W ∧ w.heap.size + 3 ≤ (W).heap.size ∧ t.rd W (W).heap.size (.slice A0 t.es.length n0) (.slice B0 t.ks.length m0) ∧ SlP W (W).heap.size 1 StE (.slice (some ⟨bq, oq, none⟩) o.path.length n1) o.path ∧ SlP W (W).heap.size 1 StE (.slice (some ⟨bk, ok, none⟩) p.length n3) p ∧ (W).cell? ⟨w.heap.size, 0, none⟩ = some (.slice A0 t.es.length n0) ∧ (W).cell? ⟨w.heap.size, 1, none⟩ = some (.slice B0 t.ks.length m0) ∧ (W).cell? ⟨(w.heap.size + 1), 0, none⟩ = some (.slice (some ⟨bq, oq, none⟩) o.path.length n1) ∧ (W).cell? ⟨(w.heap.size + 1), 1, none⟩ = some (.int .i64 o.act) ∧ (W).cell? ⟨(w.heap.size + 1), 2, none⟩ = some (.string o.s) ∧ (W).cell? ⟨(w.heap.size + 1), 3, none⟩ = some (.int .i64 o.n) ∧ (W).cell? ⟨(w.heap.size + 2), 0, none⟩ = some (.int .i64 d.dc) ∧ (W).cell? ⟨(w.heap.size + 2), 1, none⟩ = some (.int .i64 d.n))) := fun W hW => by
                    have g0 := (hW.block w2.heap.size (by omega)).trans (heap_new rfl)
                    have hB : Below w2.heap.size w2 W := ((Below.refl _ w2).alloc (Nat.le_refl _) _).trans (hW.mono (by omega))
                    exact ⟨by have := hW.size; simpa using this, rda_rd hrd2 (fun b hb => hb.2) hB, hsl2.slp (fun b hb => hb.2) hB, cell_cells (i := 0) g0, cell_cells (i := 1) g0, cell_cells (i := 2) g0, HX1.out W (hbk2.out.trans (hB.mono (by omega)))⟩
                  clear hrd2 hsl2
                  go_wp2_with fail
                  clear ch_q ch_k hB hs rt0 rl1 rl3 c00 c01 c10 c11 c12 c13 c20 c21
                  obtain ⟨hs_x, rt_x, rc_x, c0_x, c1_x, c2_x, ch_q, ch_k, hB, hs, rt0, rl1, rl3, c00, c01, c10, c11, c12, c13, c20, c21⟩ := HX2.out _ (Below.refl _ _)
                  refine (r09same_any X (.mk [] []) Y [] _ _ _ _ _ _ _ rt_x rd_empty rc_x SlP.nil).mono ?_
                  rw [HSM2.out]
                  rintro e w3 ⟨rfl, hb⟩
                  have hbk3 : Hid (Below (w2.heap.size + 1) (w2.alloc (.cells #[.slice A2x X.es.length n2x, .slice B2x X.ks.length m2x, .slice D2x Y.length k2x] 31)) w3) := hid (hb.mono (by first | omega | (simp; done) | (simp; omega)))
                  clear hb
                  clear hs_x rt_x rc_x c0_x c1_x c2_x ch_q ch_k hB hs rt0 rl1 rl3 c00 c01 c10 c11 c12 c13 c20 c21
                  obtain ⟨hs_x, rt_x, rc_x, c0_x, c1_x, c2_x, ch_q, ch_k, hB, hs, rt0, rl1, rl3, c00, c01, c10, c11, c12, c13, c20, c21⟩ := HX2.out _ hbk3.out
                  go_wp2_with fail
                  go_ret
                  exact ⟨rfl, hB⟩
          · skip
            have hoi' : (OI == 0) = false := by simpa using hoi
            have hoi2 : (OI != 0) = true := by simpa using hoi
            go_upto_region 1 with (fail)
            obtain ⟨hB, hs, rt0, rl1, rl3, c00, c01, c10, c11, c12, c13, c20, c21⟩ := HX0.out _ (Below.refl _ _)
            have hsz1 : (w.heap.size + 3) ≤ ((((w.alloc (.cells #[.slice A0 t.es.length n0, .slice B0 t.ks.length m0] 27)).alloc (.cells #[.slice A1 o.path.length n1, .int .i64 o.act, .string o.s, .int .i64 o.n] 80)).alloc (.cells #[.int .i64 d.dc, .int .i64 d.n] 54))).heap.size := (by first | omega | (simp; done) | (simp; omega))
            have Hrt0_1 : Hid (∀ W, Below (w.heap.size + 3) (((w.alloc (.cells #[.slice A0 t.es.length n0, .slice B0 t.ks.length m0] 27)).alloc (.cells #[.slice A1 o.path.length n1, .int .i64 o.act, .string o.s, .int .i64 o.n] 80)).alloc (.cells #[.int .i64 d.dc, .int .i64 d.n] 54)) W → t.rd W (W).heap.size (.slice A0 t.es.length n0) (.slice B0 t.ks.length m0)) := fun W hW => by
              obtain ⟨_, _, z, _, _, _, _, _, _, _, _, _, _⟩ := HX0.out W hW
              exact z
            have Hrl1_1 : Hid (∀ W, Below (w.heap.size + 3) (((w.alloc (.cells #[.slice A0 t.es.length n0, .slice B0 t.ks.length m0] 27)).alloc (.cells #[.slice A1 o.path.length n1, .int .i64 o.act, .string o.s, .int .i64 o.n] 80)).alloc (.cells #[.int .i64 d.dc, .int .i64 d.n] 54)) W → SlP W (W).heap.size 1 StE (.slice A1 o.path.length n1) o.path) := fun W hW => by
              obtain ⟨_, _, _, z, _, _, _, _, _, _, _, _, _⟩ := HX0.out W hW
              exact z
            have Hrl3_1 : Hid (∀ W, Below (w.heap.size + 3) (((w.alloc (.cells #[.slice A0 t.es.length n0, .slice B0 t.ks.length m0] 27)).alloc (.cells #[.slice A1 o.path.length n1, .int .i64 o.act, .string o.s, .int .i64 o.n] 80)).alloc (.cells #[.int .i64 d.dc, .int .i64 d.n] 54)) W → SlP W (W).heap.size 1 StE (.slice A3 p.length n3) p) := fun W hW => by
              obtain ⟨_, _, _, _, z, _, _, _, _, _, _, _, _⟩ := HX0.out W hW
              exact z
            have HQ1_0 := hid (fun (wf : World) (hbf : Below ((((w.alloc (.cells #[.slice A0 t.es.length n0, .slice B0 t.ks.length m0] 27)).alloc (.cells #[.slice A1 o.path.length n1, .int .i64 o.act, .string o.s, .int .i64 o.n] 80)).alloc (.cells #[.int .i64 d.dc, .int .i64 d.n] 54))).heap.size (((w.alloc (.cells #[.slice A0 t.es.length n0, .slice B0 t.ks.length m0] 27)).alloc (.cells #[.slice A1 o.path.length n1, .int .i64 o.act, .string o.s, .int .i64 o.n] 80)).alloc (.cells #[.int .i64 d.dc, .int .i64 d.n] 54)) wf) => Calls.boolEq (awake15_any wf) rfl)
            have HQ1_1 := hid (fun (wf : World) (hbf : Below ((((w.alloc (.cells #[.slice A0 t.es.length n0, .slice B0 t.ks.length m0] 27)).alloc (.cells #[.slice A1 o.path.length n1, .int .i64 o.act, .string o.s, .int .i64 o.n] 80)).alloc (.cells #[.int .i64 d.dc, .int .i64 d.n] 54))).heap.size (((w.alloc (.cells #[.slice A0 t.es.length n0, .slice B0 t.ks.length m0] 27)).alloc (.cells #[.slice A1 o.path.length n1, .int .i64 o.act, .string o.s, .int .i64 o.n] 80)).alloc (.cells #[.int .i64 d.dc, .int .i64 d.n] 54)) wf) => Calls.boolEq (small15_any t wf _ _ (Hrt0_1.out _ ((Below.refl _ _).trans (hbf.mono hsz1)))) HSM.out)
            have HQ1_2 := hid (fun (wf : World) (hbf : Below ((((w.alloc (.cells #[.slice A0 t.es.length n0, .slice B0 t.ks.length m0] 27)).alloc (.cells #[.slice A1 o.path.length n1, .int .i64 o.act, .string o.s, .int .i64 o.n] 80)).alloc (.cells #[.int .i64 d.dc, .int .i64 d.n] 54))).heap.size (((w.alloc (.cells #[.slice A0 t.es.length n0, .slice B0 t.ks.length m0] 27)).alloc (.cells #[.slice A1 o.path.length n1, .int .i64 o.act, .string o.s, .int .i64 o.n] 80)).alloc (.cells #[.int .i64 d.dc, .int .i64 d.n] 54)) wf) => Calls.boolEq (r08Right_any t wf _ _ (Hrt0_1.out _ ((Below.refl _ _).trans (hbf.mono hsz1)))) HRT.out)
            have HQ1_3 := hid (fun (wf : World) (hbf : Below ((((w.alloc (.cells #[.slice A0 t.es.length n0, .slice B0 t.ks.length m0] 27)).alloc (.cells #[.slice A1 o.path.length n1, .int .i64 o.act, .string o.s, .int .i64 o.n] 80)).alloc (.cells #[.int .i64 d.dc, .int .i64 d.n] 54))).heap.size (((w.alloc (.cells #[.slice A0 t.es.length n0, .slice B0 t.ks.length m0] 27)).alloc (.cells #[.slice A1 o.path.length n1, .int .i64 o.act, .string o.s, .int .i64 o.n] 80)).alloc (.cells #[.int .i64 d.dc, .int .i64 d.n] 54)) wf) => Calls.boolEq (r08once_any t wf _ _ (Hrt0_1.out _ ((Below.refl _ _).trans (hbf.mono hsz1))) (by omega)) HOC.out)
            have HQ1_4 := hid (fun (wf : World) (hbf : Below ((((w.alloc (.cells #[.slice A0 t.es.length n0, .slice B0 t.ks.length m0] 27)).alloc (.cells #[.slice A1 o.path.length n1, .int .i64 o.act, .string o.s, .int .i64 o.n] 80)).alloc (.cells #[.int .i64 d.dc, .int .i64 d.n] 54))).heap.size (((w.alloc (.cells #[.slice A0 t.es.length n0, .slice B0 t.ks.length m0] 27)).alloc (.cells #[.slice A1 o.path.length n1, .int .i64 o.act, .string o.s, .int .i64 o.n] 80)).alloc (.cells #[.int .i64 d.dc, .int .i64 d.n] 54)) wf) => Calls.intEq (r15op_any o _ wf (Hrl1_1.out _ ((Below.refl _ _).trans (hbf.mono hsz1))) HOK.out) HOI.out)
            have f_c00 := far_cell (B := ((((w.alloc (.cells #[.slice A0 t.es.length n0, .slice B0 t.ks.length m0] 27)).alloc (.cells #[.slice A1 o.path.length n1, .int .i64 o.act, .string o.s, .int .i64 o.n] 80)).alloc (.cells #[.int .i64 d.dc, .int .i64 d.n] 54))).heap.size) c00 (by first | omega | (simp; done) | (simp; omega))
            have f_c01 := far_cell (B := ((((w.alloc (.cells #[.slice A0 t.es.length n0, .slice B0 t.ks.length m0] 27)).alloc (.cells #[.slice A1 o.path.length n1, .int .i64 o.act, .string o.s, .int .i64 o.n] 80)).alloc (.cells #[.int .i64 d.dc, .int .i64 d.n] 54))).heap.size) c01 (by first | omega | (simp; done) | (simp; omega))
            have f_c10 := far_cell (B := ((((w.alloc (.cells #[.slice A0 t.es.length n0, .slice B0 t.ks.length m0] 27)).alloc (.cells #[.slice A1 o.path.length n1, .int .i64 o.act, .string o.s, .int .i64 o.n] 80)).alloc (.cells #[.int .i64 d.dc, .int .i64 d.n] 54))).heap.size) c10 (by first | omega | (simp; done) | (simp; omega))
            have f_c11 := far_cell (B := ((((w.alloc (.cells #[.slice A0 t.es.length n0, .slice B0 t.ks.length m0] 27)).alloc (.cells #[.slice A1 o.path.length n1, .int .i64 o.act, .string o.s, .int .i64 o.n] 80)).alloc (.cells #[.int .i64 d.dc, .int .i64 d.n] 54))).heap.size) c11 (by first | omega | (simp; done) | (simp; omega))
            have f_c12 := far_cell (B := ((((w.alloc (.cells #[.slice A0 t.es.length n0, .slice B0 t.ks.length m0] 27)).alloc (.cells #[.slice A1 o.path.length n1, .int .i64 o.act, .string o.s, .int .i64 o.n] 80)).alloc (.cells #[.int .i64 d.dc, .int .i64 d.n] 54))).heap.size) c12 (by first | omega | (simp; done) | (simp; omega))
            have f_c13 := far_cell (B := ((((w.alloc (.cells #[.slice A0 t.es.length n0, .slice B0 t.ks.length m0] 27)).alloc (.cells #[.slice A1 o.path.length n1, .int .i64 o.act, .string o.s, .int .i64 o.n] 80)).alloc (.cells #[.int .i64 d.dc, .int .i64 d.n] 54))).heap.size) c13 (by first | omega | (simp; done) | (simp; omega))
            clear hB hs rt0 rl1 rl3 c00 c01 c10 c11 c12 c13 c20 c21
            refine wp_region_far ((((w.alloc (.cells #[.slice A0 t.es.length n0, .slice B0 t.ks.length m0] 27)).alloc (.cells #[.slice A1 o.path.length n1, .int .i64 o.act, .string o.s, .int .i64 o.n] 80)).alloc (.cells #[.int .i64 d.dc, .int .i64 d.n] 54))).heap.size (by kernel_rfl) (by kernel_rfl) ?_
            repeat (go_big_quiet_step (first | (go_at_call 73; with_reducible exact Calls.far_all (Nat.le_refl _) HQ1_0.out) | (go_at_call 76; with_reducible exact Calls.far_all (Nat.le_refl _) HQ1_1.out) | (go_at_call 40; with_reducible exact Calls.far_all (Nat.le_refl _) HQ1_2.out) | (go_at_call 65; with_reducible exact Calls.far_all (Nat.le_refl _) HQ1_3.out) | (go_at_call 85; with_reducible exact Calls.far_all (Nat.le_refl _) HQ1_4.out)))
            refine wpQuiet_nil ?_
            intro w1 hb
            clear f_c00 f_c01 f_c10 f_c11 f_c12 f_c13
            have hbk1 : Hid (Below (w.heap.size + 3) (((w.alloc (.cells #[.slice A0 t.es.length n0, .slice B0 t.ks.length m0] 27)).alloc (.cells #[.slice A1 o.path.length n1, .int .i64 o.act, .string o.s, .int .i64 o.n] 80)).alloc (.cells #[.int .i64 d.dc, .int .i64 d.n] 54)) w1) := hid ((Below.refl _ _).trans (hb.mono hsz1))
            clear hb
            obtain ⟨hB, hs, rt0, rl1, rl3, c00, c01, c10, c11, c12, c13, c20, c21⟩ := HX0.out _ hbk1.out
            go_wp2_with fail
            refine (awake15_any _).mono ?_
            rintro e w2 ⟨rfl, hb⟩
            have hbk2 : Hid (Below (w.heap.size + 3) (((w.alloc (.cells #[.slice A0 t.es.length n0, .slice B0 t.ks.length m0] 27)).alloc (.cells #[.slice A1 o.path.length n1, .int .i64 o.act, .string o.s, .int .i64 o.n] 80)).alloc (.cells #[.int .i64 d.dc, .int .i64 d.n] 54)) w2) := hid (hbk1.out.trans (hb.mono (by first | omega | (simp; done) | (simp; omega))))
            clear hb
            clear hB hs rt0 rl1 rl3 c00 c01 c10 c11 c12 c13 c20 c21
            obtain ⟨hB, hs, rt0, rl1, rl3, c00, c01, c10, c11, c12, c13, c20, c21⟩ := HX0.out _ hbk2.out
            go_wp2_with fail
            go_ret
            exact ⟨rfl, hB⟩
end Go.Proofs.YtmphgnjodangcaaGreat
