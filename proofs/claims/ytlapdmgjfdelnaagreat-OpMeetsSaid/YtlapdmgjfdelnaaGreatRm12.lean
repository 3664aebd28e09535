/- What the laws need, the last part. No condition but those that each lemma states. -/
import Derived.OpenShut
import Derived.Test.YtlapdmgjfdelnaaGreatRm11
namespace Go.Proofs.YtlapdmgjfdelnaaGreat
open Go.ChangeShapes Go.WideShapes Go.ChangeAt Go.RowKit
set_option maxRecDepth 100000
theorem Wt.arr {H : Type} {P : Program} {t e : TypeId} {n : Nat} {parts : List (DataW H)} (hu : P.underlying t = some (.array n e)) (h : Wt P t (.agg parts)) : ∀ d ∈ parts, Wt P e d := fun d hd m hm => by
 refine h m ?_
 unfold DataW.weights
 rw [hu]
 exact Wt.all hd m hm
section
variable {H : Type} {enc : TypeId × Value → H} {W : World}
def I3E (n : Int) (cs : List Value) : Prop := cs = [.int .i32 n] ∧ -2147483648 ≤ n ∧ n ≤ 2147483647
end
end Go.Proofs.YtlapdmgjfdelnaaGreat
namespace Go.Proofs.YtlapdmgjfdelnaaGreat
open Go.ChangeShapes Go.WideShapes Go.ChangeAt Go.RowKit
set_option maxRecDepth 100000
theorem cellsOp : Tryz.prog.cellsOf 67 = 4 := by kernel_rfl
theorem cellsStrings : Tryz.prog.cellsOf 30 = 1 := by kernel_rfl
theorem cellsBool : Tryz.prog.cellsOf 4 = 1 := by kernel_rfl
section
variable {H : Type} {enc : TypeId × Value → H} {w : World}
theorem op_open {fuel : Nat} {cs : List Value} {x : DataW H × List MemPlace} (h : DataW.trod enc Tryz.prog w 0 (fun _ => true) true fuel 67 cs = some x) (hw : Wt Tryz.prog 67 x.1) : ∃ o : Opr, OpE w w.heap.size o cs := by
 obtain ⟨xs, n, rfl, rfl, hl, hx, hf⟩ := DataW.trod_struct Tryz.underlying67 h
 rw [cellsOp] at hl
 match cs, hl with
 | [c0, c1, c2, c3], _ =>
  match xs, hx with
  | [y0, y1, y2, y3], _ =>
   have f0 : DataW.trod enc Tryz.prog w 0 (fun _ => true) true n 30 (([c0, c1, c2, c3].drop 0).take (Tryz.prog.cellsOf 30)) = some y0 := hf 0 _ rfl
   rw [cellsStrings] at f0
   have f1 : DataW.trod enc Tryz.prog w 0 (fun _ => true) true n 3 (([c0, c1, c2, c3].drop 1).take (Tryz.prog.cellsOf 3)) = some y1 := hf 1 _ rfl
   rw [cellsOne.2.1] at f1
   have f2 : DataW.trod enc Tryz.prog w 0 (fun _ => true) true n 9 (([c0, c1, c2, c3].drop 2).take (Tryz.prog.cellsOf 9)) = some y2 := hf 2 _ rfl
   rw [cellsOne.1] at f2
   have f3 : DataW.trod enc Tryz.prog w 0 (fun _ => true) true n 2 (([c0, c1, c2, c3].drop 3).take (Tryz.prog.cellsOf 2)) = some y3 := hf 3 _ rfl
   rw [cellsOne.2.2.1] at f3
   obtain ⟨v1, l, e0, hL⟩ := slc_open (E := StE) Tryz.underlying30 cellsOne.1 (by decide) bytesString (by decide) (show DataW.trod enc Tryz.prog w 0 (fun _ => true) true n 30 [c0] = some y0 from f0) (Wt.field Tryz.underlying67 hw (i := 0) rfl rfl)
    fun _ _ _ _ hy hwy => str_open hy hwy
   obtain ⟨a, e1, _, w1⟩ := DataW.trod_int Tryz.underlying3 (show DataW.trod enc Tryz.prog w 0 (fun _ => true) true n 3 [c1] = some y1 from f1)
   obtain ⟨s, e2, hs⟩ := str_open (show DataW.trod enc Tryz.prog w 0 (fun _ => true) true n 9 [c2] = some y2 from f2) (Wt.field Tryz.underlying67 hw (i := 2) rfl rfl)
   obtain ⟨b, e3, _, w3⟩ := DataW.trod_int Tryz.underlying2 (show DataW.trod enc Tryz.prog w 0 (fun _ => true) true n 2 [c3] = some y3 from f3)
   simp at e0 e1 e2 e3
   subst e0; subst e1; subst e2; subst e3
   exact ⟨⟨l, a, s, b⟩, _, rfl, hL, wf_i64 w1, wf_i64 w3, hs⟩
end
section
variable {H : Type} {enc : TypeId × Value → H} {W : World} {base : Nat} {v : Value} {d : DataW H} {p : List MemPlace}
end
end Go.Proofs.YtlapdmgjfdelnaaGreat
namespace Go.Proofs.YtlapdmgjfdelnaaGreat
open Go.ChangeShapes Go.WideShapes Go.ChangeAt Go.RowKit
set_option maxRecDepth 100000
structure ActP where
 who : Int
 fr : Int
 hears : Bool
 o : Opr
def ActE (w : World) (B : Nat) (x : ActP) (cs : List Value) : Prop :=
 ∃ vp, cs = [.int .u8 x.who, .int .u8 x.fr, .bool x.hears, vp, .int .i64 x.o.act, .string x.o.s, .int .i64 x.o.n] ∧ SlP w B 1 StE vp x.o.path ∧ x.o.Ok ∧ 0 ≤ x.who ∧ x.who ≤ 255 ∧ 0 ≤ x.fr ∧ x.fr ≤ 255
theorem okActs : Tryz.prog.readableRec 57 = true ∧ 57 < Tryz.prog.types.size := ⟨by kernel_rfl, of_decide_eq_true (by kernel_rfl)⟩
theorem cellsAct : Tryz.prog.cellsOf 69 = 7 := by kernel_rfl
theorem bytesAct : Tryz.prog.bytesOf 69 = 64 := by kernel_rfl
theorem cellsU8 : Tryz.prog.cellsOf 5 = 1 := by kernel_rfl
section
variable {H : Type} {enc : TypeId × Value → H} {w : World}
theorem act_open {fuel : Nat} {cs : List Value} {x : DataW H × List MemPlace} (h : DataW.trod enc Tryz.prog w 0 (fun _ => true) true fuel 69 cs = some x) (hw : Wt Tryz.prog 69 x.1) : ∃ o : ActP, ActE w w.heap.size o cs := by
 obtain ⟨xs, n, rfl, rfl, hl, hx, hf⟩ := DataW.trod_struct Tryz.underlying69 h
 rw [cellsAct] at hl
 match cs, hl with
 | [c0, c1, c2, c3, c4, c5, c6], _ =>
  match xs, hx with
  | [y0, y1, y2, y3], _ =>
   have f0 : DataW.trod enc Tryz.prog w 0 (fun _ => true) true n 5 (([c0, c1, c2, c3, c4, c5, c6].drop 0).take (Tryz.prog.cellsOf 5)) = some y0 := hf 0 _ rfl
   rw [cellsU8] at f0
   have f1 : DataW.trod enc Tryz.prog w 0 (fun _ => true) true n 5 (([c0, c1, c2, c3, c4, c5, c6].drop 1).take (Tryz.prog.cellsOf 5)) = some y1 := hf 1 _ rfl
   rw [cellsU8] at f1
   have f2 : DataW.trod enc Tryz.prog w 0 (fun _ => true) true n 4 (([c0, c1, c2, c3, c4, c5, c6].drop 2).take (Tryz.prog.cellsOf 4)) = some y2 := hf 2 _ rfl
   rw [cellsBool] at f2
   have f3 : DataW.trod enc Tryz.prog w 0 (fun _ => true) true n 67 (([c0, c1, c2, c3, c4, c5, c6].drop 3).take (Tryz.prog.cellsOf 67)) = some y3 := hf 3 _ rfl
   rw [cellsOp] at f3
   obtain ⟨a, e0, _, w0⟩ := DataW.trod_int Tryz.underlying5 (show DataW.trod enc Tryz.prog w 0 (fun _ => true) true n 5 [c0] = some y0 from f0)
   obtain ⟨b, e1, _, w1⟩ := DataW.trod_int Tryz.underlying5 (show DataW.trod enc Tryz.prog w 0 (fun _ => true) true n 5 [c1] = some y1 from f1)
   obtain ⟨c, e2, _⟩ := DataW.trod_bool Tryz.underlying4 (show DataW.trod enc Tryz.prog w 0 (fun _ => true) true n 4 [c2] = some y2 from f2)
   obtain ⟨o, vp, e3, ho, hk⟩ := op_open (show DataW.trod enc Tryz.prog w 0 (fun _ => true) true n 67 [c3, c4, c5, c6] = some y3 from f3) (Wt.field Tryz.underlying69 hw (i := 3) rfl rfl)
   simp at e0 e1 e2 e3
   obtain ⟨rfl, rfl, rfl, rfl⟩ := e3
   subst e0; subst e1; subst e2
   exact ⟨⟨a, b, c, o⟩, _, rfl, ho, hk, (bounds_u8 w0).1, (bounds_u8 w0).2, (bounds_u8 w1).1, (bounds_u8 w1).2⟩
end
section
variable {H : Type} {enc : TypeId × Value → H} {W : World} {base : Nat} {v : Value} {d : DataW H} {p : List MemPlace}
theorem acts_arg (hv : Value.okWide Tryz.prog W .any base 57 v) (h : DataW.Trod enc Tryz.prog W 0 (fun _ => true) true 57 v d p) (hw : Wt Tryz.prog 57 d) :
  ∃ l : List ActP, SlP W W.heap.size 7 (ActE W W.heap.size) v l := by
 obtain ⟨a, len, cap, rfl⟩ := okWide_slice Tryz.underlying57 hv
 obtain ⟨fuel, hf⟩ := h
 obtain ⟨v', l, e, hl⟩ := slc_open (E := ActE W W.heap.size) Tryz.underlying57 cellsAct (by decide) bytesAct (by decide) hf hw fun _ _ _ _ hy hwy => act_open hy hwy
 simp [Value.cells] at e
 subst e
 exact ⟨l, hl⟩
end
end Go.Proofs.YtlapdmgjfdelnaaGreat
namespace Go.Proofs.YtlapdmgjfdelnaaGreat
open Go.RowKit
set_option maxRecDepth 100000
def whoI (x : Int) : Nat := (x % 3).toNat
structure SS where
 l : List Ev
 n : Nat → Int
 K : Nat → Kn
def SS0 : SS := ⟨[], fun _ => 0, fun _ => kn0⟩
def actS (s : SS) (a : ActP) : SS :=
 if a.hears then ⟨s.l, s.n, setK s.K (whoI a.who) (jn (s.K (whoI a.who)) (s.K (whoI a.fr)))⟩
 else if appI (s.K (whoI a.who)).1 a.o ⟨(whoI a.who : Int), s.n (whoI a.who) + 1⟩ = 0 then
  ⟨s.l ++ [⟨⟨(whoI a.who : Int), s.n (whoI a.who) + 1⟩, a.o, (s.K (whoI a.who)).2⟩], setK s.n (whoI a.who) (s.n (whoI a.who) + 1), setK s.K (whoI a.who) (jn (s.K (whoI a.who)) (appT (s.K (whoI a.who)).1 a.o ⟨(whoI a.who : Int), s.n (whoI a.who) + 1⟩, appC (s.K (whoI a.who)).1 a.o ⟨(whoI a.who : Int), s.n (whoI a.who) + 1⟩))⟩
 else s
theorem who_lt (x : Int) : whoI x < 3 := by unfold whoI; omega
theorem actS_inv {s : SS} {a : ActP} (h : SInv s.l s.n s.K) : SInv (actS s a).l (actS s a).n (actS s a).K := by
 unfold actS
 split
 ·exact h.hear (who_lt _) (who_lt _)
 ·split
  ·rename_i ha
   exact h.make (who_lt _) ha
  ·exact h
theorem actS_len (s : SS) (a : ActP) : (actS s a).l.length ≤ s.l.length + 1 := by
 unfold actS
 split
 ·exact Nat.le_succ _
 ·split <;> simp
structure StepR (w : World) (g : Nat) (va : Value) (s' : SS) (e : Ending) (w' : World) : Prop where
 ret : e = .returned (.bool true)
 keep : ∀ b, okS w g va b → w'.heap[b]? = w.heap[b]?
 below : Below g w w'
 st : ∃ v' va', StB w' g v' s'.n va' s'.l s'.K ∧ (va'.ownBlock = va.ownBlock ∨ ∃ b, va'.ownBlock = some b ∧ w.heap.size ≤ b)
set_option maxHeartbeats 8000000 in
theorem step_hear {s : SS} {g : Nat} {v : Nat → V3} {va : Value} (a : ActP) (vp : Value) (w : World) (h : StB w g v s.n va s.l s.K) (hi : SInv s.l s.n s.K) (hl : s.l.length ≤ 30) (hh : a.hears = true) (hp : SlP w w.heap.size 1 StE vp a.o.path) (hw : 0 ≤ a.who ∧ a.who ≤ 255 ∧ 0 ≤ a.fr ∧ a.fr ≤ 255) :
  Calls Tryz.prog 38 #[.pointer (some ⟨g, 0, none⟩), .agg #[.int .u8 a.who, .int .u8 a.fr, .bool a.hears, vp, .int .i64 a.o.act, .string a.o.s, .int .i64 a.o.n]] w (StepR w g va (actS s a)) := by
 obtain ⟨L, n, K⟩ := s
 obtain ⟨A5, c5, rfl, _⟩ := hp
 obtain ⟨who, fr, hears, ⟨path, act, s, nn⟩⟩ := a
 simp only at h hi hl hh hw ⊢
 subst hh
 obtain ⟨i, hwi⟩ : ∃ i, whoI who = i := ⟨_, rfl⟩
 obtain ⟨j, hwj⟩ : ∃ j, whoI fr = j := ⟨_, rfl⟩
 have hi3 : i < 3 := by rw [← hwi]; exact who_lt _
 have hj3 : j < 3 := by rw [← hwj]; exact who_lt _
 have hmi : who % 3 = (i : Int) := by rw [← hwi]; unfold whoI; omega
 have hmj : fr % 3 = (j : Int) := by rw [← hwj]; unfold whoI; omega
 have HA : Hid (actS ⟨L, n, K⟩ ⟨who, fr, true, ⟨path, act, s, nn⟩⟩ = ⟨L, n, setK K i (jn (K i) (K j))⟩) := by unfold Hid actS; simp only [if_true, hwi, hwj]
 have hki := hi.kw i hi3
 have hkj := hi.kw j hj3
 obtain ⟨zi1, zi2⟩ := hki.size
 obtain ⟨zj1, zj2⟩ := hkj.size
 have HJ := hid (jn_ok hki.ok hkj.ok)
 have hgl := h.lt
 have HST := hid h
 have hii : (i : Int) < 3 := by omega
 have hjj : (j : Int) < 3 := by omega
 have hmi2 : who.tmod 3 = (i : Int) := by rw [Int.tmod_eq_emod_of_nonneg hw.1]; exact hmi
 have hmj2 : fr.tmod 3 = (j : Int) := by rw [Int.tmod_eq_emod_of_nonneg hw.2.2.1]; exact hmj
 have HX : Hid (∀ W, Below (w.heap.size + 1) (w.alloc (.cells #[.int .u8 who, .int .u8 fr, .bool true, .slice A5 path.length c5, .int .i64 act, .string s, .int .i64 nn] 69)) W → (Below w.heap.size w W ∧ StB W g v n va L K ∧ W.cell? ⟨w.heap.size, 0, none⟩ = some (.int .u8 who) ∧ W.cell? ⟨w.heap.size, 1, none⟩ = some (.int .u8 fr) ∧ W.cell? ⟨w.heap.size, 2, none⟩ = some (.bool true))) := fun W hW => by
  have g0 := (hW.block w.heap.size (by omega)).trans (heap_new rfl)
  have hB : Below w.heap.size w W := ((Below.refl _ w).alloc (Nat.le_refl _) _).trans (hW.mono (by omega))
  exact ⟨hB, HST.out.grow hB, cell_cells (i := 0) g0, cell_cells (i := 1) g0, cell_cells (i := 2) g0⟩
 clear h hi hwi hwj
 go_enter Tryz.func38, Tryz.ntmps38
 obtain ⟨hB, hst, q0, q1, q2⟩ := HX.out _ (Below.refl _ _)
 go_upto_region 3 with (fail)
 have hV : Hid (Below w.heap.size w (w.alloc (.cells #[.int .u8 who, .int .u8 fr, .bool true, .slice A5 path.length c5, .int .i64 act, .string s, .int .i64 nn] 69))) := hid hB
 have hown := HST.out.own.lt
 obtain ⟨ai, bi, ci, hvi⟩ : ∃ a b c, v i = (a, b, c) := ⟨_, _, _, rfl⟩
 obtain ⟨aj, bj, cj, hvj⟩ : ∃ a b c, v j = (a, b, c) := ⟨_, _, _, rfl⟩
 have HKK : Hid (∀ W, Below (w.heap.size + 1) (w.alloc (.cells #[.int .u8 who, .int .u8 fr, .bool true, .slice A5 path.length c5, .int .i64 act, .string s, .int .i64 nn] 69)) W → (W.cell? ⟨g, i * 3, none⟩ = some ai ∧ W.cell? ⟨g, i * 3 + 1, none⟩ = some bi ∧ W.cell? ⟨g, i * 3 + 2, none⟩ = some ci ∧ W.cell? ⟨g, j * 3, none⟩ = some aj ∧ W.cell? ⟨g, j * 3 + 1, none⟩ = some bj ∧ W.cell? ⟨g, j * 3 + 2, none⟩ = some cj ∧ W.cell? ⟨w.heap.size, 1, none⟩ = some (.int .u8 fr))) := fun W hW => by
  obtain ⟨_, hs, _, q1, _⟩ := HX.out W hW
  obtain ⟨a0, a1, a2, _, _⟩ := hs.cells hi3
  obtain ⟨b0, b1, b2, _, _⟩ := hs.cells hj3
  rw [hvi] at a0 a1 a2
  rw [hvj] at b0 b1 b2
  exact ⟨a0, a1, a2, b0, b1, b2, q1⟩
 have HRD : Hid (∀ W, Below (w.heap.size + 1) (w.alloc (.cells #[.int .u8 who, .int .u8 fr, .bool true, .slice A5 path.length c5, .int .i64 act, .string s, .int .i64 nn] 69)) W → ((K i).1.rd W W.heap.size ai bi ∧ SlP W W.heap.size 3 SpE ci (K i).2 ∧ (K j).1.rd W W.heap.size aj bj ∧ SlP W W.heap.size 3 SpE cj (K j).2)) := fun W hW => by
  obtain ⟨_, hs, _⟩ := HX.out W hW
  have r1 := hs.rd hi3
  have r2 := hs.slp hi3
  have r3 := hs.rd hj3
  have r4 := hs.slp hj3
  rw [hvi] at r1 r2
  rw [hvj] at r3 r4
  exact ⟨r1, r2, r3, r4⟩
 obtain ⟨Ai, ni, Bi, mi, hv1, hv2⟩ := rd_shape (HRD.out _ (Below.refl _ _)).1
 obtain ⟨Ci, ki, hv3, _⟩ := (HRD.out _ (Below.refl _ _)).2.1
 obtain ⟨Aj, nj, Bj, mj, hv4, hv5⟩ := rd_shape (HRD.out _ (Below.refl _ _)).2.2.1
 obtain ⟨Cj, kj, hv6, _⟩ := (HRD.out _ (Below.refl _ _)).2.2.2
 subst hv1; subst hv2; subst hv3; subst hv4; subst hv5; subst hv6
 have HVI := hid hvi
 obtain ⟨y0, y1, y2, y3, y4, y5, y6⟩ := HKK.out _ (Below.refl _ _)
 clear hB hst q0 q1 q2 hvi hvj
 obtain ⟨⟨JT, JC⟩, HJJ⟩ : ∃ q, Hid (jn (K i) (K j) = q) := ⟨_, rfl⟩
 have HJ1 : Hid (jnE (K i).1 (K j).1 (K i).2 (K j).2 = 0) := HJ.out.1
 have HJ2 : Hid (jnT (K i).1 (K j).1 (K i).2 (K j).2 = JT) := HJ.out.2.1.trans (congrArg Prod.fst HJJ.out)
 have HJ3 : Hid (jnC (K i).1 (K j).1 (K i).2 (K j).2 = JC) := HJ.out.2.2.trans (congrArg Prod.snd HJJ.out)
 have hgw : g ≠ w.heap.size := by omega
 have hi0 : (0 : Int) ≤ (i : Int) := by omega
 have hj0 : (0 : Int) ≤ (j : Int) := by omega
 have hj255 : (j : Int) ≤ 255 := by omega
 have hjw : IntKind.i64.wrap (j : Int) = (j : Int) := IntWalk.i64_in _ (by omega)
 have hgw' : w.heap.size ≠ g := by omega
 go_cut [6, 7] (fun s6 s7 wx => s7 = .int .i64 0 ∧ BoxG (w.heap.size + 1) (w.alloc (.cells #[.int .u8 who, .int .u8 fr, .bool true, .slice A5 path.length c5, .int .i64 act, .string s, .int .i64 nn] 69)) 29 JT JC s6 wx)
 case first =>
  go_region_held3 (fun W => W.cell? ⟨g, i * 3, none⟩ = some (.slice Ai (K i).1.es.length ni) ∧ W.cell? ⟨g, i * 3 + 1, none⟩ = some (.slice Bi (K i).1.ks.length mi) ∧ W.cell? ⟨g, i * 3 + 2, none⟩ = some (.slice Ci (K i).2.length ki) ∧ W.cell? ⟨g, j * 3, none⟩ = some (.slice Aj (K j).1.es.length nj) ∧ W.cell? ⟨g, j * 3 + 1, none⟩ = some (.slice Bj (K j).1.ks.length mj) ∧ W.cell? ⟨g, j * 3 + 2, none⟩ = some (.slice Cj (K j).2.length kj) ∧ W.cell? ⟨w.heap.size, 1, none⟩ = some (.int .u8 fr))
   (first | go_keep | exact HKK.out _ hbr4.out | exact HKK.out _ (hbr4.out.trans (by go_grown)) | exact HKK.out _ (((hbr4.out.setCell (by first | (simp; done) | (simp; omega)) _).setCell (by first | (simp; done) | (simp; omega)) _).setCell (by first | (simp; done) | (simp; omega)) _) | exact HKK.out _ (by go_grown) | fail)
   (first
    | (go_at_call 32; go_loud ((refine (cJoin_any (K i).2 (K j).2 (K i).1 (K j).1 _ _ _ _ _ _ _ (HRD.out _ (by go_grown)).1 (HRD.out _ (by go_grown)).2.2.1 (HRD.out _ (by go_grown)).2.1 (HRD.out _ (by go_grown)).2.2.2 (by omega) (by omega) (by omega) (by omega)).mono ?_); rw [HJ1.out, HJ2.out, HJ3.out]; rintro e w4 ⟨xe4, xk4, xc4, rfl, hrd4, hsl4, hb⟩; have hbr4 : Hid (Below (w.heap.size + 1) (w.alloc (.cells #[.int .u8 who, .int .u8 fr, .bool true, .slice A5 path.length c5, .int .i64 act, .string s, .int .i64 nn] 69)) w4) := hid (Below.trans (by go_grown) (hb.mono (by first | omega | (simp; done) | (simp; omega)))); have hsr4 := hbr4.out.size; simp only [World.size_alloc] at hsr4; obtain ⟨Ar4, nr4, Br4, mr4, hv1, hv2⟩ := rda_shape hrd4; subst hv1; subst hv2; obtain ⟨Dr4, kr4, hv3⟩ := hsl4.shape; subst hv3; have HR4 := hid hrd4; have HL4 := hid hsl4; clear hrd4 hsl4; (first | (have HG4 : Hid (w4.heap[w.heap.size + 1]? = some (.cells #[.slice none 0 0, .slice none 0 0, .slice none 0 0] 29 (0, 0))) := hid (z_new2D hb); have k0 : w4.cell? ⟨w.heap.size + 1, 0, none⟩ = some (.slice none 0 0) := cell_cells (i := 0) HG4.out; have k1 : w4.cell? ⟨w.heap.size + 1, 1, none⟩ = some (.slice none 0 0) := cell_cells (i := 1) HG4.out; have k2 : w4.cell? ⟨w.heap.size + 1, 2, none⟩ = some (.slice none 0 0) := cell_cells (i := 2) HG4.out; have z0 := cells_frz (i := 0) HG4.out; have z1 := cells_frz (i := 1) HG4.out; have z2 := cells_frz (i := 2) HG4.out; have hna0 : g ≠ w.heap.size + 1 := (by omega); have hnb0 : w.heap.size + 1 ≠ g := (by omega)) | (have HG4 : Hid (w4.heap[w.heap.size + 1]? = some (.cells #[.slice none 0 0, .slice none 0 0, .slice none 0 0] 29 (0, 0))) := hid (z_new2 hb); have k0 : w4.cell? ⟨w.heap.size + 1, 0, none⟩ = some (.slice none 0 0) := cell_cells (i := 0) HG4.out; have k1 : w4.cell? ⟨w.heap.size + 1, 1, none⟩ = some (.slice none 0 0) := cell_cells (i := 1) HG4.out; have k2 : w4.cell? ⟨w.heap.size + 1, 2, none⟩ = some (.slice none 0 0) := cell_cells (i := 2) HG4.out; have z0 := cells_frz (i := 0) HG4.out; have z1 := cells_frz (i := 1) HG4.out; have z2 := cells_frz (i := 2) HG4.out; have hna0 : g ≠ w.heap.size + 1 := (by omega); have hnb0 : w.heap.size + 1 ≠ g := (by omega)) | skip); clear hb)))
  all_goals
   go_wp2_with fail
   go_meet
   case rel => exact ⟨rfl, (by first | exact boxg_new hbr4.out hsr4 (by first | omega | (simp; done) | (simp; omega)) HR4.out HL4.out | exact boxg_set HG4.out hbr4.out (by omega) (by first | (simp; done) | (simp; omega)) HR4.out HL4.out)⟩
 case rest =>
  obtain ⟨rfl, q, rfl, hqm, xe, xk, xc, hG, hrd, hsl, hbz⟩ := hcut
  obtain ⟨wq, hwq⟩ : ∃ z : World, z = wc := ⟨wc, rfl⟩
  subst hwq
  obtain ⟨Aa, na, Ab, nb, rfl, rfl⟩ := rda_shape hrd
  obtain ⟨Ac, nc, rfl⟩ := hsl.shape
  obtain ⟨hBw, hst, _, _, _⟩ := HX.out _ hbz
  have d0 := cell_cells (i := 0) hG
  have d1 := cell_cells (i := 1) hG
  have d2 := cell_cells (i := 2) hG
  simp only [List.getElem?_toArray, List.getElem?_cons_zero, List.getElem?_cons_succ] at d0 d1 d2
  obtain ⟨e0, e1, e2, _⟩ := HKK.out _ hbz
  have f0 := hst.frz (i * 3)
  have f1 := hst.frz (i * 3 + 1)
  have f2 := hst.frz (i * 3 + 2)
  have HS := hid hst
  have HRr := hid hrd
  have HSs := hid hsl
  have hqg : q ≠ g := by omega
  have hgq : g ≠ q := by omega
  have hsq := hbz.size
  simp only [World.size_alloc] at hsq
  clear hG hrd hsl hst
  go_upto_region 4 with (fail)
  go_region_held3 (fun W => W.cell? ⟨q, 0, none⟩ = some (.slice Aa JT.es.length na) ∧ W.cell? ⟨q, 1, none⟩ = some (.slice Ab JT.ks.length nb) ∧ W.cell? ⟨q, 2, none⟩ = some (.slice Ac JC.length nc)) (first | go_keep | fail) (fail)
  all_goals
   go_wp2_with fail
   go_ret
   rw [HA.out]
   have HB1 : Below g w (((wq.setCell ⟨g, i * 3, none⟩ (.slice Aa JT.es.length na)).setCell ⟨g, i * 3 + 1, none⟩ (.slice Ab JT.ks.length nb)).setCell ⟨g, i * 3 + 2, none⟩ (.slice Ac JC.length nc)).drew := ((((hBw.mono (Nat.le_of_lt hgl)).setCell (Nat.le_refl _) _).setCell (Nat.le_refl _) _).setCell (Nat.le_refl _) _).drew
   have hok : ∀ b, (w.heap.size + 1 ≤ b ∧ b < wq.heap.size) → okS wq g va b := fun b hb => ⟨by omega, hb.2, fun e => by have := (hown b e).2; omega⟩
   have hne : ∀ k, k ≠ g → (((wq.setCell ⟨g, i * 3, none⟩ (.slice Aa JT.es.length na)).setCell ⟨g, i * 3 + 1, none⟩ (.slice Ab JT.ks.length nb)).setCell ⟨g, i * 3 + 2, none⟩ (.slice Ac JC.length nc)).drew.heap[k]? = wq.heap[k]? := fun k hk => (Below.heap_setCell _ _ _ _ hk).trans ((Below.heap_setCell _ _ _ _ hk).trans (Below.heap_setCell _ _ _ _ hk))
   refine ⟨rfl, fun b hb => (hne b hb.1).trans (hBw.block b hb.2.1), HB1, setK v i (.slice Aa JT.es.length na, .slice Ab JT.ks.length nb, .slice Ac JC.length nc), va, ?_, Or.inl rfl⟩
   have h9 := (HS.out.setK (X := (JT, JC)) hi3 hok HRr.out HSs.out).grow ((Below.refl _ _).drew)
   rw [HJJ.out]
   exact h9
structure MkR (w4 : World) (g : Nat) (va : Value) (v : Nat → V3) (n : Nat → Int) (L : List Ev) (K : Nat → Kn) (wx : World) : Prop where
 st : ∃ va', StB wx g v n va' L K ∧ (va'.ownBlock = va.ownBlock ∨ ∃ b, va'.ownBlock = some b ∧ w4.heap.size ≤ b)
 keep : ∀ b, okS w4 g va b → wx.heap[b]? = w4.heap[b]?
 below : Below g w4 wx
structure Mk5 (w4 : World) (g : Nat) (va : Value) (v : Nat → V3) (n : Nat → Int) (L : List Ev) (K : Nat → Kn) (v1 : Value) (w5 : World) : Prop where
 gk : w5.heap[g]? = w4.heap[g]?
 keep : ∀ b, okS w4 g va b → w5.heap[b]? = w4.heap[b]?
 st : MkR w4 g va v n L K (w5.setCell ⟨g, 12, none⟩ v1)
set_option maxHeartbeats 8000000 in
theorem step_make {s : SS} {g : Nat} {v : Nat → V3} {va : Value} (a : ActP) (vp : Value) (w : World) (h : StB w g v s.n va s.l s.K) (hi : SInv s.l s.n s.K) (hl : s.l.length ≤ 30) (hh : a.hears = false) (hp : SlA w (okS w g va) 1 StE vp a.o.path) (hw : 0 ≤ a.who ∧ a.who ≤ 255 ∧ 0 ≤ a.fr ∧ a.fr ≤ 255) (ho : a.o.Ok) (hpl : a.o.path.length ≤ 1000) :
  Calls Tryz.prog 38 #[.pointer (some ⟨g, 0, none⟩), .agg #[.int .u8 a.who, .int .u8 a.fr, .bool a.hears, vp, .int .i64 a.o.act, .string a.o.s, .int .i64 a.o.n]] w (StepR w g va (actS s a)) := by
 obtain ⟨L, n, K⟩ := s
 obtain ⟨A5, c5, hvp⟩ := hp.shape
 subst hvp
 obtain ⟨who, fr, hears, ⟨path, act, s, nn⟩⟩ := a
 simp only at h hi hl hh hw hp ho hpl ⊢
 subst hh
 obtain ⟨i, hwi⟩ : ∃ i, whoI who = i := ⟨_, rfl⟩
 have hi3 : i < 3 := by rw [← hwi]; exact who_lt _
 have hmi : who % 3 = (i : Int) := by rw [← hwi]; unfold whoI; omega
 have HA : Hid (actS ⟨L, n, K⟩ ⟨who, fr, false, ⟨path, act, s, nn⟩⟩ = if appI (K i).1 ⟨path, act, s, nn⟩ ⟨(i : Int), n i + 1⟩ = 0 then ⟨L ++ [⟨⟨(i : Int), n i + 1⟩, ⟨path, act, s, nn⟩, (K i).2⟩], setK n i (n i + 1), setK K i (jn (K i) (appT (K i).1 ⟨path, act, s, nn⟩ ⟨(i : Int), n i + 1⟩, appC (K i).1 ⟨path, act, s, nn⟩ ⟨(i : Int), n i + 1⟩))⟩ else ⟨L, n, K⟩) := by unfold Hid actS; simp only [Bool.false_eq_true, if_false, hwi]
 have hki := hi.kw i hi3
 obtain ⟨zi1, zi2⟩ := hki.size
 obtain ⟨nz1, nz2⟩ := hi.nn i hi3
 have hgl := h.lt
 have HST := hid h
 have HP := hid hp
 have HO := hid ho
 have hii : (i : Int) < 3 := by omega
 have hi0 : (0 : Int) ≤ (i : Int) := by omega
 have hmi2 : who.tmod 3 = (i : Int) := by rw [Int.tmod_eq_emod_of_nonneg hw.1]; exact hmi
 have hnw : IntKind.i64.wrap (n i + 1) = n i + 1 := IntWalk.i64_in _ (by omega)
 have hiw : IntKind.i64.wrap (i : Int) = (i : Int) := IntWalk.i64_in _ (by omega)
 have HX : Hid (∀ W, Below (w.heap.size + 1) (w.alloc (.cells #[.int .u8 who, .int .u8 fr, .bool false, .slice A5 path.length c5, .int .i64 act, .string s, .int .i64 nn] 69)) W → (Below w.heap.size w W ∧ StB W g v n va L K ∧ W.cell? ⟨w.heap.size, 0, none⟩ = some (.int .u8 who) ∧ W.cell? ⟨w.heap.size, 2, none⟩ = some (.bool false) ∧ W.cell? ⟨w.heap.size, 3, none⟩ = some (.slice A5 path.length c5) ∧ W.cell? ⟨w.heap.size, 4, none⟩ = some (.int .i64 act) ∧ W.cell? ⟨w.heap.size, 5, none⟩ = some (.string s) ∧ W.cell? ⟨w.heap.size, 6, none⟩ = some (.int .i64 nn))) := fun W hW => by
  have g0 := (hW.block w.heap.size (by omega)).trans (heap_new rfl)
  have hB : Below w.heap.size w W := ((Below.refl _ w).alloc (Nat.le_refl _) _).trans (hW.mono (by omega))
  exact ⟨hB, HST.out.grow hB, cell_cells (i := 0) g0, cell_cells (i := 2) g0, cell_cells (i := 3) g0, cell_cells (i := 4) g0, cell_cells (i := 5) g0, cell_cells (i := 6) g0⟩
 have HDO : Hid (Dt.Ok ⟨(i : Int), n i + 1⟩) := ⟨⟨by simp only; omega, by simp only; omega⟩, ⟨by simp only; omega, by simp only; omega⟩⟩
 clear h hi hwi hp ho
 go_enter Tryz.func38, Tryz.ntmps38
 obtain ⟨hB, hst, q0, q2, q3, q4, q5, q6⟩ := HX.out _ (Below.refl _ _)
 obtain ⟨c0, c1, c2, c3, c4⟩ := hst.cells hi3
 go_upto_region 6 with (fail)
 go_cut [8] (fun s8 wx => ∃ q, s8 = .pointer (some ⟨q, 0, none⟩) ∧ w.heap.size + 1 ≤ q ∧ wx.heap[q]? = some (.cells #[.int .i64 (i : Int), .int .i64 (n i + 1)] 52 (0, 0)) ∧ Below (w.heap.size + 1) (w.alloc (.cells #[.int .u8 who, .int .u8 fr, .bool false, .slice A5 path.length c5, .int .i64 act, .string s, .int .i64 nn] 69)) wx)
 case first =>
  go_wp2_with fail
  go_meet
  case rel => exact ⟨_, rfl, by simp, heap_new (by simp), (Below.refl _ _).alloc (by simp) _⟩
 case rest =>
  obtain ⟨q8, rfl, hq8, hg8, hbz⟩ := hcut
  clear hB hst q0 q2 q3 q4 q5 q6 c0 c1 c2 c3 c4
  obtain ⟨w2, hwq⟩ : ∃ z : World, z = wc := ⟨wc, rfl⟩
  subst hwq
  obtain ⟨hB, hst, q0, q2, q3, q4, q5, q6⟩ := HX.out _ hbz
  have hs8 := lt_of_block hg8
  have hs2 := hB.size
  have HBZ := hid hbz
  have HG8 := hid hg8
  obtain ⟨ai, bi, ci, hvi⟩ : ∃ a b c, v i = (a, b, c) := ⟨_, _, _, rfl⟩
  have HKK : Hid (∀ W, Below w2.heap.size w2 W → (W.cell? ⟨g, i * 3, none⟩ = some ai ∧ W.cell? ⟨g, i * 3 + 1, none⟩ = some bi ∧ W.cell? ⟨g, i * 3 + 2, none⟩ = some ci ∧ W.cell? ⟨w.heap.size, 3, none⟩ = some (.slice A5 path.length c5) ∧ W.cell? ⟨w.heap.size, 4, none⟩ = some (.int .i64 act) ∧ W.cell? ⟨w.heap.size, 5, none⟩ = some (.string s) ∧ W.cell? ⟨w.heap.size, 6, none⟩ = some (.int .i64 nn) ∧ W.cell? ⟨q8, 0, none⟩ = some (.int .i64 (i : Int)) ∧ W.cell? ⟨q8, 1, none⟩ = some (.int .i64 (n i + 1)))) := fun W hW => by
   have hW1 := HBZ.out.trans (hW.mono (by omega))
   obtain ⟨_, hs, _, _, q3, q4, q5, q6⟩ := HX.out W hW1
   obtain ⟨a0, a1, a2, _, _⟩ := hs.cells hi3
   rw [hvi] at a0 a1 a2
   have g0 := (hW.block q8 hs8).trans HG8.out
   exact ⟨a0, a1, a2, q3, q4, q5, q6, cell_cells (i := 0) g0, cell_cells (i := 1) g0⟩
  have HRD : Hid (∀ W, Below w2.heap.size w2 W → ((K i).1.rd W W.heap.size ai bi ∧ SlP W W.heap.size 3 SpE ci (K i).2 ∧ SlP W W.heap.size 1 StE (.slice A5 path.length c5) path)) := fun W hW => by
   have hW1 := HBZ.out.trans (hW.mono (by omega))
   obtain ⟨hb1, hs, _⟩ := HX.out W hW1
   have r1 := hs.rd hi3
   have r2 := hs.slp hi3
   rw [hvi] at r1 r2
   exact ⟨r1, r2, HP.out.slp (fun b hb => hb.2.1) hb1⟩
  obtain ⟨Ai, ni, Bi, mi, hv1, hv2⟩ := rd_shape (HRD.out _ (Below.refl _ _)).1
  obtain ⟨Ci, ki, hv3, _⟩ := (HRD.out _ (Below.refl _ _)).2.1
  subst hv1; subst hv2; subst hv3
  have HVI := hid hvi
  obtain ⟨y0, y1, y2, y3, y4, y5, y6, y7, y8⟩ := HKK.out _ (Below.refl _ _)
  clear hB hst q0 q2 q3 q4 q5 q6 hvi hbz hg8
  obtain ⟨P, hPe⟩ : ∃ P, P = appI (K i).1 ⟨path, act, s, nn⟩ ⟨(i : Int), n i + 1⟩ := ⟨_, rfl⟩
  obtain ⟨PT, hPT⟩ : ∃ P, P = appT (K i).1 ⟨path, act, s, nn⟩ ⟨(i : Int), n i + 1⟩ := ⟨_, rfl⟩
  obtain ⟨PC, hPC⟩ : ∃ P, P = appC (K i).1 ⟨path, act, s, nn⟩ ⟨(i : Int), n i + 1⟩ := ⟨_, rfl⟩
  have HPe := hid hPe
  have HPT := hid hPT
  have HPC := hid hPC
  clear hPe hPT hPC
  have hgw : g ≠ w2.heap.size := by omega
  have hgw' : w2.heap.size ≠ g := by omega
  have hgq : q8 ≠ w2.heap.size := by omega
  have hgq' : w2.heap.size ≠ q8 := by omega
  have hww : w.heap.size ≠ w2.heap.size := by omega
  have hww' : w2.heap.size ≠ w.heap.size := by omega
  go_upto_region 7 with (fail)
  go_cut [9, 10] (fun s9 s10 wx => s10 = .int .i64 P ∧ BoxG w2.heap.size w2 29 PT PC s9 wx)
  case first =>
   go_region_held3 (fun W => W.cell? ⟨g, i * 3, none⟩ = some (.slice Ai (K i).1.es.length ni) ∧ W.cell? ⟨g, i * 3 + 1, none⟩ = some (.slice Bi (K i).1.ks.length mi) ∧ W.cell? ⟨g, i * 3 + 2, none⟩ = some (.slice Ci (K i).2.length ki) ∧ W.cell? ⟨w.heap.size, 3, none⟩ = some (.slice A5 path.length c5) ∧ W.cell? ⟨w.heap.size, 4, none⟩ = some (.int .i64 act) ∧ W.cell? ⟨w.heap.size, 5, none⟩ = some (.string s) ∧ W.cell? ⟨w.heap.size, 6, none⟩ = some (.int .i64 nn) ∧ W.cell? ⟨q8, 0, none⟩ = some (.int .i64 (i : Int)) ∧ W.cell? ⟨q8, 1, none⟩ = some (.int .i64 (n i + 1)))
    (first | go_keep | exact HKK.out _ hbr4.out | exact HKK.out _ (hbr4.out.trans (by go_grown)) | exact HKK.out _ (((hbr4.out.setCell (by first | (simp; done) | (simp; omega)) _).setCell (by first | (simp; done) | (simp; omega)) _).setCell (by first | (simp; done) | (simp; omega)) _) | exact HKK.out _ (by go_grown) | fail)
    (first
     | (go_at_call 84; go_loud ((refine (opApply_any (K i).1 ⟨path, act, s, nn⟩ ⟨(i : Int), n i + 1⟩ _ _ _ _ (HRD.out _ (by go_grown)).1 (HRD.out _ (by go_grown)).2.2 HO.out HDO.out (by omega)).mono ?_); rw [← HPe.out, ← HPT.out, ← HPC.out]; rintro e w4 ⟨xe4, xk4, xc4, rfl, hrd4, hsl4, hb⟩; have hbr4 : Hid (Below w2.heap.size w2 w4) := hid (Below.trans (by go_grown) (hb.mono (by first | omega | (simp; done) | (simp; omega)))); have hsr4 := hbr4.out.size; obtain ⟨Ar4, nr4, Br4, mr4, hv1, hv2⟩ := rda_shape hrd4; subst hv1; subst hv2; obtain ⟨Dr4, kr4, hv3⟩ := hsl4.shape; subst hv3; have HR4 := hid hrd4; have HL4 := hid hsl4; clear hrd4 hsl4; (first | (have HG4 : Hid (w4.heap[w2.heap.size]? = some (.cells #[.slice none 0 0, .slice none 0 0, .slice none 0 0] 29 (0, 0))) := hid (z_newD hb); have k0 : w4.cell? ⟨w2.heap.size, 0, none⟩ = some (.slice none 0 0) := cell_cells (i := 0) HG4.out; have k1 : w4.cell? ⟨w2.heap.size, 1, none⟩ = some (.slice none 0 0) := cell_cells (i := 1) HG4.out; have k2 : w4.cell? ⟨w2.heap.size, 2, none⟩ = some (.slice none 0 0) := cell_cells (i := 2) HG4.out; have z0 := cells_frz (i := 0) HG4.out; have z1 := cells_frz (i := 1) HG4.out; have z2 := cells_frz (i := 2) HG4.out) | (have HG4 : Hid (w4.heap[w2.heap.size]? = some (.cells #[.slice none 0 0, .slice none 0 0, .slice none 0 0] 29 (0, 0))) := hid (z_new hb); have k0 : w4.cell? ⟨w2.heap.size, 0, none⟩ = some (.slice none 0 0) := cell_cells (i := 0) HG4.out; have k1 : w4.cell? ⟨w2.heap.size, 1, none⟩ = some (.slice none 0 0) := cell_cells (i := 1) HG4.out; have k2 : w4.cell? ⟨w2.heap.size, 2, none⟩ = some (.slice none 0 0) := cell_cells (i := 2) HG4.out; have z0 := cells_frz (i := 0) HG4.out; have z1 := cells_frz (i := 1) HG4.out; have z2 := cells_frz (i := 2) HG4.out) | skip); clear hb)))
   all_goals
    go_wp2_with fail
    go_meet
    case rel => exact ⟨rfl, (by first | exact boxg_new hbr4.out hsr4 (by first | omega | (simp; done) | (simp; omega)) HR4.out HL4.out | exact boxg_set HG4.out hbr4.out (by omega) (by first | (simp; done) | (simp; omega)) HR4.out HL4.out)⟩
  case rest =>
   obtain ⟨rfl, q9, rfl, hq9, xe, xk, xc, hG, hrd, hsl, hbz⟩ := hcut
   obtain ⟨w3, hw3⟩ : ∃ z : World, z = wc := ⟨wc, rfl⟩
   subst hw3
   clear y0 y1 y2 y3 y4 y5 y6 y7 y8
   obtain ⟨y0, y1, y2, y3, y4, y5, y6, y7, y8⟩ := HKK.out _ hbz
   have hs9 := lt_of_block hG
   have hs3 := hbz.size
   have HB3 := hid hbz
   have HG9 := hid hG
   have HR9 := hid hrd
   have HS9 := hid hsl
   have HK3 : Hid (∀ W, Below w3.heap.size w3 W → (W.cell? ⟨g, i * 3, none⟩ = some (.slice Ai (K i).1.es.length ni) ∧ W.cell? ⟨g, i * 3 + 1, none⟩ = some (.slice Bi (K i).1.ks.length mi) ∧ W.cell? ⟨g, i * 3 + 2, none⟩ = some (.slice Ci (K i).2.length ki) ∧ W.cell? ⟨w.heap.size, 3, none⟩ = some (.slice A5 path.length c5) ∧ W.cell? ⟨w.heap.size, 4, none⟩ = some (.int .i64 act) ∧ W.cell? ⟨w.heap.size, 5, none⟩ = some (.string s) ∧ W.cell? ⟨w.heap.size, 6, none⟩ = some (.int .i64 nn) ∧ W.cell? ⟨q8, 0, none⟩ = some (.int .i64 (i : Int)) ∧ W.cell? ⟨q8, 1, none⟩ = some (.int .i64 (n i + 1)))) := fun W hW => HKK.out W (HB3.out.trans (hW.mono hs3))
   have HRD3 : Hid (∀ W, Below w3.heap.size w3 W → ((K i).1.rd W W.heap.size (.slice Ai (K i).1.es.length ni) (.slice Bi (K i).1.ks.length mi) ∧ SlP W W.heap.size 3 SpE (.slice Ci (K i).2.length ki) (K i).2 ∧ SlP W W.heap.size 1 StE (.slice A5 path.length c5) path)) := fun W hW => HRD.out W (HB3.out.trans (hW.mono hs3))
   clear hbz hG hrd hsl
   have hg3 : g ≠ w3.heap.size := by omega
   have hg3' : w3.heap.size ≠ g := by omega
   have hg4 : q8 ≠ w3.heap.size := by omega
   have hg4' : w3.heap.size ≠ q8 := by omega
   have hw3 : w.heap.size ≠ w3.heap.size := by omega
   have hw3' : w3.heap.size ≠ w.heap.size := by omega
   go_upto_region 8 with (fail)
   go_cut [11, 12] (fun s9 s10 wx => s10 = .int .i64 P ∧ BoxG w3.heap.size w3 29 PT PC s9 wx)
   case first =>
    go_region_held3 (fun W => W.cell? ⟨g, i * 3, none⟩ = some (.slice Ai (K i).1.es.length ni) ∧ W.cell? ⟨g, i * 3 + 1, none⟩ = some (.slice Bi (K i).1.ks.length mi) ∧ W.cell? ⟨g, i * 3 + 2, none⟩ = some (.slice Ci (K i).2.length ki) ∧ W.cell? ⟨w.heap.size, 3, none⟩ = some (.slice A5 path.length c5) ∧ W.cell? ⟨w.heap.size, 4, none⟩ = some (.int .i64 act) ∧ W.cell? ⟨w.heap.size, 5, none⟩ = some (.string s) ∧ W.cell? ⟨w.heap.size, 6, none⟩ = some (.int .i64 nn) ∧ W.cell? ⟨q8, 0, none⟩ = some (.int .i64 (i : Int)) ∧ W.cell? ⟨q8, 1, none⟩ = some (.int .i64 (n i + 1)))
     (first | go_keep | exact HK3.out _ hbr4.out | exact HK3.out _ (hbr4.out.trans (by go_grown)) | exact HK3.out _ (((hbr4.out.setCell (by first | (simp; done) | (simp; omega)) _).setCell (by first | (simp; done) | (simp; omega)) _).setCell (by first | (simp; done) | (simp; omega)) _) | exact HK3.out _ (by go_grown) | fail)
     (first
      | (go_at_call 87; go_loud ((refine (r15apply_any (K i).1 ⟨path, act, s, nn⟩ ⟨(i : Int), n i + 1⟩ _ _ _ _ (HRD3.out _ (by go_grown)).1 (HRD3.out _ (by go_grown)).2.2 HO.out HDO.out hpl (by omega)).mono ?_); rw [← HPe.out, ← HPT.out, ← HPC.out]; rintro e w4 ⟨xe4, xk4, xc4, rfl, hrd4, hsl4, hb⟩; have hbr4 : Hid (Below w3.heap.size w3 w4) := hid (Below.trans (by go_grown) (hb.mono (by first | omega | (simp; done) | (simp; omega)))); have hsr4 := hbr4.out.size; obtain ⟨Ar4, nr4, Br4, mr4, hv1, hv2⟩ := rda_shape hrd4; subst hv1; subst hv2; obtain ⟨Dr4, kr4, hv3⟩ := hsl4.shape; subst hv3; have HR4 := hid hrd4; have HL4 := hid hsl4; clear hrd4 hsl4; (first | (have HG4 : Hid (w4.heap[w3.heap.size]? = some (.cells #[.slice none 0 0, .slice none 0 0, .slice none 0 0] 29 (0, 0))) := hid (z_newD hb); have k0 : w4.cell? ⟨w3.heap.size, 0, none⟩ = some (.slice none 0 0) := cell_cells (i := 0) HG4.out; have k1 : w4.cell? ⟨w3.heap.size, 1, none⟩ = some (.slice none 0 0) := cell_cells (i := 1) HG4.out; have k2 : w4.cell? ⟨w3.heap.size, 2, none⟩ = some (.slice none 0 0) := cell_cells (i := 2) HG4.out; have z0 := cells_frz (i := 0) HG4.out; have z1 := cells_frz (i := 1) HG4.out; have z2 := cells_frz (i := 2) HG4.out) | (have HG4 : Hid (w4.heap[w3.heap.size]? = some (.cells #[.slice none 0 0, .slice none 0 0, .slice none 0 0] 29 (0, 0))) := hid (z_new hb); have k0 : w4.cell? ⟨w3.heap.size, 0, none⟩ = some (.slice none 0 0) := cell_cells (i := 0) HG4.out; have k1 : w4.cell? ⟨w3.heap.size, 1, none⟩ = some (.slice none 0 0) := cell_cells (i := 1) HG4.out; have k2 : w4.cell? ⟨w3.heap.size, 2, none⟩ = some (.slice none 0 0) := cell_cells (i := 2) HG4.out; have z0 := cells_frz (i := 0) HG4.out; have z1 := cells_frz (i := 1) HG4.out; have z2 := cells_frz (i := 2) HG4.out) | skip); clear hb)))
    all_goals
     go_wp2_with fail
     go_meet
     case rel => exact ⟨rfl, (by first | exact boxg_new hbr4.out hsr4 (by first | omega | (simp; done) | (simp; omega)) HR4.out HL4.out | exact boxg_set HG4.out hbr4.out (by omega) (by first | (simp; done) | (simp; omega)) HR4.out HL4.out)⟩
   case rest =>
    obtain ⟨rfl, q11, rfl, hq11, _, _, _, _, _, _, hbz⟩ := hcut
    obtain ⟨w4, hw4⟩ : ∃ z : World, z = wc := ⟨wc, rfl⟩
    subst hw4
    clear y0 y1 y2 y3 y4 y5 y6 y7 y8
    obtain ⟨y0, y1, y2, y3, y4, y5, y6, y7, y8⟩ := HK3.out _ hbz
    have hs4 := hbz.size
    have HB34 : Hid (Below w3.heap.size w3 w4) := hid hbz
    have HB4 : Hid (Below w2.heap.size w2 w4) := hid (HB3.out.trans (hbz.mono hs3))
    have HBW : Hid (Below w.heap.size w w4) := hid (HX.out _ (HBZ.out.trans (HB4.out.mono (by omega)))).1
    have HST4 : Hid (StB w4 g v n va L K) := hid (HST.out.grow HBW.out)
    by_cases hP : P = 0
    ·subst hP
     obtain ⟨Aa, na, rfl⟩ := OwnP.shape HST4.out.own
     have c4 := (HST4.out.cells hi3).2.2.2.2
     have hL : L.length + 1 ≤ Few := by unfold Few; omega
     have HL := hid hL
     have h12 : i * 3 + 2 ≠ 12 := by omega
     have C4 := hid c4
     have F4 : Hid (w4.frozen? ⟨g, 12, none⟩ = false) := hid (HST4.out.frz 12)
     have hgs4 : g < w4.heap.size := HST4.out.lt
     have hg44 : g ≠ w4.heap.size := by omega
     have hg44' : w4.heap.size ≠ g := by omega
     have hq84 : q8 ≠ w4.heap.size := by omega
     have hw44 : w.heap.size ≠ w4.heap.size := by omega
     have HROW : Hid (∀ W, W = (w4.drew.alloc (.cells #[.int .i64 (i : Int), .int .i64 (n i + 1), .slice A5 path.length c5, .int .i64 act, .string s, .int .i64 nn, .slice Ci (K i).2.length ki] 80)) → SlP W W.heap.size 7 (EvA W (fun b => b ≠ g ∧ b < W.heap.size ∧ (Value.slice Aa L.length na).ownBlock ≠ some b)) (.slice (some ⟨w4.heap.size, 0, none⟩) 1 1) [{d := ⟨(i : Int), n i + 1⟩, o := ⟨path, act, s, nn⟩, seen := (K i).2}]) := by
      rintro W rfl
      have hbW : Below w4.heap.size w4 (w4.drew.alloc (.cells #[.int .i64 (i : Int), .int .i64 (n i + 1), .slice A5 path.length c5, .int .i64 act, .string s, .int .i64 nn, .slice Ci (K i).2.length ki] 80)) := ((Below.refl _ w4).drew).alloc (Nat.le_refl _) _
      have hc := HST4.out.ctx i hi3
      rw [HVI.out] at hc
      refine SlP.oneB (w := w4.drew) ⟨_, _, _, _, rfl, ?_, ?_, HDO.out, HO.out⟩ rfl _ rfl (by simp)
      ·exact HP.out.up (fun b hb => (hbW.block b (Nat.lt_of_lt_of_le hb.2.1 HBW.out.size)).trans (HBW.out.block b hb.2.1)) (fun b hb => ⟨hb.1, Nat.lt_of_lt_of_le hb.2.1 (Nat.le_trans HBW.out.size hbW.size), hb.2.2⟩) fun _ _ _ h => h
      ·exact hc.up (fun b hb => hbW.block b hb.2.1) (fun b hb => ⟨hb.1, Nat.lt_of_lt_of_le hb.2.1 hbW.size, hb.2.2⟩) fun _ _ _ h => h
     have HOW : Hid (∀ W, Below w4.heap.size w4 W → OwnD W (g + 1) 80 7 EvA (fun b => b ≠ g) (.slice Aa L.length na) L) := fun W hW => HST4.out.own.grow EvA.mon hW
     have HMK : Hid (∀ v1 w5, OwnD w5 (g + 1) 80 7 EvA (fun b => b ≠ g) v1 (L ++ [{d := ⟨(i : Int), n i + 1⟩, o := ⟨path, act, s, nn⟩, seen := (K i).2}]) → (w4.drew.alloc (.cells #[.int .i64 (i : Int), .int .i64 (n i + 1), .slice A5 path.length c5, .int .i64 act, .string s, .int .i64 nn, .slice Ci (K i).2.length ki] 80)).grownBy w5 (Value.slice Aa L.length na).ownBlock → (v1.ownBlock = (Value.slice Aa L.length na).ownBlock ∨ v1.ownBlock = some (w4.drew.alloc (.cells #[.int .i64 (i : Int), .int .i64 (n i + 1), .slice A5 path.length c5, .int .i64 act, .string s, .int .i64 nn, .slice Ci (K i).2.length ki] 80)).heap.size) → Mk5 w4 g (.slice Aa L.length na) v n (L ++ [{d := ⟨(i : Int), n i + 1⟩, o := ⟨path, act, s, nn⟩, seen := (K i).2}]) K v1 w5) := fun v1 w5 h1 h2 h3 => by
      have hbW : Below w4.heap.size w4 (w4.drew.alloc (.cells #[.int .i64 (i : Int), .int .i64 (n i + 1), .slice A5 path.length c5, .int .i64 act, .string s, .int .i64 nn, .slice Ci (K i).2.length ki] 80)) := ((Below.refl _ w4).drew).alloc (Nat.le_refl _) _
      have hown := HST4.out.own.lt
      have hgk : w5.heap[g]? = w4.heap[g]? := (h2.block g (Nat.lt_of_lt_of_le hgs4 hbW.size) (fun e => by have := (hown g e.symm).1; omega)).trans (hbW.block g hgs4)
      have hkp : ∀ b, okS w4 g (.slice Aa L.length na) b → w5.heap[b]? = w4.heap[b]? := fun b hb => (h2.block b (Nat.lt_of_lt_of_le hb.2.1 hbW.size) (Ne.symm hb.2.2)).trans (hbW.block b hb.2.1)
      have hsz : w4.heap.size ≤ w5.heap.size := Nat.le_trans hbW.size h2.size
      have hbl : Below g w4 w5 := (hbW.mono (Nat.le_of_lt hgs4)).grown h2 (Nat.le_trans (Nat.le_of_lt hgs4) hbW.size) (fun q hq => Nat.le_of_lt (hown q hq).1)
      have hvv : v1.ownBlock = (Value.slice Aa L.length na).ownBlock ∨ ∃ b, v1.ownBlock = some b ∧ w4.heap.size ≤ b := h3.imp (fun e => e) fun e => ⟨_, e, hbW.size⟩
      refine ⟨hgk, hkp, ⟨⟨v1, HST4.out.setA hgk hkp hsz (fun b hb => ?_) h1, hvv⟩, fun b hb => (Below.heap_setCell _ _ _ _ hb.1).trans (hkp b hb), hbl.setCell (Nat.le_refl _) _⟩⟩
      rcases hvv with e | ⟨q, e, hq⟩
      ·rw [e]; exact hb.2.2
      ·rw [e]; intro e2; simp only [Option.some.injEq] at e2; have := hb.2.1; omega
     have HKC : Hid (∀ W : World, (∀ b, okS w4 g (.slice Aa L.length na) b → W.heap[b]? = w4.heap[b]?) → W.cell? ⟨g, i * 3 + 2, none⟩ = some (.slice Ci (K i).2.length ki) → (W.cell? ⟨g, i * 3 + 2, none⟩ = some (.slice Ci (K i).2.length ki) ∧ W.cell? ⟨w.heap.size, 3, none⟩ = some (.slice A5 path.length c5) ∧ W.cell? ⟨w.heap.size, 4, none⟩ = some (.int .i64 act) ∧ W.cell? ⟨w.heap.size, 5, none⟩ = some (.string s) ∧ W.cell? ⟨w.heap.size, 6, none⟩ = some (.int .i64 nn) ∧ W.cell? ⟨q8, 0, none⟩ = some (.int .i64 (i : Int)) ∧ W.cell? ⟨q8, 1, none⟩ = some (.int .i64 (n i + 1)))) := fun W hk hc => by
      have hown := HST4.out.own.lt
      have k1 := hk w.heap.size ⟨by omega, by omega, fun e => by have := HST.out.own.lt _ e; omega⟩
      have k2 := hk q8 ⟨by omega, by omega, fun e => by have := HST.out.own.lt _ e; omega⟩
      exact ⟨hc, (World.cell?_of_block k1).trans y3, (World.cell?_of_block k1).trans y4, (World.cell?_of_block k1).trans y5, (World.cell?_of_block k1).trans y6, (World.cell?_of_block k2).trans y7, (World.cell?_of_block k2).trans y8⟩
     have HKS : Hid (∀ v1 w5, Mk5 w4 g (.slice Aa L.length na) v n (L ++ [{d := ⟨(i : Int), n i + 1⟩, o := ⟨path, act, s, nn⟩, seen := (K i).2}]) K v1 w5 → ((w5.setCell ⟨g, 12, none⟩ v1).cell? ⟨g, i * 3 + 2, none⟩ = some (.slice Ci (K i).2.length ki) ∧ (w5.setCell ⟨g, 12, none⟩ v1).cell? ⟨w.heap.size, 3, none⟩ = some (.slice A5 path.length c5) ∧ (w5.setCell ⟨g, 12, none⟩ v1).cell? ⟨w.heap.size, 4, none⟩ = some (.int .i64 act) ∧ (w5.setCell ⟨g, 12, none⟩ v1).cell? ⟨w.heap.size, 5, none⟩ = some (.string s) ∧ (w5.setCell ⟨g, 12, none⟩ v1).cell? ⟨w.heap.size, 6, none⟩ = some (.int .i64 nn) ∧ (w5.setCell ⟨g, 12, none⟩ v1).cell? ⟨q8, 0, none⟩ = some (.int .i64 (i : Int)) ∧ (w5.setCell ⟨g, 12, none⟩ v1).cell? ⟨q8, 1, none⟩ = some (.int .i64 (n i + 1)))) := fun v1 w5 hm => by
      obtain ⟨va', hs, _⟩ := hm.st.st
      have hc := (hs.cells hi3).2.2.1
      rw [HVI.out] at hc
      exact HKC.out _ hm.st.keep hc
     clear hL hbz
     go_upto_region 13 with (fail)
     go_cut [94] (fun _ wx => MkR w4 g (.slice Aa L.length na) v n (L ++ [⟨⟨(i : Int), n i + 1⟩, ⟨path, act, s, nn⟩, (K i).2⟩]) K wx)
     case first =>
      refine wp_region_held_drew (S := (fun W => W.cell? ⟨g, i * 3 + 2, none⟩ = some (.slice Ci (K i).2.length ki) ∧ W.cell? ⟨w.heap.size, 3, none⟩ = some (.slice A5 path.length c5) ∧ W.cell? ⟨w.heap.size, 4, none⟩ = some (.int .i64 act) ∧ W.cell? ⟨w.heap.size, 5, none⟩ = some (.string s) ∧ W.cell? ⟨w.heap.size, 6, none⟩ = some (.int .i64 nn) ∧ W.cell? ⟨q8, 0, none⟩ = some (.int .i64 (i : Int)) ∧ W.cell? ⟨q8, 1, none⟩ = some (.int .i64 (n i + 1)))) (by kernel_rfl) ?_ (fun hHeld => ?_)
      ·go_keep
      refine wpAnyH_take (i := 0) (oi := _) (v := ?v0) rfl (by kernel_rfl) (by kernel_rfl) (by kernel_rfl) (fun _ _ _ h => h) (Or.inl ⟨by rfl, ?h0⟩) (by assumption) ?_
      case h0 => (intro w hSw; (try dsimp only at hSw); go_simp; (try with_reducible rfl))
      simp only [Act.put, List.setIfInBounds_toArray, List.set_cons_zero, List.set_cons_succ, List.getElem_toArray, List.getElem_cons_zero]
      refine wpAnyH_take (i := 1) (oi := _) (v := ?v1) rfl (by kernel_rfl) (by kernel_rfl) (by kernel_rfl) (fun _ _ _ h => h) (Or.inl ⟨by rfl, ?h1⟩) (by assumption) ?_
      case h1 => (intro w hSw; (try dsimp only at hSw); go_simp; (try with_reducible rfl))
      simp only [Act.put, List.setIfInBounds_toArray, List.set_cons_zero, List.set_cons_succ, List.getElem_toArray, List.getElem_cons_zero, List.getElem_cons_succ]
      refine wpAnyH_take (i := 2) (oi := _) (v := ?v2) rfl (by kernel_rfl) (by kernel_rfl) (by kernel_rfl) (fun _ _ _ h => h) (Or.inl ⟨by rfl, ?h2⟩) (by assumption) ?_
      case h2 => (intro w hSw; (try dsimp only at hSw); go_simp; (try with_reducible rfl))
      simp only [Act.put, List.setIfInBounds_toArray, List.set_cons_zero, List.set_cons_succ, List.getElem_toArray, List.getElem_cons_zero, List.getElem_cons_succ]
      refine wpAnyH_take (i := 3) (oi := _) (v := ?v3) rfl (by kernel_rfl) (by kernel_rfl) (by kernel_rfl) (fun _ _ _ h => h) (Or.inl ⟨by rfl, ?h3⟩) (by assumption) ?_
      case h3 => (intro w hSw; (try dsimp only at hSw); go_simp; (try with_reducible rfl))
      simp only [Act.put, List.setIfInBounds_toArray, List.set_cons_zero, List.set_cons_succ, List.getElem_toArray, List.getElem_cons_zero, List.getElem_cons_succ]
      refine wpAnyH_take (i := 5) (oi := _) (v := ?v5) rfl (by kernel_rfl) (by kernel_rfl) (by kernel_rfl) (fun _ _ _ h => h) (Or.inl ⟨by rfl, ?h5⟩) (by assumption) ?_
      case h5 => (intro w hSw; (try dsimp only at hSw); go_simp; (try with_reducible rfl))
      simp only [Act.put, List.setIfInBounds_toArray, List.set_cons_zero, List.set_cons_succ, List.getElem_toArray, List.getElem_cons_zero, List.getElem_cons_succ]
      refine wpAnyH_take (i := 6) (oi := _) (v := ?v6) rfl (by kernel_rfl) (by kernel_rfl) (by kernel_rfl) (fun _ _ _ h => h) (Or.inl ⟨by rfl, ?h6⟩) (by assumption) ?_
      case h6 => (intro w hSw; (try dsimp only at hSw); go_simp; (try with_reducible rfl))
      simp only [Act.put, List.setIfInBounds_toArray, List.set_cons_zero, List.set_cons_succ, List.getElem_toArray, List.getElem_cons_zero, List.getElem_cons_succ]
      refine wpAnyH_take (i := 7) (oi := _) (v := ?v7) rfl (by kernel_rfl) (by kernel_rfl) (by kernel_rfl) (fun _ _ _ h => h) (Or.inl ⟨by rfl, ?h7⟩) (by assumption) ?_
      case h7 => (intro w hSw; (try dsimp only at hSw); go_simp; (try with_reducible rfl))
      simp only [Act.put, List.setIfInBounds_toArray, List.set_cons_zero, List.set_cons_succ, List.getElem_toArray, List.getElem_cons_zero, List.getElem_cons_succ]
      refine wpAnyH_take (i := 8) (oi := _) (v := ?v8) rfl (by kernel_rfl) (by kernel_rfl) (by kernel_rfl) (fun _ _ _ h => h) (Or.inl ⟨by rfl, ?h8⟩) (by assumption) ?_
      case h8 => (intro w hSw; (try dsimp only at hSw); go_simp; (try with_reducible rfl))
      simp only [Act.put, List.setIfInBounds_toArray, List.set_cons_zero, List.set_cons_succ, List.getElem_toArray, List.getElem_cons_zero, List.getElem_cons_succ]
      refine wpAnyH_take (i := 9) (oi := _) (v := ?v9) rfl (by kernel_rfl) (by kernel_rfl) (by kernel_rfl) (fun _ _ _ h => h) (Or.inl ⟨by rfl, ?h9⟩) (by assumption) ?_
      case h9 => (intro w hSw; (try dsimp only at hSw); go_simp; (try with_reducible rfl))
      simp only [Act.put, List.setIfInBounds_toArray, List.set_cons_zero, List.set_cons_succ, List.getElem_toArray, List.getElem_cons_zero, List.getElem_cons_succ]
      refine wpAnyH_take (i := 10) (oi := _) (v := ?v10) rfl (by kernel_rfl) (by kernel_rfl) (by kernel_rfl) (fun _ _ _ h => h) (Or.inl ⟨by rfl, ?h10⟩) (by assumption) ?_
      case h10 => (intro w hSw; (try dsimp only at hSw); go_simp; (try with_reducible rfl))
      simp only [Act.put, List.setIfInBounds_toArray, List.set_cons_zero, List.set_cons_succ, List.getElem_toArray, List.getElem_cons_zero, List.getElem_cons_succ]
      refine wpAnyH_take (i := 11) (oi := _) (v := ?v11) rfl (by kernel_rfl) (by kernel_rfl) (by kernel_rfl) (fun _ _ _ h => h) (Or.inl ⟨by rfl, ?h11⟩) (by assumption) ?_
      case h11 => (intro w hSw; (try dsimp only at hSw); go_simp; (try with_reducible rfl))
      simp only [Act.put, List.setIfInBounds_toArray, List.set_cons_zero, List.set_cons_succ, List.getElem_toArray, List.getElem_cons_zero, List.getElem_cons_succ]
      refine wpAnyH_take (i := 12) (oi := _) (v := ?v12) rfl (by kernel_rfl) (by kernel_rfl) (by kernel_rfl) (fun _ _ _ h => h) (Or.inl ⟨by rfl, ?h12⟩) (by assumption) ?_
      case h12 => (intro w hSw; (try dsimp only at hSw); go_simp; (try with_reducible rfl))
      simp only [Act.put, List.setIfInBounds_toArray, List.set_cons_zero, List.set_cons_succ, List.getElem_toArray, List.getElem_cons_zero, List.getElem_cons_succ]
      refine wpAnyH_take (i := 13) (oi := _) (v := ?v13) rfl (by kernel_rfl) (by kernel_rfl) (by kernel_rfl) (fun _ _ _ h => h) (Or.inl ⟨by rfl, ?h13⟩) (by assumption) ?_
      case h13 => (intro w hSw; (try dsimp only at hSw); go_simp; (try with_reducible rfl))
      simp only [Act.put, List.setIfInBounds_toArray, List.set_cons_zero, List.set_cons_succ, List.getElem_toArray, List.getElem_cons_zero, List.getElem_cons_succ]
      refine wpAnyH_take (i := 14) (oi := _) (v := ?v14) rfl (by kernel_rfl) (by kernel_rfl) (by kernel_rfl) (fun _ _ _ h => h) (Or.inl ⟨by rfl, ?h14⟩) (by assumption) ?_
      case h14 => (intro w hSw; (try dsimp only at hSw); go_simp; (try with_reducible rfl))
      simp only [Act.put, List.setIfInBounds_toArray, List.set_cons_zero, List.set_cons_succ, List.getElem_toArray, List.getElem_cons_zero, List.getElem_cons_succ]
      refine wpAnyH_take (i := 15) (oi := _) (v := ?v15) rfl (by kernel_rfl) (by kernel_rfl) (by kernel_rfl) (fun _ _ _ h => h) (Or.inl ⟨by rfl, ?h15⟩) (by assumption) ?_
      case h15 => (intro w hSw; (try dsimp only at hSw); go_simp; (try with_reducible rfl))
      simp only [Act.put, List.setIfInBounds_toArray, List.set_cons_zero, List.set_cons_succ, List.getElem_toArray, List.getElem_cons_zero, List.getElem_cons_succ]
      refine wpAnyH_ready (rs := [4, 16]) (by kernel_rfl) (by simp) ?_
      refine AllReadyH.cons (o := _) rfl (fun K hK => ?_) (AllReadyH.cons (o := _) rfl (fun K hK => ?_) AllReadyH.nil)
      ·go_simp
       refine hK.out _ _ ?_ (fun hHeld4 => ?_)
       ·go_keep
       clear hK K
       try simp only [Act.put, List.setIfInBounds_toArray, List.set_cons_zero, List.set_cons_succ, List.getElem_toArray, List.getElem_cons_zero, List.getElem_cons_succ]
       refine wpAnyH_ready (rs := [16]) (by kernel_rfl) (by simp) ?_
       refine AllReadyH.cons (o := _) rfl (fun K hK => ?_) AllReadyH.nil
       go_simp
       refine hK.out _ _ ?_ (fun hHeld16 => ?_)
       ·go_keep
       clear hK K
       try simp only [Act.put, List.setIfInBounds_toArray, List.set_cons_zero, List.set_cons_succ, List.getElem_toArray, List.getElem_cons_zero, List.getElem_cons_succ]
       refine wpAnyH_ready (rs := [17]) (by kernel_rfl) (by simp) ?_
       refine AllReadyH.cons (o := _) rfl (fun K hK => ?_) AllReadyH.nil
       (refine step_d (v := .slice Aa L.length na) rfl (.tmp 94) (.tmp 106) _ rfl EvA.mon eiEv (by decide) (by decide) rfl (HOW.out _ (by go_grown)) rfl (HROW.out _ rfl) HL.out (by simp; omega) ?_; intro v1 w5 hown5 hb5 hg5 hv5; have HM := hid (HMK.out _ _ hown5 hg5 hv5); have hsh5 := OwnP.shape hown5; simp only [List.length_append, List.length_singleton] at hsh5; obtain ⟨A1, n1, hv1⟩ := hsh5; subst hv1; have hk5 := HKC.out w5 HM.out.keep ((World.cell?_of_block HM.out.gk).trans y2); have HK20 := hid (HKS.out _ _ HM.out); have hc5 : w5.cell? ⟨g, 12, none⟩ = some (.slice Aa L.length na) := (World.cell?_of_block HM.out.gk).trans C4.out; have hf5 : w5.frozen? ⟨g, 12, none⟩ = false := (World.frozen?_of_block HM.out.gk).trans F4.out; clear hown5 hb5 hg5 hv5)
       refine hK.out _ _ ?_ (fun hHeld17 => ?_)
       ·(first | exact hk5 | exact HK20.out | go_keep)
       clear hK K
       try simp only [Act.put, List.setIfInBounds_toArray, List.set_cons_zero, List.set_cons_succ, List.getElem_toArray, List.getElem_cons_zero, List.getElem_cons_succ]
       refine wpAnyH_take (i := 18) (oi := _) (v := ?v18) rfl (by kernel_rfl) (by kernel_rfl) (by kernel_rfl) (fun _ _ _ h => h) (Or.inl ⟨by rfl, ?h18⟩) (by assumption) ?_
       case h18 => (intro w hSw; (try dsimp only at hSw); go_simp; (try with_reducible rfl))
       simp only [Act.put, List.setIfInBounds_toArray, List.set_cons_zero, List.set_cons_succ, List.getElem_toArray, List.getElem_cons_zero, List.getElem_cons_succ]
       refine wpAnyH_take (i := 19) (oi := _) (v := ?v19) rfl (by kernel_rfl) (by kernel_rfl) (by kernel_rfl) (fun _ _ _ h => h) (Or.inl ⟨by rfl, ?h19⟩) (by assumption) ?_
       case h19 => (intro w hSw; (try dsimp only at hSw); go_simp; (try with_reducible rfl))
       simp only [Act.put, List.setIfInBounds_toArray, List.set_cons_zero, List.set_cons_succ, List.getElem_toArray, List.getElem_cons_zero, List.getElem_cons_succ]
       refine wpAnyH_ready (rs := [20]) (by kernel_rfl) (by simp) ?_
       refine AllReadyH.cons (o := _) rfl (fun K hK => ?_) AllReadyH.nil
       go_simp
       refine hK.out _ _ ?_ (fun hHeld20 => ?_)
       ·(first | exact hk5 | exact HK20.out | go_keep)
       clear hK K
       try simp only [Act.put, List.setIfInBounds_toArray, List.set_cons_zero, List.set_cons_succ, List.getElem_toArray, List.getElem_cons_zero, List.getElem_cons_succ]
       refine wpAnyH_done (by kernel_rfl) ?_ _
       go_wp2_with fail
       go_meet
       case rel => exact HM.out.st
      ·go_simp
       refine hK.out _ _ ?_ (fun hHeld16 => ?_)
       ·go_keep
       clear hK K
       try simp only [Act.put, List.setIfInBounds_toArray, List.set_cons_zero, List.set_cons_succ, List.getElem_toArray, List.getElem_cons_zero, List.getElem_cons_succ]
       refine wpAnyH_ready (rs := [4]) (by kernel_rfl) (by simp) ?_
       refine AllReadyH.cons (o := _) rfl (fun K hK => ?_) AllReadyH.nil
       go_simp
       refine hK.out _ _ ?_ (fun hHeld4 => ?_)
       ·go_keep
       clear hK K
       try simp only [Act.put, List.setIfInBounds_toArray, List.set_cons_zero, List.set_cons_succ, List.getElem_toArray, List.getElem_cons_zero, List.getElem_cons_succ]
       refine wpAnyH_ready (rs := [17]) (by kernel_rfl) (by simp) ?_
       refine AllReadyH.cons (o := _) rfl (fun K hK => ?_) AllReadyH.nil
       (refine step_d (v := .slice Aa L.length na) rfl (.tmp 94) (.tmp 106) _ rfl EvA.mon eiEv (by decide) (by decide) rfl (HOW.out _ (by go_grown)) rfl (HROW.out _ rfl) HL.out (by simp; omega) ?_; intro v1 w5 hown5 hb5 hg5 hv5; have HM := hid (HMK.out _ _ hown5 hg5 hv5); have hsh5 := OwnP.shape hown5; simp only [List.length_append, List.length_singleton] at hsh5; obtain ⟨A1, n1, hv1⟩ := hsh5; subst hv1; have hk5 := HKC.out w5 HM.out.keep ((World.cell?_of_block HM.out.gk).trans y2); have HK20 := hid (HKS.out _ _ HM.out); have hc5 : w5.cell? ⟨g, 12, none⟩ = some (.slice Aa L.length na) := (World.cell?_of_block HM.out.gk).trans C4.out; have hf5 : w5.frozen? ⟨g, 12, none⟩ = false := (World.frozen?_of_block HM.out.gk).trans F4.out; clear hown5 hb5 hg5 hv5)
       refine hK.out _ _ ?_ (fun hHeld17 => ?_)
       ·(first | exact hk5 | exact HK20.out | go_keep)
       clear hK K
       try simp only [Act.put, List.setIfInBounds_toArray, List.set_cons_zero, List.set_cons_succ, List.getElem_toArray, List.getElem_cons_zero, List.getElem_cons_succ]
       refine wpAnyH_take (i := 18) (oi := _) (v := ?vb18) rfl (by kernel_rfl) (by kernel_rfl) (by kernel_rfl) (fun _ _ _ h => h) (Or.inl ⟨by rfl, ?hb18⟩) (by assumption) ?_
       case hb18 => (intro w hSw; (try dsimp only at hSw); go_simp; (try with_reducible rfl))
       simp only [Act.put, List.setIfInBounds_toArray, List.set_cons_zero, List.set_cons_succ, List.getElem_toArray, List.getElem_cons_zero, List.getElem_cons_succ]
       refine wpAnyH_take (i := 19) (oi := _) (v := ?vb19) rfl (by kernel_rfl) (by kernel_rfl) (by kernel_rfl) (fun _ _ _ h => h) (Or.inl ⟨by rfl, ?hb19⟩) (by assumption) ?_
       case hb19 => (intro w hSw; (try dsimp only at hSw); go_simp; (try with_reducible rfl))
       simp only [Act.put, List.setIfInBounds_toArray, List.set_cons_zero, List.set_cons_succ, List.getElem_toArray, List.getElem_cons_zero, List.getElem_cons_succ]
       refine wpAnyH_ready (rs := [20]) (by kernel_rfl) (by simp) ?_
       refine AllReadyH.cons (o := _) rfl (fun K hK => ?_) AllReadyH.nil
       go_simp
       refine hK.out _ _ ?_ (fun hHeld20 => ?_)
       ·(first | exact hk5 | exact HK20.out | go_keep)
       clear hK K
       try simp only [Act.put, List.setIfInBounds_toArray, List.set_cons_zero, List.set_cons_succ, List.getElem_toArray, List.getElem_cons_zero, List.getElem_cons_succ]
       refine wpAnyH_done (by kernel_rfl) ?_ _
       go_wp2_with fail
       go_meet
       case rel => exact HM.out.st
     case rest =>
      obtain ⟨⟨va5, hst5, hvv5⟩, hkp5, hbl5⟩ := hcut
      obtain ⟨w5, hw5⟩ : ∃ z : World, z = wc := ⟨wc, rfl⟩
      subst hw5
      have c5n := (hst5.cells hi3).2.2.2.1
      have f5n := hst5.frz (9 + i)
      have HST5 := hid hst5
      clear hst5
      clear y0 y1 y2 y3 y4 y5 y6 y7 y8
      go_upto_region 14 with (fail)
      go_cut [115] (fun _ wx => MkR w4 g (Value.slice Aa L.length na) v (setK n i (n i + 1)) (L ++ [{d := ⟨(i : Int), n i + 1⟩, o := ⟨path, act, s, nn⟩, seen := (K i).2}]) K wx)
      case first =>
       go_wp2_with fail
       refine wp_region_held_drew (S := fun _ => True) (by kernel_rfl) trivial (fun hHeld => ?_)
       refine wpAnyH_take (i := 0) (oi := _) (v := ?vc0) rfl (by kernel_rfl) (by kernel_rfl) (by kernel_rfl) (fun _ _ _ h => h) (Or.inl ⟨by rfl, ?hc0⟩) (by assumption) ?_
       case hc0 => (intro w hSw; (try dsimp only at hSw); go_simp; (try with_reducible rfl))
       simp only [Act.put, List.setIfInBounds_toArray, List.set_cons_zero, List.set_cons_succ, List.getElem_toArray, List.getElem_cons_zero]
       refine wpAnyH_take (i := 1) (oi := _) (v := ?vc1) rfl (by kernel_rfl) (by kernel_rfl) (by kernel_rfl) (fun _ _ _ h => h) (Or.inl ⟨by rfl, ?hc1⟩) (by assumption) ?_
       case hc1 => (intro w hSw; (try dsimp only at hSw); go_simp; (try with_reducible rfl))
       simp only [Act.put, List.setIfInBounds_toArray, List.set_cons_zero, List.set_cons_succ, List.getElem_toArray, List.getElem_cons_zero, List.getElem_cons_succ]
       refine wpAnyH_take (i := 2) (oi := _) (v := ?vc2) rfl (by kernel_rfl) (by kernel_rfl) (by kernel_rfl) (fun _ _ _ h => h) (Or.inl ⟨by rfl, ?hc2⟩) (by assumption) ?_
       case hc2 => (intro w hSw; (try dsimp only at hSw); go_simp; (try with_reducible rfl))
       simp only [Act.put, List.setIfInBounds_toArray, List.set_cons_zero, List.set_cons_succ, List.getElem_toArray, List.getElem_cons_zero, List.getElem_cons_succ]
       refine wpAnyH_take (i := 3) (oi := _) (v := ?vc3) rfl (by kernel_rfl) (by kernel_rfl) (by kernel_rfl) (fun _ _ _ h => h) (Or.inl ⟨by rfl, ?hc3⟩) (by assumption) ?_
       case hc3 => (intro w hSw; (try dsimp only at hSw); go_simp; (try with_reducible rfl))
       simp only [Act.put, List.setIfInBounds_toArray, List.set_cons_zero, List.set_cons_succ, List.getElem_toArray, List.getElem_cons_zero, List.getElem_cons_succ]
       refine wpAnyH_take (i := 4) (oi := _) (v := ?vc4) rfl (by kernel_rfl) (by kernel_rfl) (by kernel_rfl) (fun _ _ _ h => h) (Or.inl ⟨by rfl, ?hc4⟩) (by assumption) ?_
       case hc4 => (intro w hSw; (try dsimp only at hSw); go_simp; (try with_reducible rfl))
       simp only [Act.put, List.setIfInBounds_toArray, List.set_cons_zero, List.set_cons_succ, List.getElem_toArray, List.getElem_cons_zero, List.getElem_cons_succ]
       refine wpAnyH_take (i := 7) (oi := _) (v := ?vc7) rfl (by kernel_rfl) (by kernel_rfl) (by kernel_rfl) (fun _ _ _ h => h) (Or.inl ⟨by rfl, ?hc7⟩) (by assumption) ?_
       case hc7 => (intro w hSw; (try dsimp only at hSw); go_simp; (try with_reducible rfl))
       simp only [Act.put, List.setIfInBounds_toArray, List.set_cons_zero, List.set_cons_succ, List.getElem_toArray, List.getElem_cons_zero, List.getElem_cons_succ]
       refine wpAnyH_take (i := 8) (oi := _) (v := ?vc8) rfl (by kernel_rfl) (by kernel_rfl) (by kernel_rfl) (fun _ _ _ h => h) (Or.inl ⟨by rfl, ?hc8⟩) (by assumption) ?_
       case hc8 => (intro w hSw; (try dsimp only at hSw); go_simp; (try with_reducible rfl))
       simp only [Act.put, List.setIfInBounds_toArray, List.set_cons_zero, List.set_cons_succ, List.getElem_toArray, List.getElem_cons_zero, List.getElem_cons_succ]
       refine wpAnyH_ready (rs := [5]) (by kernel_rfl) (by simp) ?_
       refine AllReadyH.cons (o := _) rfl (fun K hK => ?_) AllReadyH.nil
       go_simp
       refine hK.out _ _ ?_ (fun hHeld5 => ?_)
       ·trivial
       clear hK K
       try simp only [Act.put, List.setIfInBounds_toArray, List.set_cons_zero, List.set_cons_succ, List.getElem_toArray, List.getElem_cons_zero, List.getElem_cons_succ]
       refine wpAnyH_take (i := 6) (oi := _) (v := ?vc6) rfl (by kernel_rfl) (by kernel_rfl) (by kernel_rfl) (fun _ _ _ h => h) (Or.inl ⟨by rfl, ?hc6⟩) (by assumption) ?_
       case hc6 => (intro w hSw; (try dsimp only at hSw); go_simp; (try with_reducible rfl))
       simp only [Act.put, List.setIfInBounds_toArray, List.set_cons_zero, List.set_cons_succ, List.getElem_toArray, List.getElem_cons_zero, List.getElem_cons_succ]
       refine wpAnyH_take (i := 9) (oi := _) (v := ?vc9) rfl (by kernel_rfl) (by kernel_rfl) (by kernel_rfl) (fun _ _ _ h => h) (Or.inl ⟨by rfl, ?hc9⟩) (by assumption) ?_
       case hc9 => (intro w hSw; (try dsimp only at hSw); go_simp; (try with_reducible rfl))
       simp only [Act.put, List.setIfInBounds_toArray, List.set_cons_zero, List.set_cons_succ, List.getElem_toArray, List.getElem_cons_zero, List.getElem_cons_succ]
       refine wpAnyH_ready (rs := [10]) (by kernel_rfl) (by simp) ?_
       refine AllReadyH.cons (o := _) rfl (fun K hK => ?_) AllReadyH.nil
       go_simp
       refine hK.out _ _ ?_ (fun hHeld10 => ?_)
       ·trivial
       clear hK K
       try simp only [Act.put, List.setIfInBounds_toArray, List.set_cons_zero, List.set_cons_succ, List.getElem_toArray, List.getElem_cons_zero, List.getElem_cons_succ]
       refine wpAnyH_done (by kernel_rfl) ?_ _
       go_wp2_with fail
       go_meet
       case rel =>
        have hD := HST5.out.grow (Below.refl w5.heap.size w5).drew
        exact ⟨⟨va5, hD.setN hi3 _, hvv5⟩, fun b hb => (Below.heap_setCell _ _ _ _ hb.1).trans (hkp5 b hb), (hbl5.drew).setCell (Nat.le_refl _) _⟩
      case rest =>
       obtain ⟨⟨va6, hst6, hvv6⟩, hkp6, hbl6⟩ := hcut
       obtain ⟨w6, hw6⟩ : ∃ z : World, z = wc := ⟨wc, rfl⟩
       subst hw6
       clear c5n f5n
       have hown := HST.out.own.lt
       have hgw6 := hst6.lt
       have hs64 : w4.heap.size ≤ w6.heap.size := hbl6.size
       have hkq : ∀ b, w.heap.size ≤ b → b < w4.heap.size → w6.heap[b]? = w4.heap[b]? := fun b h1 h2 => hkp6 b ⟨by omega, h2, fun e => by have := (hown b e).2; omega⟩
       have hq9b : Hid (w6.heap[q9]? = some (.cells #[xe, xk, xc] 29 (0, 0))) := hid ((hkq q9 (by omega) (by omega)).trans ((HB34.out.block q9 hs9).trans HG9.out))
       have hrq : Hid (PT.rda w6 (fun b => w2.heap.size ≤ b ∧ b < w3.heap.size) xe xk) := hid (rda_up (fun b hb => (hkq b (by omega) (by have := hb.2; omega)).trans (HB34.out.block b hb.2)) (fun b hb => hb) _ _ _ HR9.out)
       have hsq : Hid (SlA w6 (fun b => w2.heap.size ≤ b ∧ b < w3.heap.size) 3 SpE xc PC) := hid (HS9.out.up (fun b hb => (hkq b (by omega) (by have := hb.2; omega)).trans (HB34.out.block b hb.2)) (fun b hb => hb) fun _ _ _ h => h)
       obtain ⟨A9, n9, B9, m9, e1, e2⟩ := rda_shape hrq.out
       subst e1; subst e2
       obtain ⟨C9, k9, e3⟩ := hsq.out.shape
       subst e3
       have HST6 := hid hst6
       have hq96 : q9 < w6.heap.size := by omega
       have hHK6 : Hid (∀ W : World, Below w6.heap.size w6 W → (W.cell? ⟨g, i * 3, none⟩ = some (.slice Ai (K i).1.es.length ni) ∧ W.cell? ⟨g, i * 3 + 1, none⟩ = some (.slice Bi (K i).1.ks.length mi) ∧ W.cell? ⟨g, i * 3 + 2, none⟩ = some (.slice Ci (K i).2.length ki) ∧ W.cell? ⟨q9, 0, none⟩ = some (.slice A9 PT.es.length n9) ∧ W.cell? ⟨q9, 1, none⟩ = some (.slice B9 PT.ks.length m9) ∧ W.cell? ⟨q9, 2, none⟩ = some (.slice C9 PC.length k9))) := fun W hW => by
        obtain ⟨a0, a1, a2, _, _⟩ := (HST6.out.grow hW).cells hi3
        rw [HVI.out] at a0 a1 a2
        have g0 := (hW.block q9 hq96).trans hq9b.out
        exact ⟨a0, a1, a2, cell_cells (i := 0) g0, cell_cells (i := 1) g0, cell_cells (i := 2) g0⟩
       have HK6 := hHK6
       have HRD6 : Hid (∀ W : World, Below w6.heap.size w6 W → ((K i).1.rd W W.heap.size (.slice Ai (K i).1.es.length ni) (.slice Bi (K i).1.ks.length mi) ∧ SlP W W.heap.size 3 SpE (.slice Ci (K i).2.length ki) (K i).2 ∧ PT.rd W W.heap.size (.slice A9 PT.es.length n9) (.slice B9 PT.ks.length m9) ∧ SlP W W.heap.size 3 SpE (.slice C9 PC.length k9) PC)) := fun W hW => by
        have hs := HST6.out.grow hW
        have r1 := hs.rd hi3
        have r2 := hs.slp hi3
        rw [HVI.out] at r1 r2
        exact ⟨r1, r2, rda_rd hrq.out (fun b hb => by have := hb.2; omega) hW, hsq.out.slp (fun b hb => by have := hb.2; omega) hW⟩
       have ha0 : appI (K i).1 ⟨path, act, s, nn⟩ ⟨(i : Int), n i + 1⟩ = 0 := HPe.out.symm
       have hjk := jn_ok hki.ok (app_right ha0).1
       have hz1 : PT.sz ≤ 4000 := by rw [HPT.out]; have := (app_right ha0).2; omega
       have hz2 : PC.length ≤ 20000 := by rw [HPC.out]; have := app_len ha0; omega
       rw [← HPT.out, ← HPC.out] at hjk
       obtain ⟨⟨JT, JC⟩, HJJ⟩ : ∃ q, Hid (jn (K i) (PT, PC) = q) := ⟨_, rfl⟩
       have HJ1 : Hid (jnE (K i).1 PT (K i).2 PC = 0) := hjk.1
       have HJ2 : Hid (jnT (K i).1 PT (K i).2 PC = JT) := hjk.2.1.trans (congrArg Prod.fst HJJ.out)
       have HJ3 : Hid (jnC (K i).1 PT (K i).2 PC = JC) := hjk.2.2.trans (congrArg Prod.snd HJJ.out)
       have HA0 := hid ha0
       have hg6 : g ≠ w6.heap.size := by omega
       have hg6' : w6.heap.size ≠ g := by omega
       have hq6 : q9 ≠ w6.heap.size := by omega
       have hq6' : w6.heap.size ≠ q9 := by omega
       obtain ⟨y0, y1, y2, y3, y4, y5⟩ := HK6.out _ (Below.refl _ _)
       clear hjk ha0 hst6 hkq
       go_upto_region 15 with (fail)
       go_cut [13, 14] (fun s9 s10 wx => s10 = .int .i64 0 ∧ BoxG w6.heap.size w6 29 JT JC s9 wx)
       case first =>
        go_region_held3 (fun W : World => W.cell? ⟨g, i * 3, none⟩ = some (.slice Ai (K i).1.es.length ni) ∧ W.cell? ⟨g, i * 3 + 1, none⟩ = some (.slice Bi (K i).1.ks.length mi) ∧ W.cell? ⟨g, i * 3 + 2, none⟩ = some (.slice Ci (K i).2.length ki) ∧ W.cell? ⟨q9, 0, none⟩ = some (.slice A9 PT.es.length n9) ∧ W.cell? ⟨q9, 1, none⟩ = some (.slice B9 PT.ks.length m9) ∧ W.cell? ⟨q9, 2, none⟩ = some (.slice C9 PC.length k9))
         (first | go_keep | exact HK6.out _ hbr4.out | exact HK6.out _ (hbr4.out.trans (by go_grown)) | exact HK6.out _ (((hbr4.out.setCell (by first | (simp; done) | (simp; omega)) _).setCell (by first | (simp; done) | (simp; omega)) _).setCell (by first | (simp; done) | (simp; omega)) _) | exact HK6.out _ (by go_grown) | fail)
         (first
          | (go_at_call 32; go_loud ((refine (cJoin_any (K i).2 PC (K i).1 PT _ _ _ _ _ _ _ (HRD6.out _ (by go_grown)).1 (HRD6.out _ (by go_grown)).2.2.1 (HRD6.out _ (by go_grown)).2.1 (HRD6.out _ (by go_grown)).2.2.2 (by omega) hz1 (by omega) hz2).mono ?_); rw [HJ1.out, HJ2.out, HJ3.out]; rintro e w4 ⟨xe4, xk4, xc4, rfl, hrd4, hsl4, hb⟩; have hbr4 : Hid (Below w6.heap.size w6 w4) := hid (Below.trans (by go_grown) (hb.mono (by first | omega | (simp; done) | (simp; omega)))); have hsr4 := hbr4.out.size; obtain ⟨Ar4, nr4, Br4, mr4, hv1, hv2⟩ := rda_shape hrd4; subst hv1; subst hv2; obtain ⟨Dr4, kr4, hv3⟩ := hsl4.shape; subst hv3; have HR4 := hid hrd4; have HL4 := hid hsl4; clear hrd4 hsl4; (first | (have HG4 : Hid (w4.heap[w6.heap.size]? = some (.cells #[.slice none 0 0, .slice none 0 0, .slice none 0 0] 29 (0, 0))) := hid (z_newD hb); have k0 : w4.cell? ⟨w6.heap.size, 0, none⟩ = some (.slice none 0 0) := cell_cells (i := 0) HG4.out; have k1 : w4.cell? ⟨w6.heap.size, 1, none⟩ = some (.slice none 0 0) := cell_cells (i := 1) HG4.out; have k2 : w4.cell? ⟨w6.heap.size, 2, none⟩ = some (.slice none 0 0) := cell_cells (i := 2) HG4.out; have z0 := cells_frz (i := 0) HG4.out; have z1 := cells_frz (i := 1) HG4.out; have z2 := cells_frz (i := 2) HG4.out) | (have HG4 : Hid (w4.heap[w6.heap.size]? = some (.cells #[.slice none 0 0, .slice none 0 0, .slice none 0 0] 29 (0, 0))) := hid (z_new hb); have k0 : w4.cell? ⟨w6.heap.size, 0, none⟩ = some (.slice none 0 0) := cell_cells (i := 0) HG4.out; have k1 : w4.cell? ⟨w6.heap.size, 1, none⟩ = some (.slice none 0 0) := cell_cells (i := 1) HG4.out; have k2 : w4.cell? ⟨w6.heap.size, 2, none⟩ = some (.slice none 0 0) := cell_cells (i := 2) HG4.out; have z0 := cells_frz (i := 0) HG4.out; have z1 := cells_frz (i := 1) HG4.out; have z2 := cells_frz (i := 2) HG4.out) | skip); clear hb)))
        all_goals
         go_wp2_with fail
         go_meet
         case rel => exact ⟨rfl, (by first | exact boxg_new hbr4.out hsr4 (by first | omega | (simp; done) | (simp; omega)) HR4.out HL4.out | exact boxg_set HG4.out hbr4.out (by omega) (by first | (simp; done) | (simp; omega)) HR4.out HL4.out)⟩
       case rest =>
        obtain ⟨rfl, q, rfl, hqm, xe', xk', xc', hG, hrd, hsl, hbz⟩ := hcut
        obtain ⟨w7, hwq⟩ : ∃ z : World, z = wc := ⟨wc, rfl⟩
        subst hwq
        obtain ⟨Ac, nc, Ad, nd, rfl, rfl⟩ := rda_shape hrd
        obtain ⟨Af, nf, rfl⟩ := hsl.shape
        have hst7 := HST6.out.grow hbz
        have d0 := cell_cells (i := 0) hG
        have d1 := cell_cells (i := 1) hG
        have d2 := cell_cells (i := 2) hG
        simp only [List.getElem?_toArray, List.getElem?_cons_zero, List.getElem?_cons_succ] at d0 d1 d2
        clear y0 y1 y2 y3 y4 y5
        obtain ⟨e0, e1, e2, _⟩ := HK6.out _ hbz
        have f0 := hst7.frz (i * 3)
        have f1 := hst7.frz (i * 3 + 1)
        have f2 := hst7.frz (i * 3 + 2)
        have HS := hid hst7
        have HRr := hid hrd
        have HSs := hid hsl
        have hqg : q ≠ g := by omega
        have hgq9 : g ≠ q := by omega
        have HBZ7 := hid hbz
        have hown6 := HST6.out.own.lt
        clear hG hrd hsl hst7 hbz
        go_upto_region 16 with (fail)
        go_region_held3 (fun W => W.cell? ⟨q, 0, none⟩ = some (.slice Ac JT.es.length nc) ∧ W.cell? ⟨q, 1, none⟩ = some (.slice Ad JT.ks.length nd) ∧ W.cell? ⟨q, 2, none⟩ = some (.slice Af JC.length nf)) (first | go_keep | fail) (fail)
        all_goals
         go_wp2_with fail
         go_ret
         rw [HA.out, if_pos HA0.out]
         have hok : ∀ b, (w6.heap.size ≤ b ∧ b < w7.heap.size) → okS w7 g va6 b := fun b hb => ⟨by omega, hb.2, fun e => by have := (hown6 b e).2; omega⟩
         have hne : ∀ k, k ≠ g → (((w7.setCell ⟨g, i * 3, none⟩ (.slice Ac JT.es.length nc)).setCell ⟨g, i * 3 + 1, none⟩ (.slice Ad JT.ks.length nd)).setCell ⟨g, i * 3 + 2, none⟩ (.slice Af JC.length nf)).drew.heap[k]? = w7.heap[k]? := fun k hk => (Below.heap_setCell _ _ _ _ hk).trans ((Below.heap_setCell _ _ _ _ hk).trans (Below.heap_setCell _ _ _ _ hk))
         have HB1 : Below g w (((w7.setCell ⟨g, i * 3, none⟩ (.slice Ac JT.es.length nc)).setCell ⟨g, i * 3 + 1, none⟩ (.slice Ad JT.ks.length nd)).setCell ⟨g, i * 3 + 2, none⟩ (.slice Af JC.length nf)).drew := ((((((HBW.out.mono (Nat.le_of_lt hgl)).trans hbl6).trans (HBZ7.out.mono (Nat.le_of_lt hgw6))).setCell (Nat.le_refl _) _).setCell (Nat.le_refl _) _).setCell (Nat.le_refl _) _).drew
         have h9 := (HS.out.setK (X := (JT, JC)) hi3 hok HRr.out HSs.out).grow ((Below.refl _ _).drew)
         rw [← HJJ.out, HPT.out, HPC.out] at h9
         refine ⟨rfl, fun b hb => ?_, HB1, setK v i (.slice Ac JT.es.length nc, .slice Ad JT.ks.length nd, .slice Af JC.length nf), va6, h9, hvv6.imp (fun e => e) fun ⟨b, e, h⟩ => ⟨b, e, by omega⟩⟩
         exact (hne b hb.1).trans ((HBZ7.out.block b (by have := hb.2.1; omega)).trans ((hkp6 b ⟨hb.1, by have := hb.2.1; omega, hb.2.2⟩).trans (HBW.out.block b hb.2.1)))
    ·have hPn : P ≠ 0 := hP
     have hPd : (P == 0) = false := by simpa using hP
     go_wp2_with fail
     go_ret
     rw [HA.out, if_neg (by rw [← HPe.out]; exact hP)]
     exact ⟨rfl, fun b hb => HBW.out.block b hb.2.1, HBW.out.mono (Nat.le_of_lt hgl), v, va, HST4.out, Or.inl rfl⟩
theorem step_any {s : SS} {g : Nat} {v : Nat → V3} {va : Value} (a : ActP) (vp : Value) (w : World) (h : StB w g v s.n va s.l s.K) (hi : SInv s.l s.n s.K) (hl : s.l.length ≤ 30) (hp : SlA w (okS w g va) 1 StE vp a.o.path) (hw : 0 ≤ a.who ∧ a.who ≤ 255 ∧ 0 ≤ a.fr ∧ a.fr ≤ 255) (ho : a.o.Ok) (hpl : a.o.path.length ≤ 1000) :
  Calls Tryz.prog 38 #[.pointer (some ⟨g, 0, none⟩), .agg #[.int .u8 a.who, .int .u8 a.fr, .bool a.hears, vp, .int .i64 a.o.act, .string a.o.s, .int .i64 a.o.n]] w (StepR w g va (actS s a)) := by
 cases hh : a.hears
 ·have := step_make a vp w h hi hl hh hp hw ho hpl
  rw [hh] at this
  exact this
 ·have := step_hear a vp w h hi hl hh (hp.slp (fun b hb => hb.2.1) (Below.refl _ _)) hw
  rw [hh] at this
  exact this
def stL (l : List ActP) : SS := l.foldl actS SS0
theorem stL_snoc (l : List ActP) (a : ActP) : stL (l ++ [a]) = actS (stL l) a := by unfold stL; rw [List.foldl_append]; rfl
theorem stL_take {l : List ActP} {k : Nat} {a : ActP} (h : l[k]? = some a) : stL (l.take (k + 1)) = actS (stL (l.take k)) a := by rw [List.take_add_one, h]; exact stL_snoc _ _
theorem stL_inv (l : List ActP) : SInv (stL l).l (stL l).n (stL l).K := by
 have : ∀ (l : List ActP) (s : SS), SInv s.l s.n s.K → SInv (l.foldl actS s).l (l.foldl actS s).n (l.foldl actS s).K := fun l => by
  induction l with
  | nil => intro s h; exact h
  | cons a l ih => intro s h; exact ih _ (actS_inv h)
 exact this l SS0 SInv.nil
theorem stL_len (l : List ActP) : (stL l).l.length ≤ l.length := by
 have : ∀ (l : List ActP) (s : SS), (l.foldl actS s).l.length ≤ s.l.length + l.length := fun l => by
  induction l with
  | nil => intro s; exact Nat.le_refl _
  | cons a l ih => intro s; have h1 := ih (actS s a); have h2 := actS_len s a; rw [List.foldl_cons, List.length_cons]; omega
 have h := this l SS0
 simpa [stL, SS0] using h
end Go.Proofs.YtlapdmgjfdelnaaGreat
namespace Go.Proofs.YtlapdmgjfdelnaaGreat
open Go.RowKit
set_option maxRecDepth 100000
def cB : ByteArray := ⟨#[99]⟩
def o15 : Opr := ⟨[cB], 5, ByteArray.empty, 3⟩
def t15 : Tr := .mk [] [(cB, .mk [⟨1, 1, ByteArray.empty, 3⟩] [])]
theorem awk15_I : appI (.mk [] []) o15 ⟨1, 1⟩ = 0 := by kernel_rfl
theorem awk15_T : appT (.mk [] []) o15 ⟨1, 1⟩ = t15 := by kernel_rfl
theorem awk15_R : readI t15 [cB] = 0 := by kernel_rfl
theorem awk15_V : readV t15 [cB] = ⟨3, false, 3, []⟩ := by kernel_rfl
set_option maxHeartbeats 4000000 in
theorem awake15_any (w : World) : Calls Tryz.prog 35 #[] w fun e w' => e = .returned (.bool true) ∧ Below w.heap.size w w' := by
 have HO : Hid (o15.Ok) := ⟨⟨by decide, by decide⟩, ⟨by decide, by decide⟩, by decide⟩
 have HCB : Hid (cB.size ≤ Big) := by unfold Hid; decide
 have hb0 : Below w.heap.size w (w.alloc (.cells #[.string cB] 9)) := (Below.refl _ w).alloc (Nat.le_refl _) _
 go_enter Tryz.func35, Tryz.ntmps35
 go_wp2_with fail
 refine (opApply_any (.mk [] []) o15 ⟨1, 1⟩ _ _ _ _ rd_empty (SlP.oneB (E := StE) (x := cB) (cs := [.string cB]) ⟨rfl, HCB.out⟩ rfl _ rfl (by simp)) HO.out ⟨⟨by decide, by decide⟩, ⟨by decide, by decide⟩⟩ (by simp [Tr.sz, Tr.szL])).mono ?_
 rw [awk15_I, awk15_T]
 rintro e w1 ⟨ve, vk, vc, rfl, hrd, hsc, hb1⟩
 have hR := awk15_R
 have hV := awk15_V
 have hz : t15.sz ≤ 4000 := by decide
 generalize appC (.mk [] []) o15 ⟨1, 1⟩ = C at *
 generalize t15 = T at *
 obtain ⟨Ae, ne, Ak, nk, rfl, rfl⟩ := rda_shape hrd
 obtain ⟨Ac, nc, rfl⟩ := hsc.shape
 have hB1 : Below w.heap.size w w1 := hb0.trans (hb1.mono (by simp))
 have hv : Below w1.heap.size w1 ((w1.alloc (.cells #[.slice Ae T.es.length ne, .slice Ak T.ks.length nk, .slice Ac C.length nc] 29)).alloc (.cells #[.string cB] 9)) := ((Below.refl _ w1).alloc (Nat.le_refl _) _).alloc (by simp) _
 have HT := hid (rda_rd hrd (fun b hb => hb.2) hv)
 have HB := hid (hB1.trans (hv.mono (by have := hB1.size; omega)))
 clear hrd hsc hb1 hv
 go_wp2_with fail
 refine (opRead_any T [cB] _ _ _ _ HT.out (SlP.oneB (E := StE) (x := cB) (cs := [.string cB]) ⟨rfl, HCB.out⟩ rfl _ (by simp) (by simp)) hz).mono ?_
 rw [hR, hV]
 rintro e w2 ⟨vl, rfl, hsl, hb2⟩
 obtain ⟨Al, nl, rfl⟩ := hsl.shape
 have hB2 := HB.out.trans (hb2.mono HB.out.size)
 have hb3 := hB2.alloc (o := .cells #[.int .i64 3, .bool false, .int .i64 3, .slice Al 0 nl] 72) hB2.size
 clear hsl hb2
 go_wp2_with fail
 go_ret
 exact ⟨rfl, hb3⟩
def AcL (w : World) (v : Value) (l : List ActP) : Prop := SlP w w.heap.size 7 (ActE w w.heap.size) v l
theorem AcL.up {w w' : World} {v : Value} {l : List ActP} (h : AcL w v l) (hb : Below w.heap.size w w') : AcL w' v l :=
 SlP.imp h hb hb.size fun _ _ _ ⟨vp, h1, h2, h3⟩ => ⟨vp, h1, h2.imp hb hb.size fun _ _ _ h => h, h3⟩
theorem AcL.at {w : World} {A : Option Addr} {n : Nat} {l : List ActP} (h : AcL w (.slice A l.length n) l) {k : Nat} {x : ActP} (hx : l[k]? = some x) :
  ∃ b off A5 c5, A = some ⟨b, off, none⟩ ∧ b < w.heap.size ∧ SlP w w.heap.size 1 StE (.slice A5 x.o.path.length c5) x.o.path ∧ x.o.Ok ∧ (0 ≤ x.who ∧ x.who ≤ 255 ∧ 0 ≤ x.fr ∧ x.fr ≤ 255) ∧
   ∀ W, Below w.heap.size w W → (W.cell? ⟨b, off + k * 7, none⟩ = some (.int .u8 x.who) ∧ W.cell? ⟨b, off + k * 7 + 1, none⟩ = some (.int .u8 x.fr) ∧ W.cell? ⟨b, off + k * 7 + 2, none⟩ = some (.bool x.hears) ∧ W.cell? ⟨b, off + k * 7 + 3, none⟩ = some (.slice A5 x.o.path.length c5) ∧ W.cell? ⟨b, off + k * 7 + 4, none⟩ = some (.int .i64 x.o.act) ∧ W.cell? ⟨b, off + k * 7 + 5, none⟩ = some (.string x.o.s) ∧ W.cell? ⟨b, off + k * 7 + 6, none⟩ = some (.int .i64 x.o.n)) := by
 obtain ⟨A', n', hv, _, _, h3⟩ := h
 cases hv
 obtain ⟨b, off, rfl, hb, hc⟩ := h3 (by rintro rfl; simp at hx)
 obtain ⟨cs, ⟨vp, rfl, hp, ho, hw⟩, _, hu⟩ := hc k x hx
 obtain ⟨A5, c5, rfl, hpp⟩ := id hp
 exact ⟨b, off, A5, c5, rfl, hb, hp, ho, hw, fun W hW => ⟨(hW.cell hb).trans (hu 0 _ rfl), (hW.cell hb).trans (hu 1 _ rfl), (hW.cell hb).trans (hu 2 _ rfl), (hW.cell hb).trans (hu 3 _ rfl), (hW.cell hb).trans (hu 4 _ rfl), (hW.cell hb).trans (hu 5 _ rfl), (hW.cell hb).trans (hu 6 _ rfl)⟩⟩
def shortL (l : List ActP) (most : Int) : Bool := decide ((l.length : Int) ≤ most) && l.all fun x => shortB x.o
set_option maxHeartbeats 2000000 in
theorem shortA_any (l : List ActP) (most : Int) (vl : Value) (w : World) (h : AcL w vl l) :
  Calls Tryz.prog 36 #[vl, .int .i64 most] w fun e w' => e = .returned (.bool (shortL l most)) ∧ Below w.heap.size w w' := by
 have HL0 := hid h
 obtain ⟨A, n, rfl, b1, b2, _⟩ := h
 unfold Big at b2
 go_enter Tryz.func36, Tryz.ntmps36
 by_cases hm : most < (l.length : Int)
 ·have HR : Hid (shortL l most = false) := by unfold Hid shortL; rw [decide_eq_false (by omega)]; rfl
  go_wp2_with fail
  go_ret
  exact ⟨ret_bool HR.out.symm, Below.refl _ _⟩
 have HS : Hid (shortL l most = l.all fun x => shortB x.o) := by unfold Hid shortL; rw [decide_eq_true (by omega)]; rfl
 go_wp2_with fail
 go_loopw [12] (fun i wr => ∃ k : Nat, k ≤ l.length ∧ i = .int .i64 k ∧ Hid (((l.take k).all fun x => shortB x.o) = true) ∧ Below w.heap.size w wr) (fun i _ => l.length - (intOf i).toNat)
 case atStart => exact ⟨0, Nat.zero_le _, rfl, rfl, Below.refl _ _⟩
 case round =>
  obtain ⟨k, hk, rfl, hall, hb⟩ := hrel
  by_cases hlt : k < l.length
  ·obtain ⟨x, hx⟩ : ∃ x, l[k]? = some x := ⟨_, List.getElem?_eq_getElem hlt⟩
   obtain ⟨b, off, A5, c5, rfl, hbB, hpx, hox, hwx, hu⟩ := AcL.at HL0.out hx
   obtain ⟨e0, e1, e2, e3, e4, e5, e6⟩ := hu wr hb
   have HM : Hid (x ∈ l) := List.mem_of_getElem? hx
   have HT : Hid (((l.take (k + 1)).all fun x => shortB x.o) = shortB x.o) := by
    unfold Hid; rw [List.take_add_one, hx, List.all_append, hall.out]; simp
   have HPX := hid (hpx.imp hb hb.size fun _ _ _ h => h)
   have HOX := hid hox
   clear hu hx hpx hox hm
   go_wp2_with fail
   refine (short15_any x.o _ _ HPX.out HOX.out).mono ?_
   cases hs : shortB x.o
   ·rintro e w1 ⟨rfl, hb1⟩
    have HR : Hid ((l.all fun x => shortB x.o) = false) := by unfold Hid; rw [List.all_eq_false]; exact ⟨x, HM.out, by simp [hs]⟩
    have hB1 := hb.trans (hb1.mono hb.size)
    clear hs
    go_wp2_with fail
    go_ret
    exact ⟨ret_bool (by rw [HS.out, HR.out]), hB1⟩
   ·rintro e w1 ⟨rfl, hb1⟩
    have HT2 : Hid (((l.take (k + 1)).all fun x => shortB x.o) = true) := by unfold Hid; rw [HT.out, hs]
    have hB1 := hb.trans (hb1.mono hb.size)
    clear hs
    go_wp2_with fail
    go_roundw
    case rel => exact ⟨k + 1, by omega, by go_num, HT2.out, hB1⟩
    case measure => simp [intOf]; omega
  ·obtain rfl : k = l.length := by omega
   have hr := hall.out
   rw [List.take_of_length_le (Nat.le_refl _)] at hr
   have HR := hid hr
   clear hr hall hm
   go_wp2_with fail
   go_ret
   exact ⟨ret_bool (by rw [HS.out, HR.out]), hb⟩
end Go.Proofs.YtlapdmgjfdelnaaGreat
namespace Go.Proofs.YtlapdmgjfdelnaaGreat
open Go.RowKit
set_option maxRecDepth 100000
def StI (w0 : World) (g : Nat) (l : List ActP) (wr : World) : Prop :=
 ∃ v va, StB wr g v (stL l).n va (stL l).l (stL l).K ∧ Below w0.heap.size w0 wr
end Go.Proofs.YtlapdmgjfdelnaaGreat
namespace Go.Proofs.YtlapdmgjfdelnaaGreat
end Go.Proofs.YtlapdmgjfdelnaaGreat
namespace Go.Proofs.YtlapdmgjfdelnaaGreat
open Go.RowKit
set_option maxRecDepth 100000
theorem below_drewN {B : Nat} {w0 w : World} (h : Below B w0 w) : ∀ m, Below B w0 (w.drewN m)
 | 0 => h
 | m + 1 => (below_drewN h m).drew
end Go.Proofs.YtlapdmgjfdelnaaGreat
namespace Go.Proofs.YtlapdmgjfdelnaaGreat
open Go.RowKit
set_option maxRecDepth 100000
set_option maxHeartbeats 8000000 in
theorem lawMT_any (l : List ActP) (w : World) (vl0 : Value) (h0 : AcL w vl0 l) :
  Calls Tryz.prog 8 #[vl0] w fun e w' => e = .returned (.bool true) ∧ Below w.heap.size w w' := by
 have HL0 := hid h0
 obtain ⟨A, n, rfl, b1, b2, _⟩ := id h0
 unfold Big at b2
 clear h0
 obtain ⟨SH, HSH⟩ : ∃ q, Hid (shortL l 30 = q) := ⟨_, rfl⟩
 go_enter Tryz.func8, Tryz.ntmps8
 go_wp2_with fail
 refine (awake15_any _).mono ?_
 rintro e w1 ⟨rfl, hb1⟩
 go_wp2_with fail
 refine (shortA_any l 30 _ _ (HL0.out.up hb1)).mono ?_
 rw [HSH.out]
 cases SH
 ·rintro e w2 ⟨rfl, hb2⟩
  have hB2 := hb1.trans (hb2.mono hb1.size)
  go_wp2_with fail
  refine (awake15_any _).mono ?_
  rintro e w3 ⟨rfl, hb3⟩
  have hB3 := hB2.trans (hb3.mono hB2.size)
  go_wp2_with fail
  go_ret
  exact ⟨rfl, hB3⟩
 ·rintro e w3 ⟨rfl, hb3⟩
  have hB3 := hb1.trans (hb3.mono hb1.size)
  have HB3 := hid hB3
  have HSS : Hid (l.length ≤ 30 ∧ ∀ x ∈ l, shortB x.o = true) := by
   have h := HSH.out
   unfold shortL at h
   rw [Bool.and_eq_true, decide_eq_true_eq, List.all_eq_true] at h
   exact ⟨by omega, h.2⟩
  have hl30 := HSS.out.1
  clear hb1 hb3 hB3
  go_wp2_with fail
  go_loopw [23] (fun i wr => ∃ k : Nat, k ≤ l.length ∧ i = .int .i64 k ∧ StI w w3.heap.size (l.take k) wr) (fun i _ => l.length - (intOf i).toNat)
  case atStart => exact ⟨0, Nat.zero_le _, rfl, _, _, by rw [List.take_zero]; exact StB.start, HB3.out.alloc HB3.out.size _⟩
  case round =>
   obtain ⟨k, hk, rfl, v, va, hst, hb⟩ := hrel
   by_cases hlt : k < l.length
   ·obtain ⟨x, hx⟩ : ∃ x, l[k]? = some x := ⟨_, List.getElem?_eq_getElem hlt⟩
    obtain ⟨b, off, A5, c5, rfl, hbB, hpx, hox, hwx, hu⟩ := AcL.at HL0.out hx
    obtain ⟨e0, e1, e2, e3, e4, e5, e6⟩ := hu wr hb
    have HSB := hid (HSS.out.2 x (List.mem_of_getElem? hx))
    have HTK : Hid (stL (l.take (k + 1)) = actS (stL (l.take k)) x) := hid (stL_take hx)
    have HST := hid hst
    have hgw3 := HB3.out.size
    have hlen : (stL (l.take k)).l.length ≤ 30 := Nat.le_trans (stL_len _) (by rw [List.length_take]; omega)
    have HLEN := hid hlen
    have HPX : Hid (SlA wr (okS wr w3.heap.size va) 1 StE (.slice A5 x.o.path.length c5) x.o.path) := hid ((SlP_iff.1 hpx).up (fun b hb' => hb.block b hb') (fun b hb' => ⟨by omega, by have := hb.size; omega, fun e => by have := (hst.own.lt b e).1; omega⟩) fun _ _ _ h => h)
    have HPL : Hid (x.o.path.length ≤ 1000) := by
     have h := HSB.out
     unfold shortB at h
     simp only [Bool.and_eq_true, decide_eq_true_eq] at h
     unfold Hid; omega
    have HOX := hid hox
    have HB := hid hb
    clear hu hpx hx hst hlen hox hb
    go_wp2_with fail
    refine (step_any x _ wr HST.out (stL_inv _) HLEN.out HPX.out hwx HOX.out HPL.out).mono ?_
    rintro e w4 ⟨rfl, hkp, hbl, v4, va4, hst4, hown4⟩
    have HB4 : Hid (Below w.heap.size w w4) := hid (HB.out.trans (hbl.mono hgw3))
    rw [← HTK.out] at hst4
    have HST4 := hid hst4
    clear hkp hbl hst4 hown4 e0 e1 e2 e3 e4 e5 e6
    obtain ⟨⟨L, N, K⟩, HS⟩ : ∃ S, Hid (stL (l.take (k + 1)) = S) := ⟨_, rfl⟩
    have hinv : SInv L N K := by have h := stL_inv (l.take (k + 1)); rw [HS.out] at h; exact h
    have HINV := hid hinv
    have hL30 : L.length ≤ 30 := by have h := stL_len (l.take (k + 1)); rw [HS.out, List.length_take] at h; simp only at h; omega
    have hst4 : StB w4 w3.heap.size v4 N va4 L K := by have h := HST4.out; rw [HS.out] at h; exact h
    have HST5 := hid hst4
    have hg4 := hst4.lt
    clear hst4 hinv
    go_wp2_with fail
    go_loopw [32] (fun i wx => ∃ p : Nat, p ≤ 3 ∧ i = .int .i64 p ∧ Below w4.heap.size w4 wx) (fun i _ => 3 - (intOf i).toNat)
    case atStart => exact ⟨0, by omega, rfl, Below.refl _ _⟩
    case round =>
     obtain ⟨p, hp, rfl, hbx⟩ := hrel
     have HBX := hid hbx
     clear hbx
     by_cases hp3 : p < 3
     ·have hpp : (p : Int) < 3 := by omega
      have hp0 : (0 : Int) ≤ (p : Int) := by omega
      go_wp2_with fail
      go_loopw [36] (fun j wy => ∃ q : Nat, q ≤ p ∧ j = .int .i64 q ∧ Below w4.heap.size w4 wy) (fun j _ => p - (intOf j).toNat)
      case atStart => exact ⟨0, by omega, rfl, HBX.out⟩
      case round =>
       obtain ⟨q, hq, rfl, hby⟩ := hrel
       by_cases hqp : q < p
       ·have hqq : (q : Int) < (p : Int) := by omega
        have hq0 : (0 : Int) ≤ (q : Int) := by omega
        have hq3 : (q : Int) < 3 := by omega
        have hqn : q < 3 := by omega
        obtain ⟨p0, p1, p2, hpv⟩ : ∃ a b c, v4 p = (a, b, c) := ⟨_, _, _, rfl⟩
        obtain ⟨o0, o1, o2, hov⟩ : ∃ a b c, v4 q = (a, b, c) := ⟨_, _, _, rfl⟩
        have HC6 : Hid (∀ W, Below w4.heap.size w4 W → (W.cell? ⟨w3.heap.size, p * 3, none⟩ = some p0 ∧ W.cell? ⟨w3.heap.size, p * 3 + 1, none⟩ = some p1 ∧ W.cell? ⟨w3.heap.size, p * 3 + 2, none⟩ = some p2 ∧ W.cell? ⟨w3.heap.size, q * 3, none⟩ = some o0 ∧ W.cell? ⟨w3.heap.size, q * 3 + 1, none⟩ = some o1 ∧ W.cell? ⟨w3.heap.size, q * 3 + 2, none⟩ = some o2)) := fun W hW => by
         obtain ⟨s0, s1, s2, _, _⟩ := (HST5.out.grow hW).cells hp3
         obtain ⟨g0, g1, g2, _, _⟩ := (HST5.out.grow hW).cells hqn
         rw [hpv] at s0 s1 s2
         rw [hov] at g0 g1 g2
         exact ⟨s0, s1, s2, g0, g1, g2⟩
        have HCR : Hid (∀ W, Below w4.heap.size w4 W → ((K p).1.rd W W.heap.size p0 p1 ∧ SlP W W.heap.size 3 SpE p2 (K p).2 ∧ (K q).1.rd W W.heap.size o0 o1 ∧ SlP W W.heap.size 3 SpE o2 (K q).2)) := fun W hW => by
         have hs := HST5.out.grow hW
         have r1 := hs.rd hp3
         have r2 := hs.slp hp3
         have r3 := hs.rd hqn
         have r4 := hs.slp hqn
         rw [hpv] at r1 r2
         rw [hov] at r3 r4
         exact ⟨r1, r2, r3, r4⟩
        obtain ⟨P1, x1, P2, x2, e1, e2⟩ := rd_shape (HCR.out _ hby).1
        obtain ⟨P3, x3, e3, _⟩ := (HCR.out _ hby).2.1
        subst e1; subst e2; subst e3
        obtain ⟨O1, t1, O2, t2, e1, e2⟩ := rd_shape (HCR.out _ hby).2.2.1
        obtain ⟨O3, t3, e3, _⟩ := (HCR.out _ hby).2.2.2
        subst e1; subst e2; subst e3
        have hk1 := (HINV.out.kw p hp3).size
        have hk2 := (HINV.out.kw q hqn).size
        obtain ⟨s0, s1, s2, g0, g1, g2⟩ := HC6.out _ hby
        have HBY := hid hby
        have hsy := hby.size
        clear hpv hov hby
        go_upto_region 15 with (fail)
        go_cut [7, 8] (fun s7 s8 wx => ∃ y z, s7 = .pointer (some ⟨y, 0, none⟩) ∧ s8 = .pointer (some ⟨z, 0, none⟩) ∧ w4.heap.size ≤ y ∧ w4.heap.size ≤ z ∧ wx.heap[y]? = some (.cells #[.slice P1 (K p).1.es.length x1, .slice P2 (K p).1.ks.length x2, .slice P3 (K p).2.length x3] 29 (0, 0)) ∧ wx.heap[z]? = some (.cells #[.slice O1 (K q).1.es.length t1, .slice O2 (K q).1.ks.length t2, .slice O3 (K q).2.length t3] 29 (0, 0)) ∧ Below w4.heap.size w4 wx)
        case first =>
         go_region_held3 (fun W => W.cell? ⟨w3.heap.size, p * 3, none⟩ = some (.slice P1 (K p).1.es.length x1) ∧ W.cell? ⟨w3.heap.size, p * 3 + 1, none⟩ = some (.slice P2 (K p).1.ks.length x2) ∧ W.cell? ⟨w3.heap.size, p * 3 + 2, none⟩ = some (.slice P3 (K p).2.length x3) ∧ W.cell? ⟨w3.heap.size, q * 3, none⟩ = some (.slice O1 (K q).1.es.length t1) ∧ W.cell? ⟨w3.heap.size, q * 3 + 1, none⟩ = some (.slice O2 (K q).1.ks.length t2) ∧ W.cell? ⟨w3.heap.size, q * 3 + 2, none⟩ = some (.slice O3 (K q).2.length t3))
          (first | go_keep | exact HC6.out _ (HBY.out.trans (by go_grown)) | fail)
          (fail)
         all_goals
          go_wp2_with fail
          go_meet
          case rel => first | exact ⟨_, _, rfl, rfl, hsy, Nat.le_succ_of_le hsy, (heap_old (by simp)).trans (heap_new rfl), heap_new (by simp), ((HBY.out.alloc hsy _).alloc (by rw [World.size_alloc]; omega) _).drew⟩ | exact ⟨_, _, rfl, rfl, Nat.le_succ_of_le hsy, hsy, heap_new (by simp), (heap_old (by simp)).trans (heap_new rfl), ((HBY.out.alloc hsy _).alloc (by rw [World.size_alloc]; omega) _).drew⟩
        case rest =>
         obtain ⟨y, z, rfl, rfl, hy, hz, hG, hH, hbz⟩ := hcut
         obtain ⟨wz, hwz⟩ : ∃ u : World, u = wc := ⟨wc, rfl⟩
         subst hwz
         have d0 := cell_cells (i := 0) hG
         have d1 := cell_cells (i := 1) hG
         have d2 := cell_cells (i := 2) hG
         have f0 := cell_cells (i := 0) hH
         have f1 := cell_cells (i := 1) hH
         have f2 := cell_cells (i := 2) hH
         simp only [List.getElem?_toArray, List.getElem?_cons_zero, List.getElem?_cons_succ] at d0 d1 d2 f0 f1 f2
         have HBZ := hid hbz
         clear hG hH hbz s0 s1 s2 g0 g1 g2
         go_wp2_with fail
         refine (r07same_any (K p).2 (K q).2 _ _ _ _ (HCR.out _ HBZ.out).2.1 (HCR.out _ HBZ.out).2.2.2).mono ?_
         by_cases hsm : (K p).2 = (K q).2
         ·have HSM : Hid (kSame (K p).1 (K q).1 (K p).2 (K q).2 = true) := hid ((kSame_ok (HINV.out.kw p hp3).ok (HINV.out.kw q hqn).ok).2 ((HINV.out.kw p hp3).same (HINV.out.kw q hqn) hsm))
          rw [decide_eq_true hsm]
          rintro e w6 ⟨rfl, q6, rfl⟩
          have HB6 : Hid (Below w4.heap.size w4 (wz.drewN q6)) := hid (below_dn HBZ.out q6)
          clear hsm
          go_wp2_with fail
          refine (csame_any (K p).2 (K q).2 (K p).1 (K q).1 _ _ _ _ _ _ _ (HCR.out _ HB6.out).1 (HCR.out _ HB6.out).2.2.1 (HCR.out _ HB6.out).2.1 (HCR.out _ HB6.out).2.2.2 (by omega) (by omega) (by omega) (by omega)).mono ?_
          rw [HSM.out]
          rintro e w7 ⟨rfl, hb7⟩
          have HB7 : Hid (Below w4.heap.size w4 w7) := hid (HB6.out.trans (hb7.mono HB6.out.size))
          clear hb7
          go_wp2_with fail
          go_roundw
          case rel => exact ⟨q + 1, by omega, by go_num, HB7.out⟩
          case measure => first | (simp [intOf]; done) | (simp [intOf]; omega)
         ·rw [decide_eq_false hsm]
          rintro e w6 ⟨rfl, q6, rfl⟩
          have HB6 : Hid (Below w4.heap.size w4 (wz.drewN q6)) := hid (below_dn HBZ.out q6)
          clear hsm
          go_wp2_with fail
          go_roundw
          case rel => exact ⟨q + 1, by omega, by go_num, HB6.out⟩
          case measure => first | (simp [intOf]; done) | (simp [intOf]; omega)
       ·have hqe : q = p := by omega
        subst hqe
        have HBY := hid hby
        clear hby
        go_wp2_with fail
        go_roundw
        case rel => exact ⟨q + 1, by omega, by go_num, HBY.out⟩
        case measure => first | (simp [intOf]; done) | (simp [intOf]; omega)
     ·have hpe : p = 3 := by omega
      subst hpe
      go_wp2_with fail
      go_roundw
      case rel => exact ⟨k + 1, by omega, by go_num, v4, _, HST4.out.grow HBX.out, HB4.out.trans (HBX.out.mono HB4.out.size)⟩
      case measure => first | (simp [intOf]; done) | (simp [intOf]; omega)
   ·have hke : k = l.length := by omega
    subst hke
    have HB := hid hb
    obtain ⟨⟨L, N, K⟩, HS⟩ : ∃ S, Hid (stL (l.take l.length) = S) := ⟨_, rfl⟩
    have hinv : SInv L N K := by have h := stL_inv (l.take l.length); rw [HS.out] at h; exact h
    have hL30 : L.length ≤ 30 := by have h := stL_len (l.take l.length); rw [HS.out, List.length_take] at h; simp only at h; omega
    rw [HS.out] at hst
    have hst : StB wr w3.heap.size v N va L K := hst
    have HST := hid hst
    have hg3 := hst.lt
    obtain ⟨hall, hperm, hvis⟩ := hinv.all
    have hk0 := hinv.kw 0 (by omega)
    have hk1 := hinv.kw 1 (by omega)
    have hk2 := hinv.kw 2 (by omega)
    have z0 := hk0.size
    have z1 := hk1.size
    have z2 := hk2.size
    have zJ := hall.size
    have hj1 : jaK [K 0, K 1, K 2] = true := jaK_iff.2 fun x hx => by
     simp at hx
     rcases hx with rfl | rfl | rfl
     ·exact hk0.ok
     ·exact hk1.ok
     ·exact hk2.ok
    have hj2 : jaK [K 2, K 0, K 1] = true := jaK_iff.2 fun x hx => by
     simp at hx
     rcases hx with rfl | rfl | rfl
     ·exact hk2.ok
     ·exact hk0.ok
     ·exact hk1.ok
    have HE1 : Hid (jaE [K 0, K 1, K 2] = 0) := by unfold Hid jaE; rw [hj1]; rfl
    have HE2 : Hid (jaE [K 2, K 0, K 1] = 0) := by unfold Hid jaE; rw [hj2]; rfl
    have hr1 : jaR [K 0, K 1, K 2] = jnL [K 0, K 1, K 2] := by unfold jaR; rw [hj1]; rfl
    have hr2 : jaR [K 2, K 0, K 1] = jnL [K 0, K 1, K 2] := by unfold jaR; rw [hj2, if_pos rfl]; exact hperm
    obtain ⟨JT, JC, hJ⟩ : ∃ JT JC, jnL [K 0, K 1, K 2] = (JT, JC) := ⟨_, _, rfl⟩
    rw [hJ] at hr1 hr2 hall hvis zJ
    have HJ1 : Hid ((jaR [K 0, K 1, K 2]).1 = JT) := by unfold Hid; rw [hr1]
    have HJ2 : Hid ((jaR [K 0, K 1, K 2]).2 = JC) := by unfold Hid; rw [hr1]
    have HJ3 : Hid ((jaR [K 2, K 0, K 1]).1 = JT) := by unfold Hid; rw [hr2]
    have HJ4 : Hid ((jaR [K 2, K 0, K 1]).2 = JC) := by unfold Hid; rw [hr2]
    have HKS : Hid (kSame JT JT JC JC = true) := hid ((kSame_ok (x := (JT, JC)) (y := (JT, JC)) hall.ok hall.ok).2 rfl)
    have HVS : Hid (visL L JC = L) := hid hvis
    simp only at zJ
    obtain ⟨a0, d0, f0, hv0⟩ : ∃ a b c, v 0 = (a, b, c) := ⟨_, _, _, rfl⟩
    obtain ⟨a1, d1, f1, hv1⟩ : ∃ a b c, v 1 = (a, b, c) := ⟨_, _, _, rfl⟩
    obtain ⟨a2, d2, f2, hv2⟩ : ∃ a b c, v 2 = (a, b, c) := ⟨_, _, _, rfl⟩
    obtain ⟨Aa, na, hva⟩ := OwnP.shape hst.own
    subst hva
    have HCR : Hid (∀ W, Below wr.heap.size wr W → (((K 0).1.rd W W.heap.size a0 d0 ∧ SlP W W.heap.size 3 SpE f0 (K 0).2) ∧ ((K 1).1.rd W W.heap.size a1 d1 ∧ SlP W W.heap.size 3 SpE f1 (K 1).2) ∧ ((K 2).1.rd W W.heap.size a2 d2 ∧ SlP W W.heap.size 3 SpE f2 (K 2).2) ∧ EvL W (.slice Aa L.length na) L)) := fun W hW => by
     have hs := HST.out.grow hW
     have r0 := hs.rd (i := 0) (by omega)
     have r1 := hs.rd (i := 1) (by omega)
     have r2 := hs.rd (i := 2) (by omega)
     have q0 := hs.slp (i := 0) (by omega)
     have q1 := hs.slp (i := 1) (by omega)
     have q2 := hs.slp (i := 2) (by omega)
     rw [hv0] at r0 q0
     rw [hv1] at r1 q1
     rw [hv2] at r2 q2
     exact ⟨⟨r0, q0⟩, ⟨r1, q1⟩, ⟨r2, q2⟩, hs.own.evl (by unfold Big; omega)⟩
    have HC9 : Hid (∀ W, Below wr.heap.size wr W → (W.cell? ⟨w3.heap.size, 0, none⟩ = some a0 ∧ W.cell? ⟨w3.heap.size, 1, none⟩ = some d0 ∧ W.cell? ⟨w3.heap.size, 2, none⟩ = some f0 ∧ W.cell? ⟨w3.heap.size, 3, none⟩ = some a1 ∧ W.cell? ⟨w3.heap.size, 4, none⟩ = some d1 ∧ W.cell? ⟨w3.heap.size, 5, none⟩ = some f1 ∧ W.cell? ⟨w3.heap.size, 6, none⟩ = some a2 ∧ W.cell? ⟨w3.heap.size, 7, none⟩ = some d2 ∧ W.cell? ⟨w3.heap.size, 8, none⟩ = some f2 ∧ W.cell? ⟨w3.heap.size, 12, none⟩ = some (.slice Aa L.length na))) := fun W hW => by
     have h0 := (HST.out.grow hW).cells (i := 0) (by omega)
     have h1 := (HST.out.grow hW).cells (i := 1) (by omega)
     have h2 := (HST.out.grow hW).cells (i := 2) (by omega)
     rw [hv0] at h0
     rw [hv1] at h1
     rw [hv2] at h2
     exact ⟨h0.1, h0.2.1, h0.2.2.1, h1.1, h1.2.1, h1.2.2.1, h2.1, h2.2.1, h2.2.2.1, h0.2.2.2.2⟩
    obtain ⟨⟨r0, q0⟩, ⟨r1, q1⟩, ⟨r2, q2⟩, _⟩ := HCR.out _ (Below.refl _ _)
    obtain ⟨A0, n0, D0, m0, e1, e2⟩ := rd_shape r0
    obtain ⟨F0, k0, e3, _⟩ := q0
    subst e1; subst e2; subst e3
    obtain ⟨A1, n1, D1, m1, e1, e2⟩ := rd_shape r1
    obtain ⟨F1, k1, e3, _⟩ := q1
    subst e1; subst e2; subst e3
    obtain ⟨A2, n2, D2, m2, e1, e2⟩ := rd_shape r2
    obtain ⟨F2, k2, e3, _⟩ := q2
    subst e1; subst e2; subst e3
    obtain ⟨y0, y1, y2, y3, y4, y5, y6, y7, y8, y9⟩ := HC9.out _ (Below.refl _ _)
    have hs1 : ([K 0, K 1, K 2].map fun x => x.1.sz).sum ≤ 4000 := by simp; omega
    have hs2 : ([K 0, K 1, K 2].map fun x => x.2.length).sum ≤ 20000 := by simp; omega
    have hs3 : ([K 2, K 0, K 1].map fun x => x.1.sz).sum ≤ 4000 := by simp; omega
    have hs4 : ([K 2, K 0, K 1].map fun x => x.2.length).sum ≤ 20000 := by simp; omega
    clear hst hinv hall hperm hvis hk0 hk1 hk2 hj1 hj2 hr1 hr2 hJ hv0 hv1 hv2 r0 r1 r2
    go_wp2_with fail
    refine (joinAll_any [K 0, K 1, K 2] _ _ (slp3 (heap_new rfl) (kn_at (HCR.out _ (by go_grown)).1.1 (HCR.out _ (by go_grown)).1.2) (kn_at (HCR.out _ (by go_grown)).2.1.1 (HCR.out _ (by go_grown)).2.1.2) (kn_at (HCR.out _ (by go_grown)).2.2.1.1 (HCR.out _ (by go_grown)).2.2.1.2) (by simp)) hs1 hs2).mono ?_
    rw [HE1.out, HJ1.out, HJ2.out]
    rintro e w5 ⟨xe5, xk5, xc5, rfl, hrd5, hsl5, hb5⟩
    obtain ⟨A5x, n5x, B5x, m5x, rfl, rfl⟩ := rda_shape hrd5
    obtain ⟨D5x, k5x, rfl⟩ := hsl5.shape
    have HB5 : Hid (Below wr.heap.size wr w5) := hid (((Below.refl _ wr).alloc (Nat.le_refl _) _).trans (hb5.mono (by simp)))
    have h35 := HB5.out.size
    have hlt5 : w3.heap.size < w5.heap.size := by omega
    have hne5 : w3.heap.size ≠ w5.heap.size := by omega
    have hnr5 : w5.heap.size ≠ w3.heap.size := by omega
    have HR5 := hid hrd5
    have HL5 := hid hsl5
    clear y0 y1 y2 y3 y4 y5 y6 y7 y8 y9 hrd5 hsl5 hb5
    have HF5 : Hid (∀ W, Below (w5.heap.size + 1) (w5.alloc (.cells #[.slice A5x JT.es.length n5x, .slice B5x JT.ks.length m5x, .slice D5x JC.length k5x] 29)) W → (Below wr.heap.size wr W ∧ JT.rd W W.heap.size (.slice A5x JT.es.length n5x) (.slice B5x JT.ks.length m5x) ∧ SlP W W.heap.size 3 SpE (.slice D5x JC.length k5x) JC ∧ W.cell? ⟨w5.heap.size, 0, none⟩ = some (.slice A5x JT.es.length n5x) ∧ W.cell? ⟨w5.heap.size, 1, none⟩ = some (.slice B5x JT.ks.length m5x) ∧ W.cell? ⟨w5.heap.size, 2, none⟩ = some (.slice D5x JC.length k5x))) := fun W hW => by
     have g0 := (hW.block w5.heap.size (by omega)).trans (heap_new rfl)
     have hB : Below w5.heap.size w5 W := ((Below.refl _ w5).alloc (Nat.le_refl _) _).trans (hW.mono (by omega))
     exact ⟨HB5.out.trans (hB.mono HB5.out.size), rda_rd HR5.out (fun b hb => hb.2) hB, HL5.out.slp (fun b hb => hb.2) hB, cell_cells (i := 0) g0, cell_cells (i := 1) g0, cell_cells (i := 2) g0⟩
    obtain ⟨y0, y1, y2, y3, y4, y5, y6, y7, y8, y9⟩ := HC9.out _ HB5.out
    go_wp2_with fail
    refine (joinAll_any [K 2, K 0, K 1] _ _ (slp3 (heap_new (by simp)) (kn_at (HCR.out _ (HB5.out.trans (by go_grown))).2.2.1.1 (HCR.out _ (HB5.out.trans (by go_grown))).2.2.1.2) (kn_at (HCR.out _ (HB5.out.trans (by go_grown))).1.1 (HCR.out _ (HB5.out.trans (by go_grown))).1.2) (kn_at (HCR.out _ (HB5.out.trans (by go_grown))).2.1.1 (HCR.out _ (HB5.out.trans (by go_grown))).2.1.2) (by simp)) hs3 hs4).mono ?_
    rw [HE2.out, HJ3.out, HJ4.out]
    rintro e w6 ⟨xe6, xk6, xc6, rfl, hrd6, hsl6, hb6⟩
    obtain ⟨A6x, n6x, B6x, m6x, rfl, rfl⟩ := rda_shape hrd6
    obtain ⟨D6x, k6x, rfl⟩ := hsl6.shape
    have HB6 : Hid (Below (w5.heap.size + 1) (w5.alloc (.cells #[.slice A5x JT.es.length n5x, .slice B5x JT.ks.length m5x, .slice D5x JC.length k5x] 29)) w6) := hid (((Below.refl (w5.heap.size + 1) (w5.alloc (.cells #[.slice A5x JT.es.length n5x, .slice B5x JT.ks.length m5x, .slice D5x JC.length k5x] 29))).alloc (by simp) _).trans (hb6.mono (by simp)))
    have h56 := HB6.out.size
    simp only [World.size_alloc] at h56
    have hne6 : w3.heap.size ≠ w6.heap.size := by omega
    have hnr6 : w6.heap.size ≠ w3.heap.size := by omega
    have hnea : w5.heap.size ≠ w6.heap.size := by omega
    have hneb : w6.heap.size ≠ w5.heap.size := by omega
    have HR6 := hid hrd6
    have HL6 := hid hsl6
    clear y0 y1 y2 y3 y4 y5 y6 y7 y8 y9 hrd6 hsl6 hb6
    have HF6 : Hid (∀ W, Below (w6.heap.size + 1) (w6.alloc (.cells #[.slice A6x JT.es.length n6x, .slice B6x JT.ks.length m6x, .slice D6x JC.length k6x] 29)) W → (Below wr.heap.size wr W ∧ EvL W (.slice Aa L.length na) L ∧ (JT.rd W W.heap.size (.slice A6x JT.es.length n6x) (.slice B6x JT.ks.length m6x) ∧ SlP W W.heap.size 3 SpE (.slice D6x JC.length k6x) JC) ∧ (JT.rd W W.heap.size (.slice A5x JT.es.length n5x) (.slice B5x JT.ks.length m5x) ∧ SlP W W.heap.size 3 SpE (.slice D5x JC.length k5x) JC) ∧ W.cell? ⟨w6.heap.size, 0, none⟩ = some (.slice A6x JT.es.length n6x) ∧ W.cell? ⟨w6.heap.size, 1, none⟩ = some (.slice B6x JT.ks.length m6x) ∧ W.cell? ⟨w6.heap.size, 2, none⟩ = some (.slice D6x JC.length k6x) ∧ W.cell? ⟨w5.heap.size, 0, none⟩ = some (.slice A5x JT.es.length n5x) ∧ W.cell? ⟨w5.heap.size, 1, none⟩ = some (.slice B5x JT.ks.length m5x) ∧ W.cell? ⟨w5.heap.size, 2, none⟩ = some (.slice D5x JC.length k5x) ∧ W.cell? ⟨w3.heap.size, 12, none⟩ = some (.slice Aa L.length na))) := fun W hW => by
     have g0 := (hW.block w6.heap.size (by omega)).trans (heap_new rfl)
     have hB : Below w6.heap.size w6 W := ((Below.refl _ w6).alloc (Nat.le_refl _) _).trans (hW.mono (by omega))
     obtain ⟨b1, b2, b3, b4, b5, b6⟩ := HF5.out W (HB6.out.trans (hB.mono (by omega)))
     exact ⟨b1, (HCR.out _ b1).2.2.2, ⟨rda_rd HR6.out (fun b hb => hb.2) hB, HL6.out.slp (fun b hb => hb.2) hB⟩, ⟨b2, b3⟩, cell_cells (i := 0) g0, cell_cells (i := 1) g0, cell_cells (i := 2) g0, b4, b5, b6, (HC9.out _ b1).2.2.2.2.2.2.2.2.2⟩
    go_upto_region 23 with (fail)
    obtain ⟨_, _, _, _, y0, y1, y2, y3, y4, y5, y6⟩ := HF6.out _ (Below.refl _ _)
    go_region_held3 (fun W => W.cell? ⟨w6.heap.size, 0, none⟩ = some (.slice A6x JT.es.length n6x) ∧ W.cell? ⟨w6.heap.size, 1, none⟩ = some (.slice B6x JT.ks.length m6x) ∧ W.cell? ⟨w6.heap.size, 2, none⟩ = some (.slice D6x JC.length k6x) ∧ W.cell? ⟨w5.heap.size, 0, none⟩ = some (.slice A5x JT.es.length n5x) ∧ W.cell? ⟨w5.heap.size, 1, none⟩ = some (.slice B5x JT.ks.length m5x) ∧ W.cell? ⟨w5.heap.size, 2, none⟩ = some (.slice D5x JC.length k5x) ∧ W.cell? ⟨w3.heap.size, 12, none⟩ = some (.slice Aa L.length na))
     (first | go_keep | exact (HF6.out _ HB8.out).2.2.2.2 | exact (HF6.out _ HB7.out).2.2.2.2 | fail)
     (first
      | (go_at_call 34; go_loud ((refine (csame_any JC JC JT JT _ _ _ _ _ _ _ (HF6.out _ (by go_grown)).2.2.2.1.1 (HF6.out _ (by go_grown)).2.2.1.1 (HF6.out _ (by go_grown)).2.2.2.1.2 (HF6.out _ (by go_grown)).2.2.1.2 (by omega) (by omega) (by omega) (by omega)).mono ?_); rw [HKS.out]; rintro e w7 ⟨rfl, hb⟩; have HB7 : Hid (Below (w6.heap.size + 1) (w6.alloc (.cells #[.slice A6x JT.es.length n6x, .slice B6x JT.ks.length m6x, .slice D6x JC.length k6x] 29)) w7) := hid (Below.trans (by go_grown) (hb.mono (by first | omega | (simp; done) | (simp; omega)))); clear hb))
      | (go_at_call 39; go_loud ((refine (visible_any L JC _ _ _ (HF6.out _ (HB7.out.trans (by go_grown))).2.1 (HF6.out _ (HB7.out.trans (by go_grown))).2.2.2.1.2 (by omega) (by omega)).mono ?_); rw [HVS.out]; rintro e w8 ⟨v8, rfl, hown8, hb⟩; obtain ⟨A8, n8, hv8⟩ := OwnP.shape hown8; subst hv8; have HB8 : Hid (Below (w6.heap.size + 1) (w6.alloc (.cells #[.slice A6x JT.es.length n6x, .slice B6x JT.ks.length m6x, .slice D6x JC.length k6x] 29)) w8) := hid ((HB7.out.trans (by go_grown)).trans (hb.mono (by have := HB7.out.size; first | omega | (simp at this ⊢; omega)))); clear hown8 hb))
      | fail)
    all_goals
     go_wp2_with fail
     go_ret
     exact ⟨rfl, HB.out.trans ((HF6.out _ HB8.out).1.mono HB.out.size)⟩
end Go.Proofs.YtlapdmgjfdelnaaGreat
