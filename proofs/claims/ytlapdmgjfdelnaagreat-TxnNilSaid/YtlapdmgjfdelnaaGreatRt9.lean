/- What the laws need, part 9: tributarylaw20.awake; what a nil go answers. No condition. The law TxnNil answers true. No condition. The data that a law is given, read as the plain types: dots, entries, trees. No condition. The frame of a law: its answer is true, and its arguments read as before. No condition. -/
import Derived.Deep.Slices
import Derived.ProofKit
import Derived.SizedLaws
import Derived.Test.YtlapdmgjfdelnaaGreatProg
import Derived.Test.YtlapdmgjfdelnaaGreatRows
import Derived.Test.YtlapdmgjfdelnaaGreatRt8
namespace Go.Proofs.YtlapdmgjfdelnaaGreat
open Go.RowKit
set_option maxRecDepth 100000

def c20 : ByteArray := ⟨#[99]⟩
def o20 : Opr := ⟨[c20], 5, ByteArray.empty, 2⟩
def t20 : Tr := .mk [] [(c20, .mk [⟨0, 1099511627765, ByteArray.empty, 2⟩] [])]
theorem awk20_B : begE kn0 = 0 := by kernel_rfl
theorem awk20_I : doI kn0 0 o20 = 0 := by kernel_rfl
theorem awk20_A : appI kn0.1 o20 (txD 0) = 0 := by kernel_rfl
theorem awk20_T : appT kn0.1 o20 (txD 0) = t20 := by kernel_rfl
theorem awk20_R : readI t20 [c20] = 0 := by kernel_rfl
theorem awk20_V : readV t20 [c20] = ⟨3, false, 2, []⟩ := by kernel_rfl
theorem awk20_K : (doK kn0 0 o20).1 = t20 := by
  have h1 : doK kn0 0 o20 = aftK kn0 o20 (txD 0) := if_pos awk20_I
  have h2 : aftK kn0 o20 (txD 0) = (appT kn0.1 o20 (txD 0), appC kn0.1 o20 (txD 0)) := jn_nil (app_right awk20_A).1
  rw [h1, h2]
  exact awk20_T
set_option maxHeartbeats 4000000 in
theorem awake20_any (w : World) : Calls Tryz.prog 47 #[] w fun e w' => e = .returned (.bool true) ∧ Below w.heap.size w w' := by
  have HO : Hid (o20.Ok) := ⟨⟨by decide, by decide⟩, ⟨by decide, by decide⟩, by decide⟩
  have HCB : Hid (c20.size ≤ Big) := by unfold Hid; decide
  have HI := hid awk20_I
  go_enter Tryz.func47, Tryz.ntmps47
  go_wp2_with fail
  refine (begin_any kn0 _ _ _ _ rd_empty SlP.nil (by simp [kn0, Tr.sz, Tr.szL]) (by simp [kn0])).mono ?_
  rintro e w1 (⟨h1, _⟩ | ⟨_, g, v, rfl, hg, hst, hb1⟩)
  · rw [awk20_B] at h1; cases h1
  have HST := hid hst
  have hs1 := hb1.size
  have hgl := hst.lt
  clear hst
  go_wp2_with fail
  refine (txDo_any o20 _ _ (HST.out.grow ((Below.refl _ w1).alloc (Nat.le_refl _) (.cells #[.string c20] 9))) kn0_ok (by simp [kn0, Tr.sz, Tr.szL]) (by simp [kn0]) (by simp) (SlA.one (E := StE) (x := c20) (cs := [.string c20]) ⟨rfl, HCB.out⟩ rfl (heap_new rfl) ⟨by omega, by simp, by simp [Value.ownBlock]⟩) HO.out (by simp [o20])).mono ?_
  have hI : doI kn0 ([] : List Opr).length o20 = 0 := awk20_I
  have hK : (doK kn0 ([] : List Opr).length o20).1 = t20 := awk20_K
  rintro e w2 ⟨rfl, ⟨v2, vo2, hst2, _, _⟩, hkp, hbl⟩
  rw [hI]
  have HK := hid hK
  have HST2 := hid hst2
  have hs2 := hbl.size
  rw [World.size_alloc] at hs2
  have HB2 : Hid (Below w.heap.size w w2) := hid ((hb1.alloc hs1 _).trans (hbl.mono hg))
  have hsw2 := HB2.out.size
  clear hK hI hst2 hkp hbl hb1
  go_wp2_with fail
  refine (txRead_any [c20] _ (HST2.out.grow ((Below.refl _ w2).alloc (Nat.le_refl _) (.cells #[.string c20] 9))) (SlP.oneB (E := StE) (x := c20) (cs := [.string c20]) ⟨rfl, HCB.out⟩ rfl _ rfl (by simp)) (by rw [HK.out]; decide)).mono ?_
  rw [HK.out, awk20_R, awk20_V]
  rintro e w3 ⟨vl, rfl, hsl, hb3⟩
  obtain ⟨Al, nl, rfl⟩ := hsl.shape
  have hB3 := (HB2.out.alloc hsw2 (.cells #[.string c20] 9)).trans (hb3.mono (by rw [World.size_alloc]; omega))
  have hb4 := hB3.alloc (o := .cells #[.int .i64 3, .bool false, .int .i64 2, .slice Al 0 nl] 72) hB3.size
  have HB4 := hid hb4
  clear hsl hb3 hB3 hb4
  go_wp2_with fail
  go_ret
  exact ⟨rfl, HB4.out⟩
/-- What a nil go answers. -/
theorem readN_any (vp : Value) (w : World) : Calls Tryz.prog 50 #[.pointer none, vp] w (RetVE w vw0 1) := by
  have hb0 : Below w.heap.size w (w.alloc (.cells #[.int .i64 0, .bool false, .int .i64 0, .slice none 0 0] 72)) := (Below.refl _ w).alloc (Nat.le_refl _) _
  go_enter Tryz.func50, Tryz.ntmps50
  go_wp2_with fail
  exact bodyPost_ret (v := .tuple #[.agg #[.int .i64 0, .bool false, .int .i64 0, .slice none 0 0], .int .i64 1]) (by simp [results, Tryz.results50, go_sem] <;> rfl) rfl ⟨_, rfl, SlA.nil, hb0⟩
theorem doN_any (o : Opr) (vp : Value) (w : World) : Calls Tryz.prog 51 #[.pointer none, .agg #[vp, .int .i64 o.act, .string o.s, .int .i64 o.n]] w fun e w' => e = .returned (.int .i64 1) ∧ Below w.heap.size w w' := by
  have hb0 : Below w.heap.size w (w.alloc (.cells #[vp, .int .i64 o.act, .string o.s, .int .i64 o.n] 67)) := (Below.refl _ w).alloc (Nat.le_refl _) _
  go_enter Tryz.func51, Tryz.ntmps51
  go_wp2_with fail
  go_ret
  exact ⟨rfl, hb0⟩
theorem opsN_any (w : World) : Calls Tryz.prog 54 #[.pointer none] w fun e w' => e = .returned (.slice none 0 0) ∧ Below w.heap.size w w' := by
  go_enter Tryz.func54, Tryz.ntmps54
  go_wp2_with fail
  go_ret
  exact ⟨rfl, Below.refl _ _⟩
theorem groundN_any (w : World) : Calls Tryz.prog 55 #[.pointer none] w fun e w' => e = .returned (.agg #[.slice none 0 0, .slice none 0 0, .slice none 0 0]) ∧ Below w.heap.size w w' := by
  have hb0 : Below w.heap.size w (w.alloc (.cells #[.slice none 0 0, .slice none 0 0, .slice none 0 0] 29)) := (Below.refl _ w).alloc (Nat.le_refl _) _
  go_enter Tryz.func55, Tryz.ntmps55
  go_wp2_with fail
  exact bodyPost_ret (v := .agg #[.slice none 0 0, .slice none 0 0, .slice none 0 0]) (by simp [results, Tryz.results55, go_sem] <;> rfl) rfl ⟨rfl, hb0⟩
theorem deltaN_any (dc fr : Int) (w : World) : Calls Tryz.prog 60 #[.pointer none, .int .i64 dc, .int .i64 fr] w fun e w' => e = .returned (.tuple #[.agg #[.slice none 0 0, .slice none 0 0, .slice none 0 0], .int .i64 1]) ∧ Below w.heap.size w w' := by
  have hb0 : Below w.heap.size w (w.alloc (.cells #[.slice none 0 0, .slice none 0 0, .slice none 0 0] 29)) := (Below.refl _ w).alloc (Nat.le_refl _) _
  go_enter Tryz.func60, Tryz.ntmps60
  go_wp2_with fail
  exact bodyPost_ret (v := .tuple #[.agg #[.slice none 0 0, .slice none 0 0, .slice none 0 0], .int .i64 1]) (by simp [results, Tryz.results60, go_sem] <;> rfl) rfl ⟨rfl, hb0⟩
end Go.Proofs.YtlapdmgjfdelnaaGreat

namespace Go.Proofs.YtlapdmgjfdelnaaGreat
open Go.RowKit
set_option maxRecDepth 100000

set_option maxHeartbeats 4000000 in
theorem lawTN_any (o : Opr) (dc fr : Int) (w : World) (vp : Value) (h : SlP w w.heap.size 1 StE vp o.path) (_ : o.Ok) (_ : I64 dc) (_ : I64 fr) :
    Calls Tryz.prog 14 #[.agg #[vp, .int .i64 o.act, .string o.s, .int .i64 o.n], .int .i64 dc, .int .i64 fr] w fun e w' => e = .returned (.bool true) ∧ Below w.heap.size w w' := by
  obtain ⟨A5, c5, rfl, _⟩ := h
  obtain ⟨path, act, s, n⟩ := o
  simp only
  have HX : Hid (∀ W, Below (w.heap.size + 1) (w.alloc (.cells #[.slice A5 path.length c5, .int .i64 act, .string s, .int .i64 n] 67)) W → (Below w.heap.size w W ∧ w.heap.size + 1 ≤ W.heap.size ∧ W.cell? ⟨w.heap.size, 0, none⟩ = some (.slice A5 path.length c5) ∧ W.cell? ⟨w.heap.size, 1, none⟩ = some (.int .i64 act) ∧ W.cell? ⟨w.heap.size, 2, none⟩ = some (.string s) ∧ W.cell? ⟨w.heap.size, 3, none⟩ = some (.int .i64 n))) := fun W hW => by
    have g0 := (hW.block w.heap.size (by omega)).trans (heap_new rfl)
    exact ⟨((Below.refl _ w).alloc (Nat.le_refl _) _).trans (hW.mono (by omega)), by have := hW.size; simpa using this, cell_cells (i := 0) g0, cell_cells (i := 1) g0, cell_cells (i := 2) g0, cell_cells (i := 3) g0⟩
  go_enter Tryz.func14, Tryz.ntmps14
  go_wp2_with fail
  refine (readN_any _ _).mono ?_
  rintro e w1 ⟨vl, rfl, hsl, hb1⟩
  obtain ⟨Al, nl, rfl⟩ := hsl.shape
  have HSL := hid hsl
  have HB1 := hid (hb1.mono (show w.heap.size + 1 ≤ _ by simp))
  clear hsl hb1
  obtain ⟨_, hs1, _⟩ := HX.out _ HB1.out
  go_wp2_with fail
  refine (deltaN_any dc fr _).mono ?_
  rintro e w2 ⟨rfl, hb2⟩
  have HF2 : Hid (∀ W, Below w2.heap.size w2 W → (Below (w.heap.size + 1) (w.alloc (.cells #[.slice A5 path.length c5, .int .i64 act, .string s, .int .i64 n] 67)) W ∧ SlP W W.heap.size 1 StE (.slice Al vw0.l.length nl) vw0.l ∧ W.cell? ⟨w1.heap.size, 0, none⟩ = some (.int .i64 0) ∧ W.cell? ⟨w1.heap.size, 1, none⟩ = some (.bool false) ∧ W.cell? ⟨w1.heap.size, 2, none⟩ = some (.int .i64 0) ∧ W.cell? ⟨w1.heap.size, 3, none⟩ = some (.slice Al vw0.l.length nl))) := fun W hW => by
    have hz := hb2.size
    rw [World.size_alloc] at hz
    have g0 := (hW.block w1.heap.size (by omega)).trans ((hb2.block w1.heap.size (by simp)).trans (heap_new rfl))
    have hB : Below w1.heap.size w1 W := (((Below.refl _ w1).alloc (Nat.le_refl _) _).trans (hb2.mono (by simp))).trans (hW.mono (by omega))
    exact ⟨HB1.out.trans (hB.mono hs1), HSL.out.slp (fun b hb => hb.2) hB, cell_cells (i := 0) g0, cell_cells (i := 1) g0, cell_cells (i := 2) g0, cell_cells (i := 3) g0⟩
  have hz2 := hb2.size
  rw [World.size_alloc] at hz2
  clear hb2
  have hne : w1.heap.size ≠ w2.heap.size := by omega
  have hne2 : w.heap.size ≠ w2.heap.size := by omega
  have HF3 : Hid (∀ W, Below (w2.heap.size + 1) (w2.alloc (.cells #[.slice none 0 0, .slice none 0 0, .slice none 0 0] 29)) W → (Below w2.heap.size w2 W ∧ w2.heap.size + 1 ≤ W.heap.size ∧ W.cell? ⟨w2.heap.size, 0, none⟩ = some (.slice none 0 0) ∧ W.cell? ⟨w2.heap.size, 1, none⟩ = some (.slice none 0 0) ∧ W.cell? ⟨w2.heap.size, 2, none⟩ = some (.slice none 0 0))) := fun W hW => by
    have g0 := (hW.block w2.heap.size (by omega)).trans (heap_new rfl)
    exact ⟨((Below.refl _ w2).alloc (Nat.le_refl _) _).trans (hW.mono (by omega)), by have := hW.size; simpa using this, cell_cells (i := 0) g0, cell_cells (i := 1) g0, cell_cells (i := 2) g0⟩
  go_wp2_with fail
  refine (awake20_any _).mono ?_
  rintro e w3 ⟨rfl, hb3⟩
  have HB3 := hid (hb3.mono (show w2.heap.size + 1 ≤ _ by simp))
  obtain ⟨b32, s3, d0, d1, d2⟩ := HF3.out _ HB3.out
  obtain ⟨b31, hsl3, e0, e1, e2, e3⟩ := HF2.out _ b32
  obtain ⟨_, _, f0, f1, f2, f3⟩ := HX.out _ b31
  clear hb3 b32 b31 hsl3
  go_wp2_with fail
  refine (doN_any ⟨path, act, s, n⟩ _ _).mono ?_
  rintro e w4 ⟨rfl, hb4⟩
  have HB4 := hid (HB3.out.trans (hb4.mono s3))
  clear d0 d1 d2 e0 e1 e2 e3 f0 f1 f2 f3 hb4
  obtain ⟨b32, s4, d0, d1, d2⟩ := HF3.out _ HB4.out
  obtain ⟨b31, hsl3, e0, e1, e2, e3⟩ := HF2.out _ b32
  clear b32 b31
  go_wp2_with fail
  refine (r15same_any vw0 vw0 _ _ _ hsl3 SlP.nil).mono ?_
  rw [vwEq_self]
  rintro e w5 ⟨rfl, hb5⟩
  have HB5 := hid (HB4.out.trans (hb5.mono s4))
  clear d0 d1 d2 e0 e1 e2 e3 hb5 hsl3
  obtain ⟨b32, s5, d0, d1, d2⟩ := HF3.out _ HB5.out
  clear b32
  go_wp2_with fail
  refine (r09same_any (.mk [] []) (.mk [] []) [] [] _ _ _ _ _ _ _ rd_empty rd_empty SlP.nil SlP.nil).mono ?_
  rw [show (trEq (Tr.mk [] []) (Tr.mk [] []) && decide (([] : List Sp) = [])) = true by simp [trEq]]
  rintro e w6 ⟨rfl, hb6⟩
  have HB6 := hid (HB5.out.trans (hb6.mono s5))
  clear hb6 d0 d1 d2
  go_wp2_with fail
  refine (opsN_any _).mono ?_
  rintro e w7 ⟨rfl, hb7⟩
  have HB7 := hid (HB6.out.trans (hb7.mono (HF3.out _ HB6.out).2.1))
  clear hb7
  go_wp2_with fail
  refine (groundN_any _).mono ?_
  rintro e w8 ⟨rfl, hb8⟩
  have HB8 := hid (HB7.out.trans (hb8.mono (HF3.out _ HB7.out).2.1))
  clear hb8
  go_wp2_with fail
  refine (r09same_any (.mk [] []) (.mk [] []) [] [] _ _ _ _ _ _ _ rd_empty rd_empty SlP.nil SlP.nil).mono ?_
  rw [show (trEq (Tr.mk [] []) (Tr.mk [] []) && decide (([] : List Sp) = [])) = true by simp [trEq]]
  rintro e w9 ⟨rfl, hb9⟩
  have HB9 := hid (HB8.out.trans (hb9.mono (HF3.out _ HB8.out).2.1))
  clear hb9
  go_wp2_with fail
  go_ret
  exact ⟨rfl, (HX.out _ (HF2.out _ (HF3.out _ HB9.out).1).1).1⟩
end Go.Proofs.YtlapdmgjfdelnaaGreat

namespace Go.Proofs.YtlapdmgjfdelnaaGreat
open Go.ChangeShapes Go.WideShapes Go.ChangeAt Go.RowKit
set_option maxRecDepth 100000

/-- No weight of a datum is beyond the reach. -/
def Wt {H : Type} (P : Program) (t : TypeId) (d : DataW H) : Prop := ∀ m ∈ d.weights P t, m ≤ reachBytes

section
variable {H : Type} {enc : TypeId × Value → H} {w : World}

theorem Wt.field {P : Program} {t : TypeId} {fs : Array Field} {parts : List (DataW H)} (hu : P.underlying t = some (.struct fs)) (h : Wt P t (.agg parts)) {i : Nat} {f : Field} {d : DataW H} (hf : fs[i]? = some f) (hd : parts[i]? = some d) : Wt P f.type d := fun m hm => by
  refine h m ?_
  unfold DataW.weights
  rw [hu]
  exact DataW.weights_mem_each (j := i) (t := f.type) (d := d) (by simp [hf]) hd m hm
theorem Wt.all {P : Program} {e : TypeId} : ∀ {ds : List (DataW H)} {d : DataW H}, d ∈ ds → ∀ m ∈ d.weights P e, m ∈ DataW.weightsAll P e ds
  | x :: ds, d, hd, m, hm => by
    rw [DataW.weightsAll]
    rcases List.mem_cons.1 hd with rfl | hd
    · exact List.mem_append_left _ hm
    · exact List.mem_append_right _ (Wt.all hd m hm)
theorem Wt.elem {P : Program} {t e : TypeId} {elems spare : List (DataW H)} (hu : P.underlying t = some (.slice e)) (h : Wt P t (.slice elems spare)) : (elems.length + spare.length) * P.bytesOf e ≤ reachBytes ∧ ∀ d ∈ elems, Wt P e d := by
  unfold Wt at h
  unfold DataW.weights at h
  rw [hu] at h
  refine ⟨h _ (by simp), fun d hd m hm => h m ?_⟩
  exact List.mem_cons_of_mem _ (List.mem_append_left _ (Wt.all hd m hm))

theorem wf_i64 {n : Int} (h : (Lit.int .i64 n).wf = true) : I64 n := by
  have h1 : IntKind.i64.min = -9223372036854775808 := rfl
  have h2 : IntKind.i64.max = 9223372036854775807 := rfl
  simp only [Lit.wf, Bool.and_eq_true, decide_eq_true_eq] at h
  unfold I64; omega

/-- A slice, whose elements are opened by hel. -/
theorem slc_open {α : Type} {E : α → List Value → Prop} {t e : TypeId} {sz bytes fuel : Nat} {cs : List Value} {x : DataW H × List MemPlace} (hu : Tryz.prog.underlying t = some (.slice e)) (hC : Tryz.prog.cellsOf e = sz) (hsz : 0 < sz) (hB : Tryz.prog.bytesOf e = bytes) (hb : 0 < bytes)
    (h : DataW.trod enc Tryz.prog w 0 (fun _ => true) true fuel t cs = some x) (hw : Wt Tryz.prog t x.1)
    (hel : ∀ n cs y, n < fuel → DataW.trod enc Tryz.prog w 0 (fun _ => true) true n e cs = some y → Wt Tryz.prog e y.1 → ∃ a, E a cs) :
    ∃ v xs, cs = [v] ∧ SlP w w.heap.size sz E v xs := by
  rcases DataW.trod_slice hu h with ⟨rfl, rfl⟩ | ⟨a, len, cap, elems, rest, n, rfl, rfl, rfl, _, hl, hm, hlen, he, hs, _⟩
  · exact ⟨_, [], rfl, SlP.nil⟩
  · obtain ⟨hr, hwe⟩ := Wt.elem hu hw
    rw [hB, List.length_map, List.length_map] at hr
    have hrl := (hs rfl).1
    have hcap : cap ≤ Big := by
      have h1 : (elems.length + rest.length) * 1 ≤ (elems.length + rest.length) * bytes := Nat.mul_le_mul_left _ hb
      unfold reachBytes at hr; unfold Big; omega
    have key : ∀ i, i < len → ∃ (x : α) (c : List Value), E x c ∧ c.length = sz ∧ ∀ j, j < sz → w.cell? (a.add (i * sz + j)) = c[j]? := fun i hi => by
      have h1 := he i hi
      have h2 : elems[i]? = some elems[i] := List.getElem?_eq_getElem (by omega)
      rw [h2] at h1
      obtain ⟨c, h3, h4⟩ := Option.bind_eq_some_iff.1 h1
      obtain ⟨_, h5, h6⟩ := World.cells?_some h3
      obtain ⟨x, hx⟩ := hel n c elems[i] (Nat.lt_succ_self n) h4 (hwe _ (List.mem_map.2 ⟨elems[i], List.getElem_mem _, rfl⟩))
      rw [hC] at h5 h6
      exact ⟨x, c, hx, h5, fun j hj => by rw [← Go.Deep.add_add]; exact h6 j hj⟩
    rcases Nat.eq_zero_or_pos len with h0 | h0
    · subst h0
      exact ⟨_, [], rfl, ⟨some a, cap, rfl, Nat.zero_le _, Nat.zero_le _, fun h => absurd rfl h⟩⟩
    · obtain ⟨x0, c0, _, hc0, hcell0⟩ := key 0 h0
      have hv0 := hcell0 0 hsz
      rw [List.getElem?_eq_getElem (by omega)] at hv0
      obtain ⟨b, off, spot⟩ := a
      have hspot : spot = none := by simpa [Addr.add] using World.cell?_spot hv0
      subst hspot
      have hbl : b < w.heap.size := by
        have := World.block_lt_of_cell? w _ hv0
        simpa [Addr.add] using this
      classical
      refine ⟨_, (List.range len).map fun i => if hi : i < len then Classical.choose (key i hi) else x0, rfl, some ⟨b, off, none⟩, cap, by simp, by simp; omega, by simp; omega, fun _ => ⟨b, off, rfl, hbl, fun j x hx => ?_⟩⟩
      have hj : j < len := by have := (List.getElem?_eq_some_iff.1 hx).1; simpa using this
      rw [List.getElem?_map, List.getElem?_range hj] at hx
      simp only [Option.map_some, dif_pos hj, Option.some.injEq] at hx
      obtain ⟨c, h1, h2, h3⟩ := Classical.choose_spec (key j hj)
      rw [hx] at h1
      refine ⟨c, h1, h2, fun i u hi => ?_⟩
      have hlt : i < sz := by have := (List.getElem?_eq_some_iff.1 hi).1; omega
      have := h3 i hlt
      rw [hi] at this
      rw [← this]
      congr 1
      simp [Addr.add, Nat.add_assoc]

theorem cellsOne : Tryz.prog.cellsOf 9 = 1 ∧ Tryz.prog.cellsOf 3 = 1 ∧ Tryz.prog.cellsOf 2 = 1 ∧ Tryz.prog.cellsOf 22 = 1 ∧ Tryz.prog.cellsOf 23 = 1 := by refine ⟨?_, ?_, ?_, ?_, ?_⟩ <;> kernel_rfl
/-- Behind a call that turns nothing that was there, the arguments read as before. -/
theorem trodAll_below (hl : laidOutB Tryz.prog = true) {W' : World} : ∀ (ts : List TypeId) (vs : List Value) (ds : List (DataW H)) (ps : List MemPlace), (∀ t ∈ ts, Tryz.prog.readableRec t = true ∧ t < Tryz.prog.types.size) →
    DataW.TrodAll enc Tryz.prog w 0 (fun _ => true) true ts vs ds ps → Below w.heap.size w W' → (∀ x ∈ ps, x.block < w.heap.size) → DataW.TrodAll enc Tryz.prog W' 0 (fun b => decide (b < w.heap.size)) true ts vs ds ps
  | [], [], [], ps, _, h, _, _ => h
  | t :: ts, v :: vs, d :: ds, ps, hr, h, hb, hlt => by
    obtain ⟨p, q, h1, h2, rfl⟩ := h
    exact ⟨p, q, Below.trod hl (hr t (by simp)).1 (hr t (by simp)).2 h1 hb (fun x hx => hlt x (List.mem_append_left _ hx)), trodAll_below hl ts vs ds q (fun t ht => hr t (by simp [ht])) h2 hb (fun x hx => hlt x (List.mem_append_right _ hx)), rfl⟩
end
end Go.Proofs.YtlapdmgjfdelnaaGreat

namespace Go.Proofs.YtlapdmgjfdelnaaGreat
open Go.ChangeShapes Go.WideShapes Go.ChangeAt Go.RowKit
set_option maxRecDepth 100000

theorem own : ownKnob Tryz.prog.godebug = none := by kernel_rfl
theorem laidOut : laidOutB Tryz.prog = true := by kernel_rfl
theorem okInt64 : Tryz.prog.readableRec 2 = true ∧ 2 < Tryz.prog.types.size := ⟨by kernel_rfl, of_decide_eq_true (by kernel_rfl)⟩

theorem int_arg {H : Type} {enc : TypeId × Value → H} {W : World} {base : Nat} {v : Value} {d : DataW H} {p : List MemPlace} (hv : Value.okWide Tryz.prog W .any base 2 v) (h : DataW.Trod enc Tryz.prog W 0 (fun _ => true) true 2 v d p) :
    ∃ n : Int, v = .int .i64 n ∧ I64 n := by
  obtain ⟨n, rfl, _, _, hw⟩ := open_int Tryz.underlying2 hv h
  exact ⟨n, rfl, wf_i64 hw⟩
end Go.Proofs.YtlapdmgjfdelnaaGreat
