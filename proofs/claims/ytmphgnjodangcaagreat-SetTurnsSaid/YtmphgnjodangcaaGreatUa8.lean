/- What the laws need, part 8: Lists of texts in boxes and arrays; texts alike; the values that OrmapUpdate's error may have. No condition. tributarylaw14.awake answers true. No condition. The law OrmapBelow answers true. No condition. The data that a law is given, read as the plain types: dots, entries, trees. No condition. The frame of a law: its answer is true, and its arguments read as before. No condition. -/
import Derived.Deep.Slices
import Derived.ProofKit
import Derived.SizedLaws
import Derived.Test.YtmphgnjodangcaaGreatProg
import Derived.Test.YtmphgnjodangcaaGreatRows
import Derived.Test.YtmphgnjodangcaaGreatUa7
namespace Go.Proofs.YtmphgnjodangcaaGreat
open Go.RowKit
set_option maxRecDepth 100000

theorem slp1s {w : World} {g B : Nat} {key : ByteArray} {e : TypeId} (hG : w.heap[g]? = some (.cells #[.string key] e (0, 0))) (hk : key.size ≤ Big) (hB : g < B) : SlP w B 1 StE (.slice (some ⟨g, 0, none⟩) 1 1) [key] := SlP.at1 (cell_cells (i := 0) hG) hk hB
theorem SlP.cells1 {w : World} {B b o c : Nat} {x : ByteArray} (h0 : w.cell? ⟨b, o, none⟩ = some (.string x)) (hx : x.size ≤ Big) (hB : b < B) (hc : 1 ≤ c) : SlP w B 1 StE (.slice (some ⟨b, o, none⟩) 1 c) [x] := by
  refine ⟨_, c, rfl, hc, by simp [Big], fun _ => ⟨b, o, rfl, hB, fun j y hy => ?_⟩⟩
  match j, hy with
  | 0, hy =>
    simp at hy; subst hy
    refine ⟨[.string x], ⟨rfl, hx⟩, rfl, fun i u hi => ?_⟩
    match i, hi with
    | 0, hi => simp at hi; subst hi; simpa using h0
    | i + 1, hi => simp at hi
theorem SlP.cells2 {w : World} {B b o c : Nat} {x y : ByteArray} (h0 : w.cell? ⟨b, o, none⟩ = some (.string x)) (h1 : w.cell? ⟨b, o + 1, none⟩ = some (.string y)) (hx : x.size ≤ Big) (hy : y.size ≤ Big) (hB : b < B) (hc : 2 ≤ c) : SlP w B 1 StE (.slice (some ⟨b, o, none⟩) 2 c) [x, y] := by
  refine ⟨_, c, rfl, hc, by simp [Big], fun _ => ⟨b, o, rfl, hB, fun j z hz => ?_⟩⟩
  match j, hz with
  | 0, hz =>
    simp at hz; subst hz
    refine ⟨[.string x], ⟨rfl, hx⟩, rfl, fun i u hi => ?_⟩
    match i, hi with
    | 0, hi => simp at hi; subst hi; simpa using h0
    | i + 1, hi => simp at hi
  | 1, hz =>
    simp at hz; subst hz
    refine ⟨[.string y], ⟨rfl, hy⟩, rfl, fun i u hi => ?_⟩
    match i, hi with
    | 0, hi => simp at hi; subst hi; simpa using h1
    | i + 1, hi => simp at hi
theorem z_newSD {w1 w7 : World} {o : Obj} {a : Array Value} {e : TypeId} (hb : Below ((w1.alloc (.cells a e (0, 0))).alloc o).drew.heap.size ((w1.alloc (.cells a e (0, 0))).alloc o).drew w7) : w7.heap[w1.heap.size]? = some (.cells a e (0, 0)) := (hb.block _ (by first | (simp; done) | (simp; omega))).trans ((heap_old (w := w1.alloc (.cells a e (0, 0))) (by simp)).trans (heap_new rfl))
theorem z_newS2 {w1 w7 : World} {o o2 : Obj} {a : Array Value} {e : TypeId} (hb : Below (((w1.alloc o).alloc (.cells a e (0, 0))).alloc o2).heap.size (((w1.alloc o).alloc (.cells a e (0, 0))).alloc o2) w7) : w7.heap[w1.heap.size + 1]? = some (.cells a e (0, 0)) := (hb.block _ (by first | (simp; done) | (simp; omega))).trans ((heap_old (by simp)).trans (heap_new (by simp)))
theorem z_newS2D {w1 w7 : World} {o o2 : Obj} {a : Array Value} {e : TypeId} (hb : Below (((w1.alloc o).alloc (.cells a e (0, 0))).alloc o2).drew.heap.size (((w1.alloc o).alloc (.cells a e (0, 0))).alloc o2).drew w7) : w7.heap[w1.heap.size + 1]? = some (.cells a e (0, 0)) := (hb.block _ (by first | (simp; done) | (simp; omega))).trans ((heap_old (w := (w1.alloc o).alloc (.cells a e (0, 0))) (by simp)).trans (heap_new (by simp)))
theorem z_new3 {w1 w7 : World} {o o2 : Obj} {a : Array Value} {e : TypeId} (hb : Below (((w1.alloc o).alloc o2).alloc (.cells a e (0, 0))).heap.size (((w1.alloc o).alloc o2).alloc (.cells a e (0, 0))) w7) : w7.heap[w1.heap.size + 1 + 1]? = some (.cells a e (0, 0)) := (hb.block _ (by simp)).trans (heap_new (by simp))
theorem z_new3D {w1 w7 : World} {o o2 : Obj} {a : Array Value} {e : TypeId} (hb : Below (((w1.alloc o).alloc o2).alloc (.cells a e (0, 0))).drew.heap.size (((w1.alloc o).alloc o2).alloc (.cells a e (0, 0))).drew w7) : w7.heap[w1.heap.size + 1 + 1]? = some (.cells a e (0, 0)) := (hb.block _ (by simp)).trans (heap_new (w := (w1.alloc o).alloc o2) (by simp))
theorem alikeB_any (a b : List ByteArray) (va vb : Value) (w : World) (B : Nat) (ha : SlP w B 1 StE va a) (hb : SlP w B 1 StE vb b) :
    Calls Tryz.prog 52 #[va, vb] w fun e w' => e = .returned (.bool (decide (a = b))) ∧ Below w.heap.size w w' :=
  (r10alike_any a b va vb w B ha hb).mono fun _ _ ⟨h, q, hw⟩ => ⟨h, hw ▸ below_drewN (Below.refl _ w) q⟩
end Go.Proofs.YtmphgnjodangcaaGreat

namespace Go.Proofs.YtmphgnjodangcaaGreat
open Go.RowKit
set_option maxRecDepth 100000

def kB : ByteArray := ⟨#[107]⟩
def dB : Tr := .mk [⟨1, 1, ByteArray.empty, 0⟩] []
theorem awk14_E : updE (.mk [] []) kB dB (ctxBy [] [⟨1, 1, 1⟩] 0) = 0 := by kernel_rfl
theorem awk14_T : updT (.mk [] []) kB dB (ctxBy [] [⟨1, 1, 1⟩] 0) = .mk [] [(kB, dB)] := by
  unfold updT; rw [awk14_E, if_pos rfl]; kernel_rfl
theorem awk14_K : keysOf (.mk [] [(kB, dB)]) = [kB] := by kernel_rfl
theorem awk14_G : getT (.mk [] [(kB, dB)]) [kB] = dB := by
  rw [get_law (right_ord _ 5 (by kernel_rfl))]
  unfold getK
  rw [List.foldl_cons, List.foldl_nil]
  unfold kidT
  simp [Tr.ks]
set_option maxHeartbeats 4000000 in
theorem awake14_any (w : World) : Calls Tryz.prog 55 #[] w fun e w' => e = .returned (.bool true) ∧ Below w.heap.size w w' := by
  go_enter Tryz.func55, Tryz.ntmps55
  go_wp2_with fail
  refine (r10put_any [] ⟨1, 1, ByteArray.empty, 0⟩ [] _ _ w ⟨⟨by decide, by decide⟩, ⟨by decide, by decide⟩, ⟨by decide, by decide⟩, by simp [Big]⟩ SlP.nil SlP.nil (by simp) (fun _ h => by cases h) (fun s hs => by simp at hs; subst hs; decide)).mono ?_
  rintro e w1 ⟨ve, vk, vc, rfl, hrd, hsc, hb1⟩
  rw [build_one_leaf, show (Tr.mk [⟨1, 1, ByteArray.empty, 0⟩] [] : Tr) = dB from rfl] at hrd
  have hE := awk14_E
  have hT := awk14_T
  have hcl : (ctxBy [] [(⟨1, 1, 1⟩ : Sp)] 0).length ≤ 20000 := by have := ctxBy_len [] [(⟨1, 1, 1⟩ : Sp)] 0; simp at this; omega
  simp only [] at hsc
  generalize ctxBy [] [(⟨1, 1, 1⟩ : Sp)] 0 = C at *
  have HE := hid hE
  have HT2 := hid hT
  clear hE hT
  obtain ⟨Ae, ne, Ak, nk, rfl, rfl⟩ := rda_shape hrd
  obtain ⟨Ac, nc, rfl⟩ := hsc.shape
  have hs1 := hb1.size
  have HT : Hid (∀ w', Below w1.heap.size w1 w' → dB.rd w' w'.heap.size (.slice Ae dB.es.length ne) (.slice Ak dB.ks.length nk)) := fun w' hb => rda_rd hrd (fun b hb => hb.2) hb
  have HCt : Hid (∀ w', Below w1.heap.size w1 w' → SlP w' w'.heap.size 3 SpE (.slice Ac C.length nc) C) := fun w' hb => hsc.slp (fun b hb => hb.2) hb
  clear hrd hsc
  go_wp2_with fail
  refine (oupdate_any (.mk [] []) dB C kB _ _ _ _ _ _ rd_empty (HT.out _ (by go_grown)) (HCt.out _ (by go_grown)) (by decide) (by decide) (by decide) hcl).mono ?_
  rintro e w2 ⟨ve2, vk2, vc2, rfl, hrd, hsc, hb2⟩
  rw [HE.out]
  rw [HT2.out] at hrd
  have hgt := awk14_G
  have hkt := awk14_K
  have hTe : (Tr.mk [] [(kB, dB)]).es.length = 0 := rfl
  have hTk : (Tr.mk [] [(kB, dB)]).ks.length = 1 := rfl
  have hTz : (Tr.mk [] [(kB, dB)]).sz ≤ 100000 := by decide
  obtain ⟨Ae2, ne2, Ak2, nk2, rfl, rfl⟩ := rda_shape hrd
  obtain ⟨Ac2, nc2, rfl⟩ := hsc.shape
  generalize updC (.mk [] []) kB dB C = C2 at *
  generalize (Tr.mk [] [(kB, dB)] : Tr) = T at *
  have hks : (keysOf T).length = 1 := by rw [hkt]; rfl
  have hse : trEq (getT T [kB]) dB = true := by rw [hgt]; simp [trEq]
  generalize dB = D at *
  have HGT := hid hse
  have HKT := hid hkt
  clear hgt hkt hse
  have hs2 := hb2.size
  simp only [World.size_alloc] at hs2
  have hB2 : Below w1.heap.size w1 w2 := ((Below.refl _ w1).alloc (Nat.le_refl _) _).trans (hb2.mono (by simp))
  have x0 : w2.cell? ⟨w1.heap.size, 0, none⟩ = some (.slice Ae D.es.length ne) := by rw [hb2.cell (p := ⟨w1.heap.size, 0, none⟩) (by simp), World.cell?_alloc_new]; rfl
  have x1 : w2.cell? ⟨w1.heap.size, 1, none⟩ = some (.slice Ak D.ks.length nk) := by rw [hb2.cell (p := ⟨w1.heap.size, 1, none⟩) (by simp), World.cell?_alloc_new]; rfl
  have hlt1 : w1.heap.size < w2.heap.size := by omega
  have hne1 : w1.heap.size ≠ w2.heap.size := by omega
  have HB : Hid (∀ w', Below (w2.heap.size + 1) (w2.alloc (.cells #[.slice Ae2 T.es.length ne2, .slice Ak2 T.ks.length nk2, .slice Ac2 C2.length nc2] 31)) w' → Below w.heap.size w w' ∧ D.rd w' w'.heap.size (.slice Ae D.es.length ne) (.slice Ak D.ks.length nk) ∧ T.rd w' w'.heap.size (.slice Ae2 T.es.length ne2) (.slice Ak2 T.ks.length nk2) ∧ (w'.cell? ⟨w1.heap.size, 0, none⟩ = some (.slice Ae D.es.length ne) ∧ w'.cell? ⟨w1.heap.size, 1, none⟩ = some (.slice Ak D.ks.length nk) ∧ w'.cell? ⟨w2.heap.size, 0, none⟩ = some (.slice Ae2 T.es.length ne2) ∧ w'.cell? ⟨w2.heap.size, 1, none⟩ = some (.slice Ak2 T.ks.length nk2))) := fun w' hb => by
    have hB : Below w2.heap.size w2 w' := ((Below.refl _ w2).alloc (Nat.le_refl _) _).trans (hb.mono (by omega))
    have hB1 : Below w1.heap.size w1 w' := hB2.trans (hB.mono (by omega))
    refine ⟨hb1.trans (hB1.mono hs1), HT.out _ hB1, rda_rd hrd (fun b hb => hb.2) hB, ?_, ?_, ?_, ?_⟩
    · rw [hB.cell (p := ⟨w1.heap.size, 0, none⟩) (by show w1.heap.size < _; omega)]; exact x0
    · rw [hB.cell (p := ⟨w1.heap.size, 1, none⟩) (by show w1.heap.size < _; omega)]; exact x1
    · rw [hb.cell (p := ⟨w2.heap.size, 0, none⟩) (by simp), World.cell?_alloc_new]; rfl
    · rw [hb.cell (p := ⟨w2.heap.size, 1, none⟩) (by simp), World.cell?_alloc_new]; rfl
  have HAK : Hid (decide (keysOf T = [kB]) = true) := by unfold Hid; rw [HKT.out]; simp
  have HKL : Hid ((keysOf T).length ≤ Big) := by unfold Hid; rw [HKT.out]; decide
  have HSM : Hid (trEq (getT T [kB]) D = true) := HGT.out
  have HKZ : Hid (kB.size ≤ Big) := by unfold Hid; decide
  have hTl : T.ks.length ≤ 900000 := by omega
  clear hrd hsc hb2 hTe hTk hks
  go_upto_region 3 with (fail)
  go_region_held3 (fun w' => w'.cell? ⟨w1.heap.size, 0, none⟩ = some (.slice Ae D.es.length ne) ∧ w'.cell? ⟨w1.heap.size, 1, none⟩ = some (.slice Ak D.ks.length nk) ∧ w'.cell? ⟨w2.heap.size, 0, none⟩ = some (.slice Ae2 T.es.length ne2) ∧ w'.cell? ⟨w2.heap.size, 1, none⟩ = some (.slice Ak2 T.ks.length nk2))
    (first | go_keep | exact (HB.out _ hb6.out).2.2.2 | exact (HB.out _ hb5.out).2.2.2 | exact (HB.out _ hb4.out).2.2.2 | exact (HB.out _ hb3.out).2.2.2)
    (first | (go_at_call 132; go_loud ((refine (okeys_any T _ _ _ (HB.out _ (by go_grown)).2.2.1 (by omega)).mono ?_); rintro e w3 ⟨v3, rfl, ho3, hb⟩; obtain ⟨A9, c9, hv9⟩ := ho3.shape; subst hv9; have HK3 := hid (ho3.sl HKL.out); have hb3 : Hid (Below (w2.heap.size + 1) (w2.alloc (.cells #[.slice Ae2 T.es.length ne2, .slice Ak2 T.ks.length nk2, .slice Ac2 C2.length nc2] 31)) w3) := (Below.trans (by go_grown) (hb.mono (by simp))); have hs3 := hb3.out.size; simp only [World.size_alloc] at hs3; (try (have HKC : Hid (w3.cell? ⟨w2.heap.size + 1, 0, none⟩ = some (.string kB)) := (hb.cell (p := ⟨w2.heap.size + 1, 0, none⟩) (by simp; done)).trans (by rw [World.cell?_drew, World.cell?_alloc_at _ _ _ _ (by simp)]; rfl))); (try (have HKC : Hid (w3.cell? ⟨w2.heap.size + 1, 0, none⟩ = some (.string kB)) := (hb.cell (p := ⟨w2.heap.size + 1, 0, none⟩) (by simp; done)).trans (by rw [World.cell?_alloc_at _ _ _ _ (by simp)]; rfl))); clear ho3))
           | (go_at_call 52; go_loud ((refine (r10alike_any (keysOf T) [kB] _ _ _ (w3.heap.size + 1) (HK3.out.imp (by go_grown) (by omega) fun _ _ _ h => h) (by first | exact SlP.oneB (x := kB) (cs := [.string kB]) ⟨rfl, HKZ.out⟩ rfl _ rfl (by omega) | exact SlP.at1 HKC.out HKZ.out (by have := hb.size; simp at this; omega))).mono ?_); rw [HAK.out]; rintro e w4 ⟨rfl, n4, hw4⟩; have hb4 : Hid (Below (w2.heap.size + 1) (w2.alloc (.cells #[.slice Ae2 T.es.length ne2, .slice Ak2 T.ks.length nk2, .slice Ac2 C2.length nc2] 31)) w4) := (hw4 ▸ below_drewN (by first | exact hb3.out | exact hb3.out.alloc (by omega) _) n4); have hs4 := hb4.out.size; simp only [World.size_alloc] at hs4; clear hw4))
           | (go_at_call 59; go_loud ((refine (r08get_any T [kB] _ _ _ _ (HB.out _ (hb4.out.alloc (by omega) _)).2.2.1 (SlP.oneB (x := kB) (cs := [.string kB]) ⟨rfl, HKZ.out⟩ rfl _ rfl (by simp)) hTz).mono ?_); rintro e w5 ⟨ve5, vk5, rfl, hrd5, hb⟩; obtain ⟨A5, n5, A6, n6, hv5, hv6⟩ := rda_shape hrd5; subst hv5; subst hv6; have hb5 := hid ((hb4.out.alloc (by omega) _).trans (hb.mono (by simp; omega))); have hrd6 := hid (rda_rd hrd5 (fun b hb => hb.2) (Below.refl _ _)); clear hrd5 hb))
           | (go_at_call 114; go_loud ((refine (r08same_any (getT T [kB]) D _ _ _ _ _ hrd6.out (HB.out _ hb5.out).2.1).mono ?_); rw [HSM.out]; rintro e w6 ⟨rfl, hb⟩; have hb6 := hid (hb5.out.trans (hb.mono (by have := hb5.out.size; simpa using this))))))
  all_goals
    go_wp2_with fail
    go_ret
    exact ⟨rfl, (HB.out _ hb6.out).1⟩
end Go.Proofs.YtmphgnjodangcaaGreat

namespace Go.Proofs.YtmphgnjodangcaaGreat
open Go.RowKit
set_option maxRecDepth 100000

set_option maxHeartbeats 4000000 in
theorem lawOB_any (t : Tr) (key : ByteArray) (D : Tr) (Dc : List Sp) (w : World) (ve0 vk0 ve2 vk2 vc2 : Value) (h0 : t.rd w w.heap.size ve0 vk0) (h1 : key.size ≤ Big) (h2 : D.rd w w.heap.size ve2 vk2) (hc2 : SlP w w.heap.size 3 SpE vc2 Dc) :
    Calls Tryz.prog 8 #[.agg #[ve0, vk0], .string key, .agg #[ve2, vk2, vc2]] w fun e w' => e = .returned (.bool true) ∧ Below w.heap.size w w' := by
  have HC0 : Hid (∀ w', Below w.heap.size w w' → t.rd w' w'.heap.size ve0 vk0) := fun w' hb => rd_below hb hb.size _ _ _ h0
  obtain ⟨A0, n0, B0, m0, rfl, rfl⟩ := rd_shape h0
  clear h0
  have HC2 : Hid (∀ w', Below w.heap.size w w' → D.rd w' w'.heap.size ve2 vk2) := fun w' hb => rd_below hb hb.size _ _ _ h2
  have HD2 : Hid (∀ w', Below w.heap.size w w' → SlP w' w'.heap.size 3 SpE vc2 Dc) := fun w' hb => hc2.imp hb hb.size fun _ _ _ h => h
  obtain ⟨A2, n2, B2, m2, rfl, rfl⟩ := rd_shape h2
  obtain ⟨D2, k2, rfl, _⟩ := hc2
  clear h2
  have HX0 : Hid (∀ W, Below (w.heap.size + 2) ((w.alloc (.cells #[.slice A0 t.es.length n0, .slice B0 t.ks.length m0] 27)).alloc (.cells #[.slice A2 D.es.length n2, .slice B2 D.ks.length m2, .slice D2 Dc.length k2] 31)) W → (Below w.heap.size w W ∧ w.heap.size + 2 ≤ (W).heap.size ∧ t.rd W (W).heap.size (.slice A0 t.es.length n0) (.slice B0 t.ks.length m0) ∧ D.rd W (W).heap.size (.slice A2 D.es.length n2) (.slice B2 D.ks.length m2) ∧ SlP W (W).heap.size 3 SpE (.slice D2 Dc.length k2) Dc ∧ (W).cell? ⟨w.heap.size, 0, none⟩ = some (.slice A0 t.es.length n0) ∧ (W).cell? ⟨w.heap.size, 1, none⟩ = some (.slice B0 t.ks.length m0) ∧ (W).cell? ⟨(w.heap.size + 1), 0, none⟩ = some (.slice A2 D.es.length n2) ∧ (W).cell? ⟨(w.heap.size + 1), 1, none⟩ = some (.slice B2 D.ks.length m2) ∧ (W).cell? ⟨(w.heap.size + 1), 2, none⟩ = some (.slice D2 Dc.length k2))) := fun W hW => by
    have g0 : W.heap[w.heap.size]? = some (.cells #[.slice A0 t.es.length n0, .slice B0 t.ks.length m0] 27 (0, 0)) := (hW.block _ (by omega)).trans ((heap_old (by simp <;> omega)).trans (heap_new rfl))
    have g1 : W.heap[(w.heap.size + 1)]? = some (.cells #[.slice A2 D.es.length n2, .slice B2 D.ks.length m2, .slice D2 Dc.length k2] 31 (0, 0)) := (hW.block _ (by omega)).trans (heap_new (by simp))
    have hB : Below w.heap.size w W := (((Below.refl _ w).alloc (Nat.le_refl _) _).alloc (by simp <;> omega) _).trans (hW.mono (by omega))
    exact ⟨hB, by have := hW.size; simpa using this, HC0.out _ hB, HC2.out _ hB, HD2.out _ hB, cell_cells (i := 0) g0, cell_cells (i := 1) g0, cell_cells (i := 0) g1, cell_cells (i := 1) g1, cell_cells (i := 2) g1⟩
  have hnb1 : w.heap.size + 1 ≠ w.heap.size := by omega
  go_enter Tryz.func8, Tryz.ntmps8
  go_wp2_with fail
  obtain ⟨hB, hs, rt0, rt2, rc2, c00, c01, c20, c21, c22⟩ := HX0.out _ (Below.refl _ _)
  refine (awake14_any _).mono ?_
  rintro e w1 ⟨rfl, hb⟩
  have hbk1 : Hid (Below (w.heap.size + 2) ((w.alloc (.cells #[.slice A0 t.es.length n0, .slice B0 t.ks.length m0] 27)).alloc (.cells #[.slice A2 D.es.length n2, .slice B2 D.ks.length m2, .slice D2 Dc.length k2] 31)) w1) := hid (hb.mono (by first | omega | (simp; done) | (simp; omega)))
  clear hb
  clear hB hs rt0 rt2 rc2 c00 c01 c20 c21 c22
  obtain ⟨hB, hs, rt0, rt2, rc2, c00, c01, c20, c21, c22⟩ := HX0.out _ hbk1.out
  go_wp2_with fail
  refine (small14_any t _ _ _ rt0).mono ?_
  rintro e w2 ⟨rfl, hb⟩
  have hbk2 : Hid (Below (w.heap.size + 2) ((w.alloc (.cells #[.slice A0 t.es.length n0, .slice B0 t.ks.length m0] 27)).alloc (.cells #[.slice A2 D.es.length n2, .slice B2 D.ks.length m2, .slice D2 Dc.length k2] 31)) w2) := hid (hbk1.out.trans (hb.mono (by first | omega | (simp; done) | (simp; omega))))
  clear hb
  clear hB hs rt0 rt2 rc2 c00 c01 c20 c21 c22
  obtain ⟨hB, hs, rt0, rt2, rc2, c00, c01, c20, c21, c22⟩ := HX0.out _ hbk2.out
  cases hs : smlB t 60
  · clear hs
    go_wp2_with fail
    refine (awake14_any _).mono ?_
    rintro e w3 ⟨rfl, hb⟩
    have hbk3 : Hid (Below (w.heap.size + 2) ((w.alloc (.cells #[.slice A0 t.es.length n0, .slice B0 t.ks.length m0] 27)).alloc (.cells #[.slice A2 D.es.length n2, .slice B2 D.ks.length m2, .slice D2 Dc.length k2] 31)) w3) := hid (hbk2.out.trans (hb.mono (by first | omega | (simp; done) | (simp; omega))))
    clear hb
    clear hB hs rt0 rt2 rc2 c00 c01 c20 c21 c22
    obtain ⟨hB, hs, rt0, rt2, rc2, c00, c01, c20, c21, c22⟩ := HX0.out _ hbk3.out
    go_wp2_with fail
    go_ret
    exact ⟨rfl, hB⟩
  have hsz : t.sz ≤ 60 := by have := sml_sz hs; omega
  clear hs
  go_wp2_with fail
  refine (r09small_any D Dc 40 _ _ _ _ rt2 rc2 (by omega) (by omega)).mono ?_
  rintro e w3 ⟨rfl, hb⟩
  have hbk3 : Hid (Below (w.heap.size + 2) ((w.alloc (.cells #[.slice A0 t.es.length n0, .slice B0 t.ks.length m0] 27)).alloc (.cells #[.slice A2 D.es.length n2, .slice B2 D.ks.length m2, .slice D2 Dc.length k2] 31)) w3) := hid (hbk2.out.trans (hb.mono (by first | omega | (simp; done) | (simp; omega))))
  clear hb
  clear hB hs rt0 rt2 rc2 c00 c01 c20 c21 c22
  obtain ⟨hB, hs, rt0, rt2, rc2, c00, c01, c20, c21, c22⟩ := HX0.out _ hbk3.out
  cases hs : sml9 D Dc 40
  · clear hs
    go_wp2_with fail
    refine (awake14_any _).mono ?_
    rintro e w4 ⟨rfl, hb⟩
    have hbk4 : Hid (Below (w.heap.size + 2) ((w.alloc (.cells #[.slice A0 t.es.length n0, .slice B0 t.ks.length m0] 27)).alloc (.cells #[.slice A2 D.es.length n2, .slice B2 D.ks.length m2, .slice D2 Dc.length k2] 31)) w4) := hid (hbk3.out.trans (hb.mono (by first | omega | (simp; done) | (simp; omega))))
    clear hb
    clear hB hs rt0 rt2 rc2 c00 c01 c20 c21 c22
    obtain ⟨hB, hs, rt0, rt2, rc2, c00, c01, c20, c21, c22⟩ := HX0.out _ hbk4.out
    go_wp2_with fail
    go_ret
    exact ⟨rfl, hB⟩
  obtain ⟨z1, z2⟩ := sml9_sz hs
  clear hs
  go_wp2_with fail
  refine (r08Right_any t _ _ _ rt0).mono ?_
  rintro e w4 ⟨rfl, hb⟩
  have hbk4 : Hid (Below (w.heap.size + 2) ((w.alloc (.cells #[.slice A0 t.es.length n0, .slice B0 t.ks.length m0] 27)).alloc (.cells #[.slice A2 D.es.length n2, .slice B2 D.ks.length m2, .slice D2 Dc.length k2] 31)) w4) := hid (hbk3.out.trans (hb.mono (by first | omega | (simp; done) | (simp; omega))))
  clear hb
  clear hB hs rt0 rt2 rc2 c00 c01 c20 c21 c22
  obtain ⟨hB, hs, rt0, rt2, rc2, c00, c01, c20, c21, c22⟩ := HX0.out _ hbk4.out
  cases hr : t.right 5
  · clear hr
    go_wp2_with fail
    refine (awake14_any _).mono ?_
    rintro e w5 ⟨rfl, hb⟩
    have hbk5 : Hid (Below (w.heap.size + 2) ((w.alloc (.cells #[.slice A0 t.es.length n0, .slice B0 t.ks.length m0] 27)).alloc (.cells #[.slice A2 D.es.length n2, .slice B2 D.ks.length m2, .slice D2 Dc.length k2] 31)) w5) := hid (hbk4.out.trans (hb.mono (by first | omega | (simp; done) | (simp; omega))))
    clear hb
    clear hB hs rt0 rt2 rc2 c00 c01 c20 c21 c22
    obtain ⟨hB, hs, rt0, rt2, rc2, c00, c01, c20, c21, c22⟩ := HX0.out _ hbk5.out
    go_wp2_with fail
    go_ret
    exact ⟨rfl, hB⟩
  obtain ⟨E, HE⟩ : ∃ E : Int, Hid (updE t key D Dc = E) := ⟨_, rfl⟩
  rcases updE_vals t key D Dc with hE | hE | hE | hE <;> rw [HE.out] at hE
  · subst hE
    obtain ⟨X, G, A, U, B, V, HT, HC, HJE, HJT, HJC, HG, HIE, HIT, HIC, HTG, HTS, hX1, hG1, hA1, hB1, hK1, HN⟩ := ob_plain hr HE.out hsz z1 z2
    clear hr
    go_wp2_with fail
    refine (oupdate_any t D Dc key _ _ _ _ _ _ rt0 rt2 rc2 h1 (by omega) (by omega) (by omega)).mono ?_
    rw [HT.out, HC.out, HE.out]
    rintro e w5 ⟨xe5, xk5, xc5, rfl, hrd5, hsl5, hb⟩
    obtain ⟨A5x, n5x, B5x, m5x, rfl, rfl⟩ := rda_shape hrd5
    obtain ⟨D5x, k5x, rfl⟩ := hsl5.shape
    have hbk5 : Hid (Below (w.heap.size + 2) ((w.alloc (.cells #[.slice A0 t.es.length n0, .slice B0 t.ks.length m0] 27)).alloc (.cells #[.slice A2 D.es.length n2, .slice B2 D.ks.length m2, .slice D2 Dc.length k2] 31)) w5) := hid (hbk4.out.trans (hb.mono (by first | omega | (simp; done) | (simp; omega))))
    clear hb
    clear hB hs rt0 rt2 rc2 c00 c01 c20 c21 c22
    obtain ⟨hB, hs, rt0, rt2, rc2, c00, c01, c20, c21, c22⟩ := HX0.out _ hbk5.out
    have hlt5317 : w.heap.size < w5.heap.size := by omega
    have hne5317 : w.heap.size ≠ w5.heap.size := by omega
    have hnr5317 : w5.heap.size ≠ w.heap.size := by omega
    have hlt5821 : (w.heap.size + 1) < w5.heap.size := by omega
    have hne5821 : (w.heap.size + 1) ≠ w5.heap.size := by omega
    have hnr5821 : w5.heap.size ≠ (w.heap.size + 1) := by omega
    have HX1 : Hid (∀ W, Below (w5.heap.size + 1) (w5.alloc (.cells #[.slice A5x X.es.length n5x, .slice B5x X.ks.length m5x, .slice D5x Dc.length k5x] 31)) W → (w5.heap.size + 1 ≤ (W).heap.size ∧ X.rd W (W).heap.size (.slice A5x X.es.length n5x) (.slice B5x X.ks.length m5x) ∧ SlP W (W).heap.size 3 SpE (.slice D5x Dc.length k5x) Dc ∧ (W).cell? ⟨w5.heap.size, 0, none⟩ = some (.slice A5x X.es.length n5x) ∧ (W).cell? ⟨w5.heap.size, 1, none⟩ = some (.slice B5x X.ks.length m5x) ∧ (W).cell? ⟨w5.heap.size, 2, none⟩ = some (.slice D5x Dc.length k5x) ∧ Below w.heap.size w W ∧ w.heap.size + 2 ≤ (W).heap.size ∧ t.rd W (W).heap.size (.slice A0 t.es.length n0) (.slice B0 t.ks.length m0) ∧ D.rd W (W).heap.size (.slice A2 D.es.length n2) (.slice B2 D.ks.length m2) ∧ SlP W (W).heap.size 3 SpE (.slice D2 Dc.length k2) Dc ∧ (W).cell? ⟨w.heap.size, 0, none⟩ = some (.slice A0 t.es.length n0) ∧ (W).cell? ⟨w.heap.size, 1, none⟩ = some (.slice B0 t.ks.length m0) ∧ (W).cell? ⟨(w.heap.size + 1), 0, none⟩ = some (.slice A2 D.es.length n2) ∧ (W).cell? ⟨(w.heap.size + 1), 1, none⟩ = some (.slice B2 D.ks.length m2) ∧ (W).cell? ⟨(w.heap.size + 1), 2, none⟩ = some (.slice D2 Dc.length k2))) := fun W hW => by
      have g0 := (hW.block w5.heap.size (by omega)).trans (heap_new rfl)
      have hB : Below w5.heap.size w5 W := ((Below.refl _ w5).alloc (Nat.le_refl _) _).trans (hW.mono (by omega))
      exact ⟨by have := hW.size; simpa using this, rda_rd hrd5 (fun b hb => hb.2) hB, hsl5.slp (fun b hb => hb.2) hB, cell_cells (i := 0) g0, cell_cells (i := 1) g0, cell_cells (i := 2) g0, HX0.out W (hbk5.out.trans (hB.mono (by omega)))⟩
    clear hrd5 hsl5
    go_wp2_with fail
    clear hB hs rt0 rt2 rc2 c00 c01 c20 c21 c22
    obtain ⟨hs_x, rt_x, rc_x, c0_x, c1_x, c2_x, hB, hs, rt0, rt2, rc2, c00, c01, c20, c21, c22⟩ := HX1.out _ (Below.refl _ _)
    refine (r10known_any t _ _ _ rt0 (by omega) HN.out).mono ?_
    rintro e w6 ⟨xc6, rfl, hsl6, hb⟩
    obtain ⟨D6x, k6x, rfl⟩ := hsl6.shape
    have hbk6 : Hid (Below (w5.heap.size + 1) (w5.alloc (.cells #[.slice A5x X.es.length n5x, .slice B5x X.ks.length m5x, .slice D5x Dc.length k5x] 31)) w6) := hid (hb.mono (by first | omega | (simp; done) | (simp; omega)))
    clear hb
    clear hs_x rt_x rc_x c0_x c1_x c2_x hB hs rt0 rt2 rc2 c00 c01 c20 c21 c22
    obtain ⟨hs_x, rt_x, rc_x, c0_x, c1_x, c2_x, hB, hs, rt0, rt2, rc2, c00, c01, c20, c21, c22⟩ := HX1.out _ hbk6.out
    have hlt6317 : w.heap.size < w6.heap.size := by omega
    have hne6317 : w.heap.size ≠ w6.heap.size := by omega
    have hnr6317 : w6.heap.size ≠ w.heap.size := by omega
    have hlt6821 : (w.heap.size + 1) < w6.heap.size := by omega
    have hne6821 : (w.heap.size + 1) ≠ w6.heap.size := by omega
    have hnr6821 : w6.heap.size ≠ (w.heap.size + 1) := by omega
    have hlt6231 : w5.heap.size < w6.heap.size := by omega
    have hne6231 : w5.heap.size ≠ w6.heap.size := by omega
    have hnr6231 : w6.heap.size ≠ w5.heap.size := by omega
    have HX2 : Hid (∀ W, Below (w6.heap.size + 1) (w6.alloc (.cells #[.slice A0 t.es.length n0, .slice B0 t.ks.length m0, .slice D6x (ctxOf t.dots).length k6x] 31)) W → (w6.heap.size + 1 ≤ (W).heap.size ∧ SlP W (W).heap.size 3 SpE (.slice D6x (ctxOf t.dots).length k6x) (ctxOf t.dots) ∧ (W).cell? ⟨w6.heap.size, 0, none⟩ = some (.slice A0 t.es.length n0) ∧ (W).cell? ⟨w6.heap.size, 1, none⟩ = some (.slice B0 t.ks.length m0) ∧ (W).cell? ⟨w6.heap.size, 2, none⟩ = some (.slice D6x (ctxOf t.dots).length k6x) ∧ w5.heap.size + 1 ≤ (W).heap.size ∧ X.rd W (W).heap.size (.slice A5x X.es.length n5x) (.slice B5x X.ks.length m5x) ∧ SlP W (W).heap.size 3 SpE (.slice D5x Dc.length k5x) Dc ∧ (W).cell? ⟨w5.heap.size, 0, none⟩ = some (.slice A5x X.es.length n5x) ∧ (W).cell? ⟨w5.heap.size, 1, none⟩ = some (.slice B5x X.ks.length m5x) ∧ (W).cell? ⟨w5.heap.size, 2, none⟩ = some (.slice D5x Dc.length k5x) ∧ Below w.heap.size w W ∧ w.heap.size + 2 ≤ (W).heap.size ∧ t.rd W (W).heap.size (.slice A0 t.es.length n0) (.slice B0 t.ks.length m0) ∧ D.rd W (W).heap.size (.slice A2 D.es.length n2) (.slice B2 D.ks.length m2) ∧ SlP W (W).heap.size 3 SpE (.slice D2 Dc.length k2) Dc ∧ (W).cell? ⟨w.heap.size, 0, none⟩ = some (.slice A0 t.es.length n0) ∧ (W).cell? ⟨w.heap.size, 1, none⟩ = some (.slice B0 t.ks.length m0) ∧ (W).cell? ⟨(w.heap.size + 1), 0, none⟩ = some (.slice A2 D.es.length n2) ∧ (W).cell? ⟨(w.heap.size + 1), 1, none⟩ = some (.slice B2 D.ks.length m2) ∧ (W).cell? ⟨(w.heap.size + 1), 2, none⟩ = some (.slice D2 Dc.length k2))) := fun W hW => by
      have g0 := (hW.block w6.heap.size (by omega)).trans (heap_new rfl)
      have hB : Below w6.heap.size w6 W := ((Below.refl _ w6).alloc (Nat.le_refl _) _).trans (hW.mono (by omega))
      exact ⟨by have := hW.size; simpa using this, hsl6.slp (fun b hb => hb.2) hB, cell_cells (i := 0) g0, cell_cells (i := 1) g0, cell_cells (i := 2) g0, HX1.out W (hbk6.out.trans (hB.mono (by omega)))⟩
    clear hsl6
    go_wp2_with fail
    clear hs_x rt_x rc_x c0_x c1_x c2_x hB hs rt0 rt2 rc2 c00 c01 c20 c21 c22
    obtain ⟨hs_k, rc_k, c0_k, c1_k, c2_k, hs_x, rt_x, rc_x, c0_x, c1_x, c2_x, hB, hs, rt0, rt2, rc2, c00, c01, c20, c21, c22⟩ := HX2.out _ (Below.refl _ _)
    refine (cJoin_any (knC t) Dc t X _ _ _ _ _ _ _ rt0 rt_x rc_k rc_x (by omega) (by omega) (by omega) (by omega)).mono ?_
    rw [HJT.out, HJC.out, HJE.out]
    rintro e w7 ⟨xe7, xk7, xc7, rfl, hrd7, hsl7, hb⟩
    obtain ⟨A7x, n7x, B7x, m7x, rfl, rfl⟩ := rda_shape hrd7
    obtain ⟨D7x, k7x, rfl⟩ := hsl7.shape
    have hbk7 : Hid (Below (w6.heap.size + 1) (w6.alloc (.cells #[.slice A0 t.es.length n0, .slice B0 t.ks.length m0, .slice D6x (ctxOf t.dots).length k6x] 31)) w7) := hid (hb.mono (by first | omega | (simp; done) | (simp; omega)))
    clear hb
    clear hs_k rc_k c0_k c1_k c2_k hs_x rt_x rc_x c0_x c1_x c2_x hB hs rt0 rt2 rc2 c00 c01 c20 c21 c22
    obtain ⟨hs_k, rc_k, c0_k, c1_k, c2_k, hs_x, rt_x, rc_x, c0_x, c1_x, c2_x, hB, hs, rt0, rt2, rc2, c00, c01, c20, c21, c22⟩ := HX2.out _ hbk7.out
    have hlt7317 : w.heap.size < w7.heap.size := by omega
    have hne7317 : w.heap.size ≠ w7.heap.size := by omega
    have hnr7317 : w7.heap.size ≠ w.heap.size := by omega
    have hlt7821 : (w.heap.size + 1) < w7.heap.size := by omega
    have hne7821 : (w.heap.size + 1) ≠ w7.heap.size := by omega
    have hnr7821 : w7.heap.size ≠ (w.heap.size + 1) := by omega
    have hlt7231 : w5.heap.size < w7.heap.size := by omega
    have hne7231 : w5.heap.size ≠ w7.heap.size := by omega
    have hnr7231 : w7.heap.size ≠ w5.heap.size := by omega
    have hlt7901 : w6.heap.size < w7.heap.size := by omega
    have hne7901 : w6.heap.size ≠ w7.heap.size := by omega
    have hnr7901 : w7.heap.size ≠ w6.heap.size := by omega
    have HX3 : Hid (∀ W, Below (w7.heap.size + 1) (w7.alloc (.cells #[.slice A7x A.es.length n7x, .slice B7x A.ks.length m7x, .slice D7x U.length k7x] 31)) W → (w7.heap.size + 1 ≤ (W).heap.size ∧ A.rd W (W).heap.size (.slice A7x A.es.length n7x) (.slice B7x A.ks.length m7x) ∧ SlP W (W).heap.size 3 SpE (.slice D7x U.length k7x) U ∧ (W).cell? ⟨w7.heap.size, 0, none⟩ = some (.slice A7x A.es.length n7x) ∧ (W).cell? ⟨w7.heap.size, 1, none⟩ = some (.slice B7x A.ks.length m7x) ∧ (W).cell? ⟨w7.heap.size, 2, none⟩ = some (.slice D7x U.length k7x) ∧ w6.heap.size + 1 ≤ (W).heap.size ∧ SlP W (W).heap.size 3 SpE (.slice D6x (ctxOf t.dots).length k6x) (ctxOf t.dots) ∧ (W).cell? ⟨w6.heap.size, 0, none⟩ = some (.slice A0 t.es.length n0) ∧ (W).cell? ⟨w6.heap.size, 1, none⟩ = some (.slice B0 t.ks.length m0) ∧ (W).cell? ⟨w6.heap.size, 2, none⟩ = some (.slice D6x (ctxOf t.dots).length k6x) ∧ w5.heap.size + 1 ≤ (W).heap.size ∧ X.rd W (W).heap.size (.slice A5x X.es.length n5x) (.slice B5x X.ks.length m5x) ∧ SlP W (W).heap.size 3 SpE (.slice D5x Dc.length k5x) Dc ∧ (W).cell? ⟨w5.heap.size, 0, none⟩ = some (.slice A5x X.es.length n5x) ∧ (W).cell? ⟨w5.heap.size, 1, none⟩ = some (.slice B5x X.ks.length m5x) ∧ (W).cell? ⟨w5.heap.size, 2, none⟩ = some (.slice D5x Dc.length k5x) ∧ Below w.heap.size w W ∧ w.heap.size + 2 ≤ (W).heap.size ∧ t.rd W (W).heap.size (.slice A0 t.es.length n0) (.slice B0 t.ks.length m0) ∧ D.rd W (W).heap.size (.slice A2 D.es.length n2) (.slice B2 D.ks.length m2) ∧ SlP W (W).heap.size 3 SpE (.slice D2 Dc.length k2) Dc ∧ (W).cell? ⟨w.heap.size, 0, none⟩ = some (.slice A0 t.es.length n0) ∧ (W).cell? ⟨w.heap.size, 1, none⟩ = some (.slice B0 t.ks.length m0) ∧ (W).cell? ⟨(w.heap.size + 1), 0, none⟩ = some (.slice A2 D.es.length n2) ∧ (W).cell? ⟨(w.heap.size + 1), 1, none⟩ = some (.slice B2 D.ks.length m2) ∧ (W).cell? ⟨(w.heap.size + 1), 2, none⟩ = some (.slice D2 Dc.length k2))) := fun W hW => by
      have g0 := (hW.block w7.heap.size (by omega)).trans (heap_new rfl)
      have hB : Below w7.heap.size w7 W := ((Below.refl _ w7).alloc (Nat.le_refl _) _).trans (hW.mono (by omega))
      exact ⟨by have := hW.size; simpa using this, rda_rd hrd7 (fun b hb => hb.2) hB, hsl7.slp (fun b hb => hb.2) hB, cell_cells (i := 0) g0, cell_cells (i := 1) g0, cell_cells (i := 2) g0, HX2.out W (hbk7.out.trans (hB.mono (by omega)))⟩
    clear hrd7 hsl7
    go_upto_region 8 with (fail)
    clear hs_k rc_k c0_k c1_k c2_k hs_x rt_x rc_x c0_x c1_x c2_x hB hs rt0 rt2 rc2 c00 c01 c20 c21 c22
    obtain ⟨hs_a, rt_a, rc_a, c0_a, c1_a, c2_a, hs_k, rc_k, c0_k, c1_k, c2_k, hs_x, rt_x, rc_x, c0_x, c1_x, c2_x, hB, hs, rt0, rt2, rc2, c00, c01, c20, c21, c22⟩ := HX3.out _ (Below.refl _ _)
    have HK1 : Hid (∀ W, Below (w7.heap.size + 1) (w7.alloc (.cells #[.slice A7x A.es.length n7x, .slice B7x A.ks.length m7x, .slice D7x U.length k7x] 31)) W → ((W).cell? ⟨w6.heap.size, 2, none⟩ = some (.slice D6x (ctxOf t.dots).length k6x) ∧ (W).cell? ⟨w.heap.size, 0, none⟩ = some (.slice A0 t.es.length n0) ∧ (W).cell? ⟨w.heap.size, 1, none⟩ = some (.slice B0 t.ks.length m0) ∧ (W).cell? ⟨(w.heap.size + 1), 0, none⟩ = some (.slice A2 D.es.length n2) ∧ (W).cell? ⟨(w.heap.size + 1), 1, none⟩ = some (.slice B2 D.ks.length m2) ∧ (W).cell? ⟨(w.heap.size + 1), 2, none⟩ = some (.slice D2 Dc.length k2))) := fun W hW => by
      obtain ⟨_, _, _, _, _, _, _, _, _, _, z_c2_k, _, _, _, _, _, _, _, _, _, _, _, z_c00, z_c01, z_c20, z_c21, z_c22⟩ := HX3.out W hW
      exact ⟨z_c2_k, z_c00, z_c01, z_c20, z_c21, z_c22⟩
    have Hrt_a_1 : Hid (∀ W, Below (w7.heap.size + 1) (w7.alloc (.cells #[.slice A7x A.es.length n7x, .slice B7x A.ks.length m7x, .slice D7x U.length k7x] 31)) W → A.rd W (W).heap.size (.slice A7x A.es.length n7x) (.slice B7x A.ks.length m7x)) := fun W hW => by
      obtain ⟨_, z, _, _, _, _, _, _, _, _, _, _, _, _, _, _, _, _, _, _, _, _, _, _, _, _, _⟩ := HX3.out W hW
      exact z
    have Hrc_a_1 : Hid (∀ W, Below (w7.heap.size + 1) (w7.alloc (.cells #[.slice A7x A.es.length n7x, .slice B7x A.ks.length m7x, .slice D7x U.length k7x] 31)) W → SlP W (W).heap.size 3 SpE (.slice D7x U.length k7x) U) := fun W hW => by
      obtain ⟨_, _, z, _, _, _, _, _, _, _, _, _, _, _, _, _, _, _, _, _, _, _, _, _, _, _, _⟩ := HX3.out W hW
      exact z
    have Hrc_k_1 : Hid (∀ W, Below (w7.heap.size + 1) (w7.alloc (.cells #[.slice A7x A.es.length n7x, .slice B7x A.ks.length m7x, .slice D7x U.length k7x] 31)) W → SlP W (W).heap.size 3 SpE (.slice D6x (ctxOf t.dots).length k6x) (ctxOf t.dots)) := fun W hW => by
      obtain ⟨_, _, _, _, _, _, _, z, _, _, _, _, _, _, _, _, _, _, _, _, _, _, _, _, _, _, _⟩ := HX3.out W hW
      exact z
    have Hrt_x_1 : Hid (∀ W, Below (w7.heap.size + 1) (w7.alloc (.cells #[.slice A7x A.es.length n7x, .slice B7x A.ks.length m7x, .slice D7x U.length k7x] 31)) W → X.rd W (W).heap.size (.slice A5x X.es.length n5x) (.slice B5x X.ks.length m5x)) := fun W hW => by
      obtain ⟨_, _, _, _, _, _, _, _, _, _, _, _, z, _, _, _, _, _, _, _, _, _, _, _, _, _, _⟩ := HX3.out W hW
      exact z
    have Hrc_x_1 : Hid (∀ W, Below (w7.heap.size + 1) (w7.alloc (.cells #[.slice A7x A.es.length n7x, .slice B7x A.ks.length m7x, .slice D7x U.length k7x] 31)) W → SlP W (W).heap.size 3 SpE (.slice D5x Dc.length k5x) Dc) := fun W hW => by
      obtain ⟨_, _, _, _, _, _, _, _, _, _, _, _, _, z, _, _, _, _, _, _, _, _, _, _, _, _, _⟩ := HX3.out W hW
      exact z
    have Hrt0_1 : Hid (∀ W, Below (w7.heap.size + 1) (w7.alloc (.cells #[.slice A7x A.es.length n7x, .slice B7x A.ks.length m7x, .slice D7x U.length k7x] 31)) W → t.rd W (W).heap.size (.slice A0 t.es.length n0) (.slice B0 t.ks.length m0)) := fun W hW => by
      obtain ⟨_, _, _, _, _, _, _, _, _, _, _, _, _, _, _, _, _, _, _, z, _, _, _, _, _, _, _⟩ := HX3.out W hW
      exact z
    have Hrt2_1 : Hid (∀ W, Below (w7.heap.size + 1) (w7.alloc (.cells #[.slice A7x A.es.length n7x, .slice B7x A.ks.length m7x, .slice D7x U.length k7x] 31)) W → D.rd W (W).heap.size (.slice A2 D.es.length n2) (.slice B2 D.ks.length m2)) := fun W hW => by
      obtain ⟨_, _, _, _, _, _, _, _, _, _, _, _, _, _, _, _, _, _, _, _, z, _, _, _, _, _, _⟩ := HX3.out W hW
      exact z
    have Hrc2_1 : Hid (∀ W, Below (w7.heap.size + 1) (w7.alloc (.cells #[.slice A7x A.es.length n7x, .slice B7x A.ks.length m7x, .slice D7x U.length k7x] 31)) W → SlP W (W).heap.size 3 SpE (.slice D2 Dc.length k2) Dc) := fun W hW => by
      obtain ⟨_, _, _, _, _, _, _, _, _, _, _, _, _, _, _, _, _, _, _, _, _, z, _, _, _, _, _⟩ := HX3.out W hW
      exact z
    have HS_1 : Hid (∀ W, Below (w7.heap.size + 1) (w7.alloc (.cells #[.slice A7x A.es.length n7x, .slice B7x A.ks.length m7x, .slice D7x U.length k7x] 31)) W → (w7.heap.size + 1) ≤ W.heap.size) := fun W hW => by
      have := hW.size
      first | omega | (simp at this; omega)
    have hsb1 := HS_1.out _ (Below.refl _ _)
    clear rt_a rc_a c0_a c1_a c2_a rc_k c0_k c1_k rt_x rc_x c0_x c1_x c2_x hB rt0 rt2 rc2
    go_cut [12, 13] (fun s12 s13 wx => s13 = .int .i64 0 ∧ Box3 (w7.heap.size + 1) (w7.alloc (.cells #[.slice A7x A.es.length n7x, .slice B7x A.ks.length m7x, .slice D7x U.length k7x] 31)) 31 B V s12 wx)
    case first =>
      go_region_held3 (fun W => (W).cell? ⟨w6.heap.size, 2, none⟩ = some (.slice D6x (ctxOf t.dots).length k6x) ∧ (W).cell? ⟨w.heap.size, 0, none⟩ = some (.slice A0 t.es.length n0) ∧ (W).cell? ⟨w.heap.size, 1, none⟩ = some (.slice B0 t.ks.length m0) ∧ (W).cell? ⟨(w.heap.size + 1), 0, none⟩ = some (.slice A2 D.es.length n2) ∧ (W).cell? ⟨(w.heap.size + 1), 1, none⟩ = some (.slice B2 D.ks.length m2) ∧ (W).cell? ⟨(w.heap.size + 1), 2, none⟩ = some (.slice D2 Dc.length k2))
        (first | go_keep | exact HK1.out _ hbr9.out | exact HK1.out _ (hbr9.out.trans (by go_grown)) | exact HK1.out _ hbr8.out | exact HK1.out _ (hbr8.out.trans (by go_grown)) | exact HK1.out _ (((hbr9.out.setCell (by first | (simp; done) | (simp; omega)) _).setCell (by first | (simp; done) | (simp; omega)) _).setCell (by first | (simp; done) | (simp; omega)) _) | exact HK1.out _ (by go_grown) | fail)
        (first
          | (go_at_call 45; go_loud ((refine (cJoin_any (knC t) Dc G D _ _ _ _ _ _ _ (HRg.out _ (by go_grown)) (Hrt2_1.out _ (hbr8.out.trans (by go_grown))) (Hrc_k_1.out _ (hbr8.out.trans (by go_grown))) (Hrc2_1.out _ (hbr8.out.trans (by go_grown))) (by omega) (by omega) (by omega) (by omega)).mono ?_); rw [HIE.out, HIT.out, HIC.out]; rintro e w9 ⟨xe9, xk9, xc9, rfl, hrd9, hsl9, hb⟩; have hbr9 : Hid (Below (w7.heap.size + 1) (w7.alloc (.cells #[.slice A7x A.es.length n7x, .slice B7x A.ks.length m7x, .slice D7x U.length k7x] 31)) w9) := hid (Below.trans (hbr8.out.trans (by go_grown)) (hb.mono (by first | omega | (simp; done) | (simp; omega)))); have hsr9 := HS_1.out _ hbr9.out; have hch8_9 : Hid (Below w8.heap.size w8 w9) := hid (Below.trans (by go_grown) (hb.mono (by first | omega | (simp; done) | (simp; omega)))); obtain ⟨Ar9, nr9, Br9, mr9, hv1, hv2⟩ := rda_shape hrd9; subst hv1; subst hv2; obtain ⟨Dr9, kr9, hv3⟩ := hsl9.shape; subst hv3; have HR9 := hid hrd9; have HL9 := hid hsl9; clear hrd9 hsl9; (first | (have HG9 : Hid (w9.heap[w8.heap.size]? = some (.cells #[.slice none 0 0, .slice none 0 0, .slice none 0 0] 31 (0, 0))) := hid (z_new hb); have k0 : w9.cell? ⟨w8.heap.size, 0, none⟩ = some (.slice none 0 0) := cell_cells (i := 0) HG9.out; have k1 : w9.cell? ⟨w8.heap.size, 1, none⟩ = some (.slice none 0 0) := cell_cells (i := 1) HG9.out; have k2 : w9.cell? ⟨w8.heap.size, 2, none⟩ = some (.slice none 0 0) := cell_cells (i := 2) HG9.out; have z0 := cells_frz (i := 0) HG9.out; have z1 := cells_frz (i := 1) HG9.out; have z2 := cells_frz (i := 2) HG9.out; have hna0 : w.heap.size ≠ w8.heap.size := (by omega); have hnb0 : w8.heap.size ≠ w.heap.size := (by omega); have hna1 : (w.heap.size + 1) ≠ w8.heap.size := (by omega); have hnb1 : w8.heap.size ≠ (w.heap.size + 1) := (by omega); have hna2 : w5.heap.size ≠ w8.heap.size := (by omega); have hnb2 : w8.heap.size ≠ w5.heap.size := (by omega); have hna3 : w6.heap.size ≠ w8.heap.size := (by omega); have hnb3 : w8.heap.size ≠ w6.heap.size := (by omega); have hna4 : w7.heap.size ≠ w8.heap.size := (by omega); have hnb4 : w8.heap.size ≠ w7.heap.size := (by omega)) | (have HG9 : Hid (w9.heap[(w7.heap.size + 1)]? = some (.cells #[.slice none 0 0, .slice none 0 0, .slice none 0 0] 31 (0, 0))) := hid ((hb.block _ (lt_of_block HGA.out)).trans HGA.out); have k0 : w9.cell? ⟨(w7.heap.size + 1), 0, none⟩ = some (.slice none 0 0) := cell_cells (i := 0) HG9.out; have k1 : w9.cell? ⟨(w7.heap.size + 1), 1, none⟩ = some (.slice none 0 0) := cell_cells (i := 1) HG9.out; have k2 : w9.cell? ⟨(w7.heap.size + 1), 2, none⟩ = some (.slice none 0 0) := cell_cells (i := 2) HG9.out; have z0 := cells_frz (i := 0) HG9.out; have z1 := cells_frz (i := 1) HG9.out; have z2 := cells_frz (i := 2) HG9.out; have hna0 : w.heap.size ≠ (w7.heap.size + 1) := (by omega); have hnb0 : (w7.heap.size + 1) ≠ w.heap.size := (by omega); have hna1 : (w.heap.size + 1) ≠ (w7.heap.size + 1) := (by omega); have hnb1 : (w7.heap.size + 1) ≠ (w.heap.size + 1) := (by omega); have hnc1 : w.heap.size ≠ w7.heap.size := (by omega); have hnd1 : w7.heap.size ≠ w.heap.size := (by omega); have hna2 : w5.heap.size ≠ (w7.heap.size + 1) := (by omega); have hnb2 : (w7.heap.size + 1) ≠ w5.heap.size := (by omega); have hna3 : w6.heap.size ≠ (w7.heap.size + 1) := (by omega); have hnb3 : (w7.heap.size + 1) ≠ w6.heap.size := (by omega); have hna4 : w7.heap.size ≠ (w7.heap.size + 1) := (by omega); have hnb4 : (w7.heap.size + 1) ≠ w7.heap.size := (by omega)) | (have HG9 : Hid (w9.heap[((w7.heap.size + 1) + 1)]? = some (.cells #[.slice none 0 0, .slice none 0 0, .slice none 0 0] 31 (0, 0))) := hid ((hb.block _ (lt_of_block HGA.out)).trans HGA.out); have k0 : w9.cell? ⟨((w7.heap.size + 1) + 1), 0, none⟩ = some (.slice none 0 0) := cell_cells (i := 0) HG9.out; have k1 : w9.cell? ⟨((w7.heap.size + 1) + 1), 1, none⟩ = some (.slice none 0 0) := cell_cells (i := 1) HG9.out; have k2 : w9.cell? ⟨((w7.heap.size + 1) + 1), 2, none⟩ = some (.slice none 0 0) := cell_cells (i := 2) HG9.out; have z0 := cells_frz (i := 0) HG9.out; have z1 := cells_frz (i := 1) HG9.out; have z2 := cells_frz (i := 2) HG9.out; have hna0 : w.heap.size ≠ ((w7.heap.size + 1) + 1) := (by omega); have hnb0 : ((w7.heap.size + 1) + 1) ≠ w.heap.size := (by omega); have hna1 : (w.heap.size + 1) ≠ ((w7.heap.size + 1) + 1) := (by omega); have hnb1 : ((w7.heap.size + 1) + 1) ≠ (w.heap.size + 1) := (by omega); have hnc1 : w.heap.size ≠ (w7.heap.size + 1) := (by omega); have hnd1 : (w7.heap.size + 1) ≠ w.heap.size := (by omega); have hna2 : w5.heap.size ≠ ((w7.heap.size + 1) + 1) := (by omega); have hnb2 : ((w7.heap.size + 1) + 1) ≠ w5.heap.size := (by omega); have hna3 : w6.heap.size ≠ ((w7.heap.size + 1) + 1) := (by omega); have hnb3 : ((w7.heap.size + 1) + 1) ≠ w6.heap.size := (by omega); have hna4 : w7.heap.size ≠ ((w7.heap.size + 1) + 1) := (by omega); have hnb4 : ((w7.heap.size + 1) + 1) ≠ w7.heap.size := (by omega)) | skip); clear hb))
          | (go_at_call 59; go_loud ((refine (r08get_any t [key] _ _ _ _ (Hrt0_1.out _ (by go_grown)) (slp1s (by first | exact heap_new rfl | exact heap_new (by simp) | exact (heap_old (by simp)).trans (heap_new rfl) | exact (heap_old (by simp)).trans (heap_new (by simp))) h1 (by first | (simp; done) | (simp; omega))) (by omega)).mono ?_); rw [HG.out]; rintro e w8 ⟨xe8, xk8, rfl, hrd8, hb⟩; have hbr8 : Hid (Below (w7.heap.size + 1) (w7.alloc (.cells #[.slice A7x A.es.length n7x, .slice B7x A.ks.length m7x, .slice D7x U.length k7x] 31)) w8) := hid (Below.trans (by go_grown) (hb.mono (by first | omega | (simp; done) | (simp; omega)))); have hsr8 := HS_1.out _ hbr8.out; (first | (have HGA : Hid (w8.heap[(w7.heap.size + 1)]? = some (.cells #[.slice none 0 0, .slice none 0 0, .slice none 0 0] 31 (0, 0))) := hid (z_new3D hb)) | (have HGA : Hid (w8.heap[(w7.heap.size + 1)]? = some (.cells #[.slice none 0 0, .slice none 0 0, .slice none 0 0] 31 (0, 0))) := hid (z_new3 hb)) | (have HGA : Hid (w8.heap[(w7.heap.size + 1)]? = some (.cells #[.slice none 0 0, .slice none 0 0, .slice none 0 0] 31 (0, 0))) := hid (z_newS2D hb)) | (have HGA : Hid (w8.heap[(w7.heap.size + 1)]? = some (.cells #[.slice none 0 0, .slice none 0 0, .slice none 0 0] 31 (0, 0))) := hid (z_newS2 hb)) | (have HGA : Hid (w8.heap[(w7.heap.size + 1)]? = some (.cells #[.slice none 0 0, .slice none 0 0, .slice none 0 0] 31 (0, 0))) := hid (z_newSD hb)) | (have HGA : Hid (w8.heap[(w7.heap.size + 1)]? = some (.cells #[.slice none 0 0, .slice none 0 0, .slice none 0 0] 31 (0, 0))) := hid (z_newS hb)) | (have HGA : Hid (w8.heap[(w7.heap.size + 1)]? = some (.cells #[.slice none 0 0, .slice none 0 0, .slice none 0 0] 31 (0, 0))) := hid (z_new2D hb)) | (have HGA : Hid (w8.heap[(w7.heap.size + 1)]? = some (.cells #[.slice none 0 0, .slice none 0 0, .slice none 0 0] 31 (0, 0))) := hid (z_newD hb)) | (have HGA : Hid (w8.heap[(w7.heap.size + 1)]? = some (.cells #[.slice none 0 0, .slice none 0 0, .slice none 0 0] 31 (0, 0))) := hid (z_new2 hb)) | (have HGA : Hid (w8.heap[(w7.heap.size + 1)]? = some (.cells #[.slice none 0 0, .slice none 0 0, .slice none 0 0] 31 (0, 0))) := hid (z_new hb)) | (have HGA : Hid (w8.heap[((w7.heap.size + 1) + 1)]? = some (.cells #[.slice none 0 0, .slice none 0 0, .slice none 0 0] 31 (0, 0))) := hid (z_new3D hb)) | (have HGA : Hid (w8.heap[((w7.heap.size + 1) + 1)]? = some (.cells #[.slice none 0 0, .slice none 0 0, .slice none 0 0] 31 (0, 0))) := hid (z_new3 hb)) | (have HGA : Hid (w8.heap[((w7.heap.size + 1) + 1)]? = some (.cells #[.slice none 0 0, .slice none 0 0, .slice none 0 0] 31 (0, 0))) := hid (z_newS2D hb)) | (have HGA : Hid (w8.heap[((w7.heap.size + 1) + 1)]? = some (.cells #[.slice none 0 0, .slice none 0 0, .slice none 0 0] 31 (0, 0))) := hid (z_newS2 hb)) | (have HGA : Hid (w8.heap[((w7.heap.size + 1) + 1)]? = some (.cells #[.slice none 0 0, .slice none 0 0, .slice none 0 0] 31 (0, 0))) := hid (z_newSD hb)) | (have HGA : Hid (w8.heap[((w7.heap.size + 1) + 1)]? = some (.cells #[.slice none 0 0, .slice none 0 0, .slice none 0 0] 31 (0, 0))) := hid (z_newS hb)) | (have HGA : Hid (w8.heap[((w7.heap.size + 1) + 1)]? = some (.cells #[.slice none 0 0, .slice none 0 0, .slice none 0 0] 31 (0, 0))) := hid (z_new2D hb)) | (have HGA : Hid (w8.heap[((w7.heap.size + 1) + 1)]? = some (.cells #[.slice none 0 0, .slice none 0 0, .slice none 0 0] 31 (0, 0))) := hid (z_newD hb)) | (have HGA : Hid (w8.heap[((w7.heap.size + 1) + 1)]? = some (.cells #[.slice none 0 0, .slice none 0 0, .slice none 0 0] 31 (0, 0))) := hid (z_new2 hb)) | (have HGA : Hid (w8.heap[((w7.heap.size + 1) + 1)]? = some (.cells #[.slice none 0 0, .slice none 0 0, .slice none 0 0] 31 (0, 0))) := hid (z_new hb)) | skip); obtain ⟨Ar8, nr8, Br8, mr8, hv1, hv2⟩ := rda_shape hrd8; subst hv1; subst hv2; have HR8 := hid hrd8; clear hrd8; have HRg : Hid (∀ W, Below w8.heap.size w8 W → G.rd W W.heap.size (.slice Ar8 G.es.length nr8) (.slice Br8 G.ks.length mr8)) := fun W hW => rda_rd HR8.out (fun b hb => hb.2) hW; clear hb)))
      all_goals
        go_wp2_with fail
        go_meet
        case rel => exact ⟨rfl, (by first | exact box_new hbr9.out (HS_1.out _ hbr9.out) HR9.out HL9.out | exact box_set HG9.out hbr9.out (by omega) (by first | (simp; done) | (simp; omega) | exact lt_of_block HGA.out | (have := lt_of_block HGA.out; simp; omega)) HR9.out HL9.out)⟩
    case rest =>
      obtain ⟨rfl, g10, xe10, xk10, xc10, rfl, hG10, hrd10, hsl10, hbz⟩ := hcut
      obtain ⟨A10x, n10x, B10x, m10x, rfl, rfl⟩ := rd_shape hrd10
      obtain ⟨D10x, k10x, rfl, _⟩ := id hsl10
      have hlg10 := lt_of_block hG10
      obtain ⟨wq10, hwq10⟩ : ∃ z : World, z = wc := ⟨wc, rfl⟩
      subst hwq10
      have HSZ10 : Hid ((w7.heap.size + 1) ≤ wq10.heap.size) := HS_1.out _ hbz
      have HX4 : Hid (∀ W, Below wq10.heap.size wq10 W → (wq10.heap.size ≤ (W).heap.size ∧ B.rd W (W).heap.size (.slice A10x B.es.length n10x) (.slice B10x B.ks.length m10x) ∧ SlP W (W).heap.size 3 SpE (.slice D10x V.length k10x) V ∧ (W).cell? ⟨g10, 0, none⟩ = some (.slice A10x B.es.length n10x) ∧ (W).cell? ⟨g10, 1, none⟩ = some (.slice B10x B.ks.length m10x) ∧ (W).cell? ⟨g10, 2, none⟩ = some (.slice D10x V.length k10x) ∧ w7.heap.size + 1 ≤ (W).heap.size ∧ A.rd W (W).heap.size (.slice A7x A.es.length n7x) (.slice B7x A.ks.length m7x) ∧ SlP W (W).heap.size 3 SpE (.slice D7x U.length k7x) U ∧ (W).cell? ⟨w7.heap.size, 0, none⟩ = some (.slice A7x A.es.length n7x) ∧ (W).cell? ⟨w7.heap.size, 1, none⟩ = some (.slice B7x A.ks.length m7x) ∧ (W).cell? ⟨w7.heap.size, 2, none⟩ = some (.slice D7x U.length k7x) ∧ w6.heap.size + 1 ≤ (W).heap.size ∧ SlP W (W).heap.size 3 SpE (.slice D6x (ctxOf t.dots).length k6x) (ctxOf t.dots) ∧ (W).cell? ⟨w6.heap.size, 0, none⟩ = some (.slice A0 t.es.length n0) ∧ (W).cell? ⟨w6.heap.size, 1, none⟩ = some (.slice B0 t.ks.length m0) ∧ (W).cell? ⟨w6.heap.size, 2, none⟩ = some (.slice D6x (ctxOf t.dots).length k6x) ∧ w5.heap.size + 1 ≤ (W).heap.size ∧ X.rd W (W).heap.size (.slice A5x X.es.length n5x) (.slice B5x X.ks.length m5x) ∧ SlP W (W).heap.size 3 SpE (.slice D5x Dc.length k5x) Dc ∧ (W).cell? ⟨w5.heap.size, 0, none⟩ = some (.slice A5x X.es.length n5x) ∧ (W).cell? ⟨w5.heap.size, 1, none⟩ = some (.slice B5x X.ks.length m5x) ∧ (W).cell? ⟨w5.heap.size, 2, none⟩ = some (.slice D5x Dc.length k5x) ∧ Below w.heap.size w W ∧ w.heap.size + 2 ≤ (W).heap.size ∧ t.rd W (W).heap.size (.slice A0 t.es.length n0) (.slice B0 t.ks.length m0) ∧ D.rd W (W).heap.size (.slice A2 D.es.length n2) (.slice B2 D.ks.length m2) ∧ SlP W (W).heap.size 3 SpE (.slice D2 Dc.length k2) Dc ∧ (W).cell? ⟨w.heap.size, 0, none⟩ = some (.slice A0 t.es.length n0) ∧ (W).cell? ⟨w.heap.size, 1, none⟩ = some (.slice B0 t.ks.length m0) ∧ (W).cell? ⟨(w.heap.size + 1), 0, none⟩ = some (.slice A2 D.es.length n2) ∧ (W).cell? ⟨(w.heap.size + 1), 1, none⟩ = some (.slice B2 D.ks.length m2) ∧ (W).cell? ⟨(w.heap.size + 1), 2, none⟩ = some (.slice D2 Dc.length k2))) := fun W hW => by
        have g0 := (hW.block g10 hlg10).trans hG10
        exact ⟨hW.size, rd_below hW hW.size _ _ _ hrd10, hsl10.imp hW hW.size (fun _ _ _ h => h), cell_cells (i := 0) g0, cell_cells (i := 1) g0, cell_cells (i := 2) g0, HX3.out W (hbz.trans (hW.mono HSZ10.out))⟩
      clear hrd10 hsl10 hG10
      clear hs_a hs_k c2_k hs_x hs c00 c01 c20 c21 c22
      obtain ⟨hs_b, rt_b, rc_b, c0_b, c1_b, c2_b, hs_a, rt_a, rc_a, c0_a, c1_a, c2_a, hs_k, rc_k, c0_k, c1_k, c2_k, hs_x, rt_x, rc_x, c0_x, c1_x, c2_x, hB, hs, rt0, rt2, rc2, c00, c01, c20, c21, c22⟩ := HX4.out _ (Below.refl _ _)
      go_upto_region 9 with (fail)
      have HK2 : Hid (∀ W, Below wq10.heap.size wq10 W → ((W).cell? ⟨g10, 0, none⟩ = some (.slice A10x B.es.length n10x) ∧ (W).cell? ⟨g10, 1, none⟩ = some (.slice B10x B.ks.length m10x) ∧ (W).cell? ⟨g10, 2, none⟩ = some (.slice D10x V.length k10x) ∧ (W).cell? ⟨w7.heap.size, 0, none⟩ = some (.slice A7x A.es.length n7x) ∧ (W).cell? ⟨w7.heap.size, 1, none⟩ = some (.slice B7x A.ks.length m7x) ∧ (W).cell? ⟨w7.heap.size, 2, none⟩ = some (.slice D7x U.length k7x))) := fun W hW => by
        obtain ⟨_, _, _, z_c0_b, z_c1_b, z_c2_b, _, _, _, z_c0_a, z_c1_a, z_c2_a, _, _, _, _, _, _, _, _, _, _, _, _, _, _, _, _, _, _, _, _, _⟩ := HX4.out W hW
        exact ⟨z_c0_b, z_c1_b, z_c2_b, z_c0_a, z_c1_a, z_c2_a⟩
      have Hrt_b_2 : Hid (∀ W, Below wq10.heap.size wq10 W → B.rd W (W).heap.size (.slice A10x B.es.length n10x) (.slice B10x B.ks.length m10x)) := fun W hW => by
        obtain ⟨_, z, _, _, _, _, _, _, _, _, _, _, _, _, _, _, _, _, _, _, _, _, _, _, _, _, _, _, _, _, _, _, _⟩ := HX4.out W hW
        exact z
      have Hrc_b_2 : Hid (∀ W, Below wq10.heap.size wq10 W → SlP W (W).heap.size 3 SpE (.slice D10x V.length k10x) V) := fun W hW => by
        obtain ⟨_, _, z, _, _, _, _, _, _, _, _, _, _, _, _, _, _, _, _, _, _, _, _, _, _, _, _, _, _, _, _, _, _⟩ := HX4.out W hW
        exact z
      have Hrt_a_2 : Hid (∀ W, Below wq10.heap.size wq10 W → A.rd W (W).heap.size (.slice A7x A.es.length n7x) (.slice B7x A.ks.length m7x)) := fun W hW => by
        obtain ⟨_, _, _, _, _, _, _, z, _, _, _, _, _, _, _, _, _, _, _, _, _, _, _, _, _, _, _, _, _, _, _, _, _⟩ := HX4.out W hW
        exact z
      have Hrc_a_2 : Hid (∀ W, Below wq10.heap.size wq10 W → SlP W (W).heap.size 3 SpE (.slice D7x U.length k7x) U) := fun W hW => by
        obtain ⟨_, _, _, _, _, _, _, _, z, _, _, _, _, _, _, _, _, _, _, _, _, _, _, _, _, _, _, _, _, _, _, _, _⟩ := HX4.out W hW
        exact z
      have Hrc_k_2 : Hid (∀ W, Below wq10.heap.size wq10 W → SlP W (W).heap.size 3 SpE (.slice D6x (ctxOf t.dots).length k6x) (ctxOf t.dots)) := fun W hW => by
        obtain ⟨_, _, _, _, _, _, _, _, _, _, _, _, _, z, _, _, _, _, _, _, _, _, _, _, _, _, _, _, _, _, _, _, _⟩ := HX4.out W hW
        exact z
      have Hrt_x_2 : Hid (∀ W, Below wq10.heap.size wq10 W → X.rd W (W).heap.size (.slice A5x X.es.length n5x) (.slice B5x X.ks.length m5x)) := fun W hW => by
        obtain ⟨_, _, _, _, _, _, _, _, _, _, _, _, _, _, _, _, _, _, z, _, _, _, _, _, _, _, _, _, _, _, _, _, _⟩ := HX4.out W hW
        exact z
      have Hrc_x_2 : Hid (∀ W, Below wq10.heap.size wq10 W → SlP W (W).heap.size 3 SpE (.slice D5x Dc.length k5x) Dc) := fun W hW => by
        obtain ⟨_, _, _, _, _, _, _, _, _, _, _, _, _, _, _, _, _, _, _, z, _, _, _, _, _, _, _, _, _, _, _, _, _⟩ := HX4.out W hW
        exact z
      have Hrt0_2 : Hid (∀ W, Below wq10.heap.size wq10 W → t.rd W (W).heap.size (.slice A0 t.es.length n0) (.slice B0 t.ks.length m0)) := fun W hW => by
        obtain ⟨_, _, _, _, _, _, _, _, _, _, _, _, _, _, _, _, _, _, _, _, _, _, _, _, _, z, _, _, _, _, _, _, _⟩ := HX4.out W hW
        exact z
      have Hrt2_2 : Hid (∀ W, Below wq10.heap.size wq10 W → D.rd W (W).heap.size (.slice A2 D.es.length n2) (.slice B2 D.ks.length m2)) := fun W hW => by
        obtain ⟨_, _, _, _, _, _, _, _, _, _, _, _, _, _, _, _, _, _, _, _, _, _, _, _, _, _, z, _, _, _, _, _, _⟩ := HX4.out W hW
        exact z
      have Hrc2_2 : Hid (∀ W, Below wq10.heap.size wq10 W → SlP W (W).heap.size 3 SpE (.slice D2 Dc.length k2) Dc) := fun W hW => by
        obtain ⟨_, _, _, _, _, _, _, _, _, _, _, _, _, _, _, _, _, _, _, _, _, _, _, _, _, _, _, z, _, _, _, _, _⟩ := HX4.out W hW
        exact z
      have HS_2 : Hid (∀ W, Below wq10.heap.size wq10 W → wq10.heap.size ≤ W.heap.size) := fun W hW => by
        have := hW.size
        first | omega | (simp at this; omega)
      have hsb2 := HS_2.out _ (Below.refl _ _)
      clear rt_b rc_b rt_a rc_a rc_k c0_k c1_k c2_k rt_x rc_x c0_x c1_x c2_x hB rt0 rt2 rc2 c00 c01 c20 c21 c22
      go_region_held3 (fun W => (W).cell? ⟨g10, 0, none⟩ = some (.slice A10x B.es.length n10x) ∧ (W).cell? ⟨g10, 1, none⟩ = some (.slice B10x B.ks.length m10x) ∧ (W).cell? ⟨g10, 2, none⟩ = some (.slice D10x V.length k10x) ∧ (W).cell? ⟨w7.heap.size, 0, none⟩ = some (.slice A7x A.es.length n7x) ∧ (W).cell? ⟨w7.heap.size, 1, none⟩ = some (.slice B7x A.ks.length m7x) ∧ (W).cell? ⟨w7.heap.size, 2, none⟩ = some (.slice D7x U.length k7x))
        (first | go_keep | exact HK2.out _ hbr12.out | exact HK2.out _ (hbr12.out.trans (by go_grown)) | exact HK2.out _ hbr11.out | exact HK2.out _ (hbr11.out.trans (by go_grown)) | exact HK2.out _ (((hbr12.out.setCell (by first | (simp; done) | (simp; omega)) _).setCell (by first | (simp; done) | (simp; omega)) _).setCell (by first | (simp; done) | (simp; omega)) _) | exact HK2.out _ (by go_grown) | fail)
        (first
          | (go_at_call 60; go_loud ((refine (tSame_any B B _ _ _ _ _ (HRg.out _ (by go_grown)) (Hrt_b_2.out _ (hbr11.out.trans (by go_grown)))).mono ?_); rw [HTS.out]; rintro e w12 ⟨rfl, hb⟩; have hbr12 : Hid (Below wq10.heap.size wq10 w12) := hid (Below.trans (hbr11.out.trans (by go_grown)) (hb.mono (by first | omega | (simp; done) | (simp; omega)))); have hsr12 := HS_2.out _ hbr12.out; have hch11_12 : Hid (Below w11.heap.size w11 w12) := hid (Below.trans (by go_grown) (hb.mono (by first | omega | (simp; done) | (simp; omega)))); clear hb))
          | (go_at_call 61; go_loud ((refine (tget_any A [key] _ _ _ _ (Hrt_a_2.out _ (by go_grown)) (slp1s (by first | exact heap_new rfl | exact heap_new (by simp) | exact (heap_old (by simp)).trans (heap_new rfl) | exact (heap_old (by simp)).trans (heap_new (by simp))) h1 (by first | (simp; done) | (simp; omega))) (by omega)).mono ?_); rw [HTG.out]; rintro e w11 ⟨xe11, xk11, rfl, hrd11, hb⟩; have hbr11 : Hid (Below wq10.heap.size wq10 w11) := hid (Below.trans (by go_grown) (hb.mono (by first | omega | (simp; done) | (simp; omega)))); have hsr11 := HS_2.out _ hbr11.out; obtain ⟨Ar11, nr11, Br11, mr11, hv1, hv2⟩ := rda_shape hrd11; subst hv1; subst hv2; have HR11 := hid hrd11; clear hrd11; have HRg : Hid (∀ W, Below w11.heap.size w11 W → B.rd W W.heap.size (.slice Ar11 B.es.length nr11) (.slice Br11 B.ks.length mr11)) := fun W hW => rda_rd HR11.out (fun b hb => hb.2) hW; clear hb)))
      all_goals (
        obtain ⟨hs_b, rt_b, rc_b, c0_b, c1_b, c2_b, hs_a, rt_a, rc_a, c0_a, c1_a, c2_a, hs_k, rc_k, c0_k, c1_k, c2_k, hs_x, rt_x, rc_x, c0_x, c1_x, c2_x, hB, hs, rt0, rt2, rc2, c00, c01, c20, c21, c22⟩ := HX4.out _ hbr12.out
        go_wp2_with fail
        go_ret
        exact ⟨rfl, hB⟩)
  · subst hE
    obtain ⟨T, C, HT, HC, HSE⟩ := ob_bad (t := t) (key := key) (D := D) (c := Dc) (by rw [HE.out]; decide)
    go_wp2_with fail
    refine (oupdate_any t D Dc key _ _ _ _ _ _ rt0 rt2 rc2 h1 (by omega) (by omega) (by omega)).mono ?_
    rw [HT.out, HC.out, HE.out]
    rintro e w5 ⟨xe5, xk5, xc5, rfl, hrd5, hsl5, hb⟩
    obtain ⟨A5x, n5x, B5x, m5x, rfl, rfl⟩ := rda_shape hrd5
    obtain ⟨D5x, k5x, rfl⟩ := hsl5.shape
    have hbk5 : Hid (Below (w.heap.size + 2) ((w.alloc (.cells #[.slice A0 t.es.length n0, .slice B0 t.ks.length m0] 27)).alloc (.cells #[.slice A2 D.es.length n2, .slice B2 D.ks.length m2, .slice D2 Dc.length k2] 31)) w5) := hid (hbk4.out.trans (hb.mono (by first | omega | (simp; done) | (simp; omega))))
    clear hb
    clear hB hs rt0 rt2 rc2 c00 c01 c20 c21 c22
    obtain ⟨hB, hs, rt0, rt2, rc2, c00, c01, c20, c21, c22⟩ := HX0.out _ hbk5.out
    have hlt5317 : w.heap.size < w5.heap.size := by omega
    have hne5317 : w.heap.size ≠ w5.heap.size := by omega
    have hnr5317 : w5.heap.size ≠ w.heap.size := by omega
    have hlt5821 : (w.heap.size + 1) < w5.heap.size := by omega
    have hne5821 : (w.heap.size + 1) ≠ w5.heap.size := by omega
    have hnr5821 : w5.heap.size ≠ (w.heap.size + 1) := by omega
    have HX1 : Hid (∀ W, Below (w5.heap.size + 1) (w5.alloc (.cells #[.slice A5x T.es.length n5x, .slice B5x T.ks.length m5x, .slice D5x C.length k5x] 31)) W → (w5.heap.size + 1 ≤ (W).heap.size ∧ T.rd W (W).heap.size (.slice A5x T.es.length n5x) (.slice B5x T.ks.length m5x) ∧ SlP W (W).heap.size 3 SpE (.slice D5x C.length k5x) C ∧ (W).cell? ⟨w5.heap.size, 0, none⟩ = some (.slice A5x T.es.length n5x) ∧ (W).cell? ⟨w5.heap.size, 1, none⟩ = some (.slice B5x T.ks.length m5x) ∧ (W).cell? ⟨w5.heap.size, 2, none⟩ = some (.slice D5x C.length k5x) ∧ Below w.heap.size w W ∧ w.heap.size + 2 ≤ (W).heap.size ∧ t.rd W (W).heap.size (.slice A0 t.es.length n0) (.slice B0 t.ks.length m0) ∧ D.rd W (W).heap.size (.slice A2 D.es.length n2) (.slice B2 D.ks.length m2) ∧ SlP W (W).heap.size 3 SpE (.slice D2 Dc.length k2) Dc ∧ (W).cell? ⟨w.heap.size, 0, none⟩ = some (.slice A0 t.es.length n0) ∧ (W).cell? ⟨w.heap.size, 1, none⟩ = some (.slice B0 t.ks.length m0) ∧ (W).cell? ⟨(w.heap.size + 1), 0, none⟩ = some (.slice A2 D.es.length n2) ∧ (W).cell? ⟨(w.heap.size + 1), 1, none⟩ = some (.slice B2 D.ks.length m2) ∧ (W).cell? ⟨(w.heap.size + 1), 2, none⟩ = some (.slice D2 Dc.length k2))) := fun W hW => by
      have g0 := (hW.block w5.heap.size (by omega)).trans (heap_new rfl)
      have hB : Below w5.heap.size w5 W := ((Below.refl _ w5).alloc (Nat.le_refl _) _).trans (hW.mono (by omega))
      exact ⟨by have := hW.size; simpa using this, rda_rd hrd5 (fun b hb => hb.2) hB, hsl5.slp (fun b hb => hb.2) hB, cell_cells (i := 0) g0, cell_cells (i := 1) g0, cell_cells (i := 2) g0, HX0.out W (hbk5.out.trans (hB.mono (by omega)))⟩
    clear hrd5 hsl5
    go_wp2_with fail
    clear hB hs rt0 rt2 rc2 c00 c01 c20 c21 c22
    obtain ⟨hs_x, rt_x, rc_x, c0_x, c1_x, c2_x, hB, hs, rt0, rt2, rc2, c00, c01, c20, c21, c22⟩ := HX1.out _ (Below.refl _ _)
    refine (r09same_any T (.mk [] []) C [] _ _ _ _ _ _ _ rt_x rd_empty rc_x SlP.nil).mono ?_
    rw [HSE.out]
    rintro e w6 ⟨rfl, hb⟩
    have hbk6 : Hid (Below (w5.heap.size + 1) (w5.alloc (.cells #[.slice A5x T.es.length n5x, .slice B5x T.ks.length m5x, .slice D5x C.length k5x] 31)) w6) := hid (hb.mono (by first | omega | (simp; done) | (simp; omega)))
    clear hb
    clear hs_x rt_x rc_x c0_x c1_x c2_x hB hs rt0 rt2 rc2 c00 c01 c20 c21 c22
    obtain ⟨hs_x, rt_x, rc_x, c0_x, c1_x, c2_x, hB, hs, rt0, rt2, rc2, c00, c01, c20, c21, c22⟩ := HX1.out _ hbk6.out
    go_wp2_with fail
    go_ret
    exact ⟨rfl, hB⟩
  · subst hE
    obtain ⟨T, C, HT, HC, HSE⟩ := ob_bad (t := t) (key := key) (D := D) (c := Dc) (by rw [HE.out]; decide)
    go_wp2_with fail
    refine (oupdate_any t D Dc key _ _ _ _ _ _ rt0 rt2 rc2 h1 (by omega) (by omega) (by omega)).mono ?_
    rw [HT.out, HC.out, HE.out]
    rintro e w5 ⟨xe5, xk5, xc5, rfl, hrd5, hsl5, hb⟩
    obtain ⟨A5x, n5x, B5x, m5x, rfl, rfl⟩ := rda_shape hrd5
    obtain ⟨D5x, k5x, rfl⟩ := hsl5.shape
    have hbk5 : Hid (Below (w.heap.size + 2) ((w.alloc (.cells #[.slice A0 t.es.length n0, .slice B0 t.ks.length m0] 27)).alloc (.cells #[.slice A2 D.es.length n2, .slice B2 D.ks.length m2, .slice D2 Dc.length k2] 31)) w5) := hid (hbk4.out.trans (hb.mono (by first | omega | (simp; done) | (simp; omega))))
    clear hb
    clear hB hs rt0 rt2 rc2 c00 c01 c20 c21 c22
    obtain ⟨hB, hs, rt0, rt2, rc2, c00, c01, c20, c21, c22⟩ := HX0.out _ hbk5.out
    have hlt5317 : w.heap.size < w5.heap.size := by omega
    have hne5317 : w.heap.size ≠ w5.heap.size := by omega
    have hnr5317 : w5.heap.size ≠ w.heap.size := by omega
    have hlt5821 : (w.heap.size + 1) < w5.heap.size := by omega
    have hne5821 : (w.heap.size + 1) ≠ w5.heap.size := by omega
    have hnr5821 : w5.heap.size ≠ (w.heap.size + 1) := by omega
    have HX1 : Hid (∀ W, Below (w5.heap.size + 1) (w5.alloc (.cells #[.slice A5x T.es.length n5x, .slice B5x T.ks.length m5x, .slice D5x C.length k5x] 31)) W → (w5.heap.size + 1 ≤ (W).heap.size ∧ T.rd W (W).heap.size (.slice A5x T.es.length n5x) (.slice B5x T.ks.length m5x) ∧ SlP W (W).heap.size 3 SpE (.slice D5x C.length k5x) C ∧ (W).cell? ⟨w5.heap.size, 0, none⟩ = some (.slice A5x T.es.length n5x) ∧ (W).cell? ⟨w5.heap.size, 1, none⟩ = some (.slice B5x T.ks.length m5x) ∧ (W).cell? ⟨w5.heap.size, 2, none⟩ = some (.slice D5x C.length k5x) ∧ Below w.heap.size w W ∧ w.heap.size + 2 ≤ (W).heap.size ∧ t.rd W (W).heap.size (.slice A0 t.es.length n0) (.slice B0 t.ks.length m0) ∧ D.rd W (W).heap.size (.slice A2 D.es.length n2) (.slice B2 D.ks.length m2) ∧ SlP W (W).heap.size 3 SpE (.slice D2 Dc.length k2) Dc ∧ (W).cell? ⟨w.heap.size, 0, none⟩ = some (.slice A0 t.es.length n0) ∧ (W).cell? ⟨w.heap.size, 1, none⟩ = some (.slice B0 t.ks.length m0) ∧ (W).cell? ⟨(w.heap.size + 1), 0, none⟩ = some (.slice A2 D.es.length n2) ∧ (W).cell? ⟨(w.heap.size + 1), 1, none⟩ = some (.slice B2 D.ks.length m2) ∧ (W).cell? ⟨(w.heap.size + 1), 2, none⟩ = some (.slice D2 Dc.length k2))) := fun W hW => by
      have g0 := (hW.block w5.heap.size (by omega)).trans (heap_new rfl)
      have hB : Below w5.heap.size w5 W := ((Below.refl _ w5).alloc (Nat.le_refl _) _).trans (hW.mono (by omega))
      exact ⟨by have := hW.size; simpa using this, rda_rd hrd5 (fun b hb => hb.2) hB, hsl5.slp (fun b hb => hb.2) hB, cell_cells (i := 0) g0, cell_cells (i := 1) g0, cell_cells (i := 2) g0, HX0.out W (hbk5.out.trans (hB.mono (by omega)))⟩
    clear hrd5 hsl5
    go_wp2_with fail
    clear hB hs rt0 rt2 rc2 c00 c01 c20 c21 c22
    obtain ⟨hs_x, rt_x, rc_x, c0_x, c1_x, c2_x, hB, hs, rt0, rt2, rc2, c00, c01, c20, c21, c22⟩ := HX1.out _ (Below.refl _ _)
    refine (r09same_any T (.mk [] []) C [] _ _ _ _ _ _ _ rt_x rd_empty rc_x SlP.nil).mono ?_
    rw [HSE.out]
    rintro e w6 ⟨rfl, hb⟩
    have hbk6 : Hid (Below (w5.heap.size + 1) (w5.alloc (.cells #[.slice A5x T.es.length n5x, .slice B5x T.ks.length m5x, .slice D5x C.length k5x] 31)) w6) := hid (hb.mono (by first | omega | (simp; done) | (simp; omega)))
    clear hb
    clear hs_x rt_x rc_x c0_x c1_x c2_x hB hs rt0 rt2 rc2 c00 c01 c20 c21 c22
    obtain ⟨hs_x, rt_x, rc_x, c0_x, c1_x, c2_x, hB, hs, rt0, rt2, rc2, c00, c01, c20, c21, c22⟩ := HX1.out _ hbk6.out
    go_wp2_with fail
    go_ret
    exact ⟨rfl, hB⟩
  · subst hE
    obtain ⟨T, C, HT, HC, HSE⟩ := ob_bad (t := t) (key := key) (D := D) (c := Dc) (by rw [HE.out]; decide)
    go_wp2_with fail
    refine (oupdate_any t D Dc key _ _ _ _ _ _ rt0 rt2 rc2 h1 (by omega) (by omega) (by omega)).mono ?_
    rw [HT.out, HC.out, HE.out]
    rintro e w5 ⟨xe5, xk5, xc5, rfl, hrd5, hsl5, hb⟩
    obtain ⟨A5x, n5x, B5x, m5x, rfl, rfl⟩ := rda_shape hrd5
    obtain ⟨D5x, k5x, rfl⟩ := hsl5.shape
    have hbk5 : Hid (Below (w.heap.size + 2) ((w.alloc (.cells #[.slice A0 t.es.length n0, .slice B0 t.ks.length m0] 27)).alloc (.cells #[.slice A2 D.es.length n2, .slice B2 D.ks.length m2, .slice D2 Dc.length k2] 31)) w5) := hid (hbk4.out.trans (hb.mono (by first | omega | (simp; done) | (simp; omega))))
    clear hb
    clear hB hs rt0 rt2 rc2 c00 c01 c20 c21 c22
    obtain ⟨hB, hs, rt0, rt2, rc2, c00, c01, c20, c21, c22⟩ := HX0.out _ hbk5.out
    have hlt5317 : w.heap.size < w5.heap.size := by omega
    have hne5317 : w.heap.size ≠ w5.heap.size := by omega
    have hnr5317 : w5.heap.size ≠ w.heap.size := by omega
    have hlt5821 : (w.heap.size + 1) < w5.heap.size := by omega
    have hne5821 : (w.heap.size + 1) ≠ w5.heap.size := by omega
    have hnr5821 : w5.heap.size ≠ (w.heap.size + 1) := by omega
    have HX1 : Hid (∀ W, Below (w5.heap.size + 1) (w5.alloc (.cells #[.slice A5x T.es.length n5x, .slice B5x T.ks.length m5x, .slice D5x C.length k5x] 31)) W → (w5.heap.size + 1 ≤ (W).heap.size ∧ T.rd W (W).heap.size (.slice A5x T.es.length n5x) (.slice B5x T.ks.length m5x) ∧ SlP W (W).heap.size 3 SpE (.slice D5x C.length k5x) C ∧ (W).cell? ⟨w5.heap.size, 0, none⟩ = some (.slice A5x T.es.length n5x) ∧ (W).cell? ⟨w5.heap.size, 1, none⟩ = some (.slice B5x T.ks.length m5x) ∧ (W).cell? ⟨w5.heap.size, 2, none⟩ = some (.slice D5x C.length k5x) ∧ Below w.heap.size w W ∧ w.heap.size + 2 ≤ (W).heap.size ∧ t.rd W (W).heap.size (.slice A0 t.es.length n0) (.slice B0 t.ks.length m0) ∧ D.rd W (W).heap.size (.slice A2 D.es.length n2) (.slice B2 D.ks.length m2) ∧ SlP W (W).heap.size 3 SpE (.slice D2 Dc.length k2) Dc ∧ (W).cell? ⟨w.heap.size, 0, none⟩ = some (.slice A0 t.es.length n0) ∧ (W).cell? ⟨w.heap.size, 1, none⟩ = some (.slice B0 t.ks.length m0) ∧ (W).cell? ⟨(w.heap.size + 1), 0, none⟩ = some (.slice A2 D.es.length n2) ∧ (W).cell? ⟨(w.heap.size + 1), 1, none⟩ = some (.slice B2 D.ks.length m2) ∧ (W).cell? ⟨(w.heap.size + 1), 2, none⟩ = some (.slice D2 Dc.length k2))) := fun W hW => by
      have g0 := (hW.block w5.heap.size (by omega)).trans (heap_new rfl)
      have hB : Below w5.heap.size w5 W := ((Below.refl _ w5).alloc (Nat.le_refl _) _).trans (hW.mono (by omega))
      exact ⟨by have := hW.size; simpa using this, rda_rd hrd5 (fun b hb => hb.2) hB, hsl5.slp (fun b hb => hb.2) hB, cell_cells (i := 0) g0, cell_cells (i := 1) g0, cell_cells (i := 2) g0, HX0.out W (hbk5.out.trans (hB.mono (by omega)))⟩
    clear hrd5 hsl5
    go_wp2_with fail
    clear hB hs rt0 rt2 rc2 c00 c01 c20 c21 c22
    obtain ⟨hs_x, rt_x, rc_x, c0_x, c1_x, c2_x, hB, hs, rt0, rt2, rc2, c00, c01, c20, c21, c22⟩ := HX1.out _ (Below.refl _ _)
    refine (r09same_any T (.mk [] []) C [] _ _ _ _ _ _ _ rt_x rd_empty rc_x SlP.nil).mono ?_
    rw [HSE.out]
    rintro e w6 ⟨rfl, hb⟩
    have hbk6 : Hid (Below (w5.heap.size + 1) (w5.alloc (.cells #[.slice A5x T.es.length n5x, .slice B5x T.ks.length m5x, .slice D5x C.length k5x] 31)) w6) := hid (hb.mono (by first | omega | (simp; done) | (simp; omega)))
    clear hb
    clear hs_x rt_x rc_x c0_x c1_x c2_x hB hs rt0 rt2 rc2 c00 c01 c20 c21 c22
    obtain ⟨hs_x, rt_x, rc_x, c0_x, c1_x, c2_x, hB, hs, rt0, rt2, rc2, c00, c01, c20, c21, c22⟩ := HX1.out _ hbk6.out
    go_wp2_with fail
    go_ret
    exact ⟨rfl, hB⟩
end Go.Proofs.YtmphgnjodangcaaGreat

namespace Go.Proofs.YtmphgnjodangcaaGreat
open Go.ChangeShapes Go.WideShapes Go.ChangeAt Go.RowKit
set_option maxRecDepth 100000

/-- No weight of a datum is beyond the reach. -/
def Wt {H : Type} (P : Program) (t : TypeId) (d : DataW H) : Prop := ∀ m ∈ d.weights P t, m ≤ reachBytes

section
variable {H : Type} {enc : TypeId × Value → H} {w : World}

theorem Wt.field {P : Program} {t : TypeId} {fs : Array Field} {parts : List (DataW H)} (hu : P.underlying t = some (.struct fs)) (h : Wt P t (.agg parts)) {i : Nat} {f : Field} {d : DataW H} (hf : fs[i]? = some f) (hd : parts[i]? = some d) : Wt P f.type d := fun m hm => by
  refine h m ?_
  unfold DataW.weights
  rw [hu]
  exact DataW.weights_mem_each (j := i) (t := f.type) (d := d) (by simp [hf]) hd m hm
theorem Wt.all {P : Program} {e : TypeId} : ∀ {ds : List (DataW H)} {d : DataW H}, d ∈ ds → ∀ m ∈ d.weights P e, m ∈ DataW.weightsAll P e ds
  | x :: ds, d, hd, m, hm => by
    rw [DataW.weightsAll]
    rcases List.mem_cons.1 hd with rfl | hd
    · exact List.mem_append_left _ hm
    · exact List.mem_append_right _ (Wt.all hd m hm)
theorem Wt.elem {P : Program} {t e : TypeId} {elems spare : List (DataW H)} (hu : P.underlying t = some (.slice e)) (h : Wt P t (.slice elems spare)) : (elems.length + spare.length) * P.bytesOf e ≤ reachBytes ∧ ∀ d ∈ elems, Wt P e d := by
  unfold Wt at h
  unfold DataW.weights at h
  rw [hu] at h
  refine ⟨h _ (by simp), fun d hd m hm => h m ?_⟩
  exact List.mem_cons_of_mem _ (List.mem_append_left _ (Wt.all hd m hm))

theorem wf_i64 {n : Int} (h : (Lit.int .i64 n).wf = true) : I64 n := by
  have h1 : IntKind.i64.min = -9223372036854775808 := rfl
  have h2 : IntKind.i64.max = 9223372036854775807 := rfl
  simp only [Lit.wf, Bool.and_eq_true, decide_eq_true_eq] at h
  unfold I64; omega

/-- A slice, whose elements are opened by hel. -/
theorem slc_open {α : Type} {E : α → List Value → Prop} {t e : TypeId} {sz bytes fuel : Nat} {cs : List Value} {x : DataW H × List MemPlace} (hu : Tryz.prog.underlying t = some (.slice e)) (hC : Tryz.prog.cellsOf e = sz) (hsz : 0 < sz) (hB : Tryz.prog.bytesOf e = bytes) (hb : 0 < bytes)
    (h : DataW.trod enc Tryz.prog w 0 (fun _ => true) true fuel t cs = some x) (hw : Wt Tryz.prog t x.1)
    (hel : ∀ n cs y, n < fuel → DataW.trod enc Tryz.prog w 0 (fun _ => true) true n e cs = some y → Wt Tryz.prog e y.1 → ∃ a, E a cs) :
    ∃ v xs, cs = [v] ∧ SlP w w.heap.size sz E v xs := by
  rcases DataW.trod_slice hu h with ⟨rfl, rfl⟩ | ⟨a, len, cap, elems, rest, n, rfl, rfl, rfl, _, hl, hm, hlen, he, hs, _⟩
  · exact ⟨_, [], rfl, SlP.nil⟩
  · obtain ⟨hr, hwe⟩ := Wt.elem hu hw
    rw [hB, List.length_map, List.length_map] at hr
    have hrl := (hs rfl).1
    have hcap : cap ≤ Big := by
      have h1 : (elems.length + rest.length) * 1 ≤ (elems.length + rest.length) * bytes := Nat.mul_le_mul_left _ hb
      unfold reachBytes at hr; unfold Big; omega
    have key : ∀ i, i < len → ∃ (x : α) (c : List Value), E x c ∧ c.length = sz ∧ ∀ j, j < sz → w.cell? (a.add (i * sz + j)) = c[j]? := fun i hi => by
      have h1 := he i hi
      have h2 : elems[i]? = some elems[i] := List.getElem?_eq_getElem (by omega)
      rw [h2] at h1
      obtain ⟨c, h3, h4⟩ := Option.bind_eq_some_iff.1 h1
      obtain ⟨_, h5, h6⟩ := World.cells?_some h3
      obtain ⟨x, hx⟩ := hel n c elems[i] (Nat.lt_succ_self n) h4 (hwe _ (List.mem_map.2 ⟨elems[i], List.getElem_mem _, rfl⟩))
      rw [hC] at h5 h6
      exact ⟨x, c, hx, h5, fun j hj => by rw [← Go.Deep.add_add]; exact h6 j hj⟩
    rcases Nat.eq_zero_or_pos len with h0 | h0
    · subst h0
      exact ⟨_, [], rfl, ⟨some a, cap, rfl, Nat.zero_le _, Nat.zero_le _, fun h => absurd rfl h⟩⟩
    · obtain ⟨x0, c0, _, hc0, hcell0⟩ := key 0 h0
      have hv0 := hcell0 0 hsz
      rw [List.getElem?_eq_getElem (by omega)] at hv0
      obtain ⟨b, off, spot⟩ := a
      have hspot : spot = none := by simpa [Addr.add] using World.cell?_spot hv0
      subst hspot
      have hbl : b < w.heap.size := by
        have := World.block_lt_of_cell? w _ hv0
        simpa [Addr.add] using this
      classical
      refine ⟨_, (List.range len).map fun i => if hi : i < len then Classical.choose (key i hi) else x0, rfl, some ⟨b, off, none⟩, cap, by simp, by simp; omega, by simp; omega, fun _ => ⟨b, off, rfl, hbl, fun j x hx => ?_⟩⟩
      have hj : j < len := by have := (List.getElem?_eq_some_iff.1 hx).1; simpa using this
      rw [List.getElem?_map, List.getElem?_range hj] at hx
      simp only [Option.map_some, dif_pos hj, Option.some.injEq] at hx
      obtain ⟨c, h1, h2, h3⟩ := Classical.choose_spec (key j hj)
      rw [hx] at h1
      refine ⟨c, h1, h2, fun i u hi => ?_⟩
      have hlt : i < sz := by have := (List.getElem?_eq_some_iff.1 hi).1; omega
      have := h3 i hlt
      rw [hi] at this
      rw [← this]
      congr 1
      simp [Addr.add, Nat.add_assoc]

theorem cellsDot : Tryz.prog.cellsOf 54 = 2 := by kernel_rfl
theorem cellsEntry : Tryz.prog.cellsOf 142 = 4 := by kernel_rfl
theorem cellsTree : Tryz.prog.cellsOf 27 = 2 := by kernel_rfl
theorem cellsKid : Tryz.prog.cellsOf 155 = 3 := by kernel_rfl
theorem cellsOne : Tryz.prog.cellsOf 9 = 1 ∧ Tryz.prog.cellsOf 3 = 1 ∧ Tryz.prog.cellsOf 2 = 1 ∧ Tryz.prog.cellsOf 24 = 1 ∧ Tryz.prog.cellsOf 25 = 1 := by refine ⟨?_, ?_, ?_, ?_, ?_⟩ <;> kernel_rfl
theorem bytesEntry : Tryz.prog.bytesOf 142 = 40 := by kernel_rfl
theorem bytesKid : Tryz.prog.bytesOf 155 = 64 := by kernel_rfl

theorem dot_open {fuel : Nat} {cs : List Value} {x : DataW H × List MemPlace} (h : DataW.trod enc Tryz.prog w 0 (fun _ => true) true fuel 54 cs = some x) : ∃ d : Dt, DtE d cs := by
  obtain ⟨xs, n, rfl, rfl, hl, hx, hf⟩ := DataW.trod_struct Tryz.underlying54 h
  rw [cellsDot] at hl
  match cs, hl with
  | [c0, c1], _ =>
    match xs, hx with
    | [y0, y1], _ =>
      have f0 : DataW.trod enc Tryz.prog w 0 (fun _ => true) true n 3 (([c0, c1].drop 0).take (Tryz.prog.cellsOf 3)) = some y0 := hf 0 _ rfl
      rw [cellsOne.2.1] at f0
      have f1 : DataW.trod enc Tryz.prog w 0 (fun _ => true) true n 2 (([c0, c1].drop 1).take (Tryz.prog.cellsOf 2)) = some y1 := hf 1 _ rfl
      rw [cellsOne.2.2.1] at f1
      obtain ⟨a, e0, _, w0⟩ := DataW.trod_int Tryz.underlying3 (show DataW.trod enc Tryz.prog w 0 (fun _ => true) true n 3 [c0] = some y0 from f0)
      obtain ⟨b, e1, _, w1⟩ := DataW.trod_int Tryz.underlying2 (show DataW.trod enc Tryz.prog w 0 (fun _ => true) true n 2 [c1] = some y1 from f1)
      simp at e0 e1
      subst e0; subst e1
      exact ⟨⟨a, b⟩, rfl, wf_i64 w0, wf_i64 w1⟩
theorem entry_open {fuel : Nat} {cs : List Value} {x : DataW H × List MemPlace} (h : DataW.trod enc Tryz.prog w 0 (fun _ => true) true fuel 142 cs = some x) (hw : Wt Tryz.prog 142 x.1) : ∃ e : En, EnE e cs := by
  obtain ⟨xs, n, rfl, rfl, hl, hx, hf⟩ := DataW.trod_struct Tryz.underlying142 h
  rw [cellsEntry] at hl
  match cs, hl with
  | [c0, c1, c2, c3], _ =>
    match xs, hx with
    | [y0, y1, y2], _ =>
      have f0 : DataW.trod enc Tryz.prog w 0 (fun _ => true) true n 54 (([c0, c1, c2, c3].drop 0).take (Tryz.prog.cellsOf 54)) = some y0 := hf 0 _ rfl
      rw [cellsDot] at f0
      have f1 : DataW.trod enc Tryz.prog w 0 (fun _ => true) true n 9 (([c0, c1, c2, c3].drop 2).take (Tryz.prog.cellsOf 9)) = some y1 := hf 1 _ rfl
      rw [cellsOne.1] at f1
      have f2 : DataW.trod enc Tryz.prog w 0 (fun _ => true) true n 2 (([c0, c1, c2, c3].drop 3).take (Tryz.prog.cellsOf 2)) = some y2 := hf 2 _ rfl
      rw [cellsOne.2.2.1] at f2
      obtain ⟨d, ed, od⟩ := dot_open (show DataW.trod enc Tryz.prog w 0 (fun _ => true) true n 54 [c0, c1] = some y0 from f0)
      obtain ⟨s, e1, hy1, _⟩ := DataW.trod_string Tryz.underlying9 (show DataW.trod enc Tryz.prog w 0 (fun _ => true) true n 9 [c2] = some y1 from f1)
      obtain ⟨b, e2, _, w2⟩ := DataW.trod_int Tryz.underlying2 (show DataW.trod enc Tryz.prog w 0 (fun _ => true) true n 2 [c3] = some y2 from f2)
      have hs : s.size ≤ Big := by
        have := Wt.field Tryz.underlying142 hw (i := 1) (d := y1.1) rfl rfl s.size (by rw [hy1]; simp [DataW.weights])
        unfold reachBytes at this; unfold Big; omega
      simp at ed e1 e2
      obtain ⟨rfl, rfl⟩ := ed
      subst e1; subst e2
      exact ⟨⟨d.dc, d.n, s, b⟩, rfl, od.dc, od.n, wf_i64 w2, hs⟩
theorem tree_open : ∀ (fuel : Nat) (cs : List Value) (x : DataW H × List MemPlace), DataW.trod enc Tryz.prog w 0 (fun _ => true) true fuel 27 cs = some x → Wt Tryz.prog 27 x.1 → ∃ t ve vk, cs = [ve, vk] ∧ Tr.rd w w.heap.size t ve vk := by
  intro fuel
  induction fuel using Nat.strongRecOn with
  | ind fuel ih =>
  intro cs x h hw
  obtain ⟨xs, n, rfl, rfl, hl, hx, hf⟩ := DataW.trod_struct Tryz.underlying27 h
  rw [cellsTree] at hl
  match cs, hl with
  | [c0, c1], _ =>
    match xs, hx with
    | [y0, y1], _ =>
      have f0 : DataW.trod enc Tryz.prog w 0 (fun _ => true) true n 24 (([c0, c1].drop 0).take (Tryz.prog.cellsOf 24)) = some y0 := hf 0 _ rfl
      rw [cellsOne.2.2.2.1] at f0
      have f1 : DataW.trod enc Tryz.prog w 0 (fun _ => true) true n 25 (([c0, c1].drop 1).take (Tryz.prog.cellsOf 25)) = some y1 := hf 1 _ rfl
      rw [cellsOne.2.2.2.2] at f1
      obtain ⟨v0, es, e0, h0⟩ := slc_open (E := EnE) Tryz.underlying24 cellsEntry (by decide) bytesEntry (by decide) (show DataW.trod enc Tryz.prog w 0 (fun _ => true) true n 24 [c0] = some y0 from f0) (Wt.field Tryz.underlying27 hw (i := 0) rfl rfl)
        (fun m cs y _ hy hwy => entry_open hy hwy)
      obtain ⟨v1, ks, e1, h1⟩ := slc_open (E := KdE w w.heap.size) Tryz.underlying25 cellsKid (by decide) bytesKid (by decide) (show DataW.trod enc Tryz.prog w 0 (fun _ => true) true n 25 [c1] = some y1 from f1) (Wt.field Tryz.underlying27 hw (i := 1) rfl rfl)
        (fun m cs y hm hy hwy => by
          obtain ⟨zs, k, rfl, rfl, hl, hz, hg⟩ := DataW.trod_struct Tryz.underlying155 hy
          rw [cellsKid] at hl
          match cs, hl with
          | [d0, d1, d2], _ =>
            match zs, hz with
            | [z0, z1], _ =>
              have g0 : DataW.trod enc Tryz.prog w 0 (fun _ => true) true k 9 (([d0, d1, d2].drop 0).take (Tryz.prog.cellsOf 9)) = some z0 := hg 0 _ rfl
              rw [cellsOne.1] at g0
              have g1 : DataW.trod enc Tryz.prog w 0 (fun _ => true) true k 27 (([d0, d1, d2].drop 1).take (Tryz.prog.cellsOf 27)) = some z1 := hg 1 _ rfl
              rw [cellsTree] at g1
              obtain ⟨s, u1, hy1, _⟩ := DataW.trod_string Tryz.underlying9 (show DataW.trod enc Tryz.prog w 0 (fun _ => true) true k 9 [d0] = some z0 from g0)
              obtain ⟨t, ve, vk, u2, ht⟩ := ih k (by omega) [d1, d2] z1 (show DataW.trod enc Tryz.prog w 0 (fun _ => true) true k 27 [d1, d2] = some z1 from g1) (Wt.field Tryz.underlying155 hwy (i := 1) rfl rfl)
              have hs : s.size ≤ Big := by
                have := Wt.field Tryz.underlying155 hwy (i := 0) (d := z0.1) rfl rfl s.size (by rw [hy1]; simp [DataW.weights])
                unfold reachBytes at this; unfold Big; omega
              simp at u1 u2
              obtain ⟨rfl, rfl⟩ := u2
              subst u1
              exact ⟨(s, t), d1, d2, rfl, hs, ht⟩)
      simp at e0 e1
      subst e0; subst e1
      exact ⟨.mk es ks, c0, c1, rfl, rd_iff.2 ⟨h0, h1⟩⟩

/-- Behind a call that turns nothing that was there, the arguments read as before. -/
theorem trodAll_below (hl : laidOutB Tryz.prog = true) {W' : World} : ∀ (ts : List TypeId) (vs : List Value) (ds : List (DataW H)) (ps : List MemPlace), (∀ t ∈ ts, Tryz.prog.readableRec t = true ∧ t < Tryz.prog.types.size) →
    DataW.TrodAll enc Tryz.prog w 0 (fun _ => true) true ts vs ds ps → Below w.heap.size w W' → (∀ x ∈ ps, x.block < w.heap.size) → DataW.TrodAll enc Tryz.prog W' 0 (fun b => decide (b < w.heap.size)) true ts vs ds ps
  | [], [], [], ps, _, h, _, _ => h
  | t :: ts, v :: vs, d :: ds, ps, hr, h, hb, hlt => by
    obtain ⟨p, q, h1, h2, rfl⟩ := h
    exact ⟨p, q, Below.trod hl (hr t (by simp)).1 (hr t (by simp)).2 h1 hb (fun x hx => hlt x (List.mem_append_left _ hx)), trodAll_below hl ts vs ds q (fun t ht => hr t (by simp [ht])) h2 hb (fun x hx => hlt x (List.mem_append_right _ hx)), rfl⟩
end
end Go.Proofs.YtmphgnjodangcaaGreat

namespace Go.Proofs.YtmphgnjodangcaaGreat
open Go.ChangeShapes Go.WideShapes Go.ChangeAt Go.RowKit
set_option maxRecDepth 100000

theorem own : ownKnob Tryz.prog.godebug = none := by kernel_rfl
theorem laidOut : laidOutB Tryz.prog = true := by kernel_rfl
theorem okTree : Tryz.prog.readableRec 27 = true ∧ 27 < Tryz.prog.types.size := ⟨by kernel_rfl, of_decide_eq_true (by kernel_rfl)⟩
theorem okDot : Tryz.prog.readableRec 54 = true ∧ 54 < Tryz.prog.types.size := ⟨by kernel_rfl, of_decide_eq_true (by kernel_rfl)⟩
theorem okInt64 : Tryz.prog.readableRec 2 = true ∧ 2 < Tryz.prog.types.size := ⟨by kernel_rfl, of_decide_eq_true (by kernel_rfl)⟩

theorem tree_arg {H : Type} {enc : TypeId × Value → H} {W : World} {base : Nat} {v : Value} {d : DataW H} {p : List MemPlace} (hv : Value.okWide Tryz.prog W .any base 27 v) (h : DataW.Trod enc Tryz.prog W 0 (fun _ => true) true 27 v d p) (hw : Wt Tryz.prog 27 d) :
    ∃ t ve vk, v = .agg #[ve, vk] ∧ Tr.rd W W.heap.size t ve vk := by
  obtain ⟨cs, rfl, hs⟩ := okWide_struct Tryz.underlying27 hv
  obtain ⟨fuel, hf⟩ := h
  obtain ⟨t, ve, vk, e, ht⟩ := tree_open fuel _ _ hf hw
  refine ⟨t, ve, vk, ?_, ht⟩
  simp [Value.cells] at e
  obtain ⟨l⟩ := cs
  simp at e
  rw [e]
theorem dot_arg {H : Type} {enc : TypeId × Value → H} {W : World} {base : Nat} {v : Value} {d : DataW H} {p : List MemPlace} (hv : Value.okWide Tryz.prog W .any base 54 v) (h : DataW.Trod enc Tryz.prog W 0 (fun _ => true) true 54 v d p) :
    ∃ x : Dt, v = .agg #[.int .i64 x.dc, .int .i64 x.n] ∧ x.Ok := by
  obtain ⟨cs, rfl, hs⟩ := okWide_struct Tryz.underlying54 hv
  obtain ⟨fuel, hf⟩ := h
  obtain ⟨x, e, ho⟩ := dot_open hf
  refine ⟨x, ?_, ho⟩
  simp [Value.cells] at e
  obtain ⟨l⟩ := cs
  simp at e
  rw [e]
theorem int_arg {H : Type} {enc : TypeId × Value → H} {W : World} {base : Nat} {v : Value} {d : DataW H} {p : List MemPlace} (hv : Value.okWide Tryz.prog W .any base 2 v) (h : DataW.Trod enc Tryz.prog W 0 (fun _ => true) true 2 v d p) :
    ∃ n : Int, v = .int .i64 n ∧ I64 n := by
  obtain ⟨n, rfl, _, _, hw⟩ := open_int Tryz.underlying2 hv h
  exact ⟨n, rfl, wf_i64 hw⟩
end Go.Proofs.YtmphgnjodangcaaGreat
