/- What the laws need, part 1: register.Write. No condition but that there are not too many entries. tributarylaw13.awake answers true. No condition. tributarylaw13.small. No condition. tributarylaw13.may. No condition but that the tree is not too big. The law RegisterTurns answers true. No condition. set.check, set.has, set.seen. No condition but that there are not too many entries. set.Del. No condition but that there are not too many entries. set.Add. No condition but that there are not too many entries. set.Elems, set.Has, tributaryref10.Elems, tributaryref10.Less, slices.Contains at texts. No condition but that there are not too many. tributarylaw11.awake answers true. No condition. tributarylaw14.small. No condition. tributarylaw11.small, may, seen. No condition but that there are not too many entries. -/
import Derived.Test.YtkjijbogbelilaaGreatTc1
namespace Go.Proofs.YtkjijbogbelilaaGreat
open Go.RowKit
set_option maxRecDepth 100000

theorem OwnP.single {α : Type} {w : World} {base n sz : Nat} {e : TypeId} {E : α → List Value → Prop} {x : α} {cs : List Value} (hE : E x cs) (hl : cs.length = sz) (h : w.heap[n]? = some (.cells cs.toArray e (0, 0))) (hb : base ≤ n) : OwnP w base e sz E (.slice (some ⟨n, 0, none⟩) 1 1) [x] := by
  refine ⟨[cs], ⟨rfl, fun j y hy => ?_⟩, by simp [hl], .inr ⟨n, 1, cs.toArray, rfl, hb, h, Nat.le_refl _, by simp [maxLen], by simp [hl], by simp [List.take_of_length_le (Nat.le_of_eq hl)]⟩⟩
  match j, hy with
  | 0, hy => simp at hy; subst hy; exact ⟨cs, rfl, hE, hl⟩
/-- Entries' own dots. -/
def ownD (t : Tr) : List Dt := t.es.map En.dot
theorem ownD_right {t : Tr} (h : t.right 5 = true) : ∀ d ∈ ownD t, d.right = true := fun d hd => right_dots t 5 h d (by
  obtain ⟨es, ks⟩ := t
  rw [Tr.dots]; exact List.mem_append_left _ hd)
theorem ownD_len (t : Tr) : (ownD t).length ≤ t.sz := by
  obtain ⟨es, ks⟩ := t
  unfold ownD; rw [List.length_map, Tr.sz]; simp only [Tr.es]; omega
/-- May the text be written? -/
def wrtB (t : Tr) (s : ByteArray) (d : Dt) : Bool := chkT t d && decide (s.size ≤ 30)
def wrtE (t : Tr) (s : ByteArray) (d : Dt) : Int := if wrtB t s d then 0 else 1
def wrtT (t : Tr) (s : ByteArray) (d : Dt) : Tr := if wrtB t s d then .mk [⟨d.dc, d.n, s, 0⟩] [] else .mk [] []
def wrtC (t : Tr) (s : ByteArray) (d : Dt) : List Sp := if wrtB t s d then ctxOf (d :: ownD t) else []
theorem wrtEn {d : Dt} {s : ByteArray} (hd : d.Ok) (hs : s.size ≤ Big) : EnE (⟨d.dc, d.n, s, 0⟩ : En) [.int .i64 d.dc, .int .i64 d.n, .string s, .int .i64 0] := ⟨rfl, hd.dc, hd.n, ⟨by show (_ : Int) ≤ 0; decide, by show (0 : Int) ≤ _; decide⟩, hs⟩

set_option maxHeartbeats 4000000 in
theorem rwrite_any (t : Tr) (s : ByteArray) (d : Dt) (ve vk : Value) (w : World) (h : t.rd w w.heap.size ve vk) (hs : s.size ≤ Big) (hN : t.sz ≤ 4000) (hd : d.Ok) :
    Calls Tryz.prog 59 #[.agg #[ve, vk], .string s, .agg #[.int .i64 d.dc, .int .i64 d.n]] w (RetCE w (wrtT t s d) (wrtC t s d) (wrtE t s d)) := by
  have hsb : s.size ≤ 140737488355328 := hs
  have hol := ownD_len t
  have HSL : Hid (SlP w w.heap.size 4 EnE ve t.es) := by obtain ⟨es, ks⟩ := t; exact (rd_iff.1 h).1
  have HC : Hid (∀ w', Below w.heap.size w w' → t.rd w' w'.heap.size ve vk) := fun w' hb => rd_below hb hb.size _ _ _ h
  obtain ⟨A3, n3, A4, n4, rfl, rfl⟩ := rd_shape h
  have hb0 := (((Below.refl w.heap.size w).alloc (Nat.le_refl _) (.cells #[.slice A3 t.es.length n3, .slice A4 t.ks.length n4] 25)).alloc (by simp) (.cells #[.int .i64 d.dc, .int .i64 d.n] 42)).alloc (by simp; omega) (.cells #[.slice none 0 0, .slice none 0 0, .slice none 0 0] 29)
  clear h
  go_enter Tryz.func59, Tryz.ntmps59
  go_wp2_with fail
  refine (fcheck_any t d _ _ _ (HC.out _ hb0) (by omega)).mono ?_
  rintro e w1 ⟨rfl, hb1⟩
  have hs1 := hb1.size
  simp only [World.size_alloc] at hs1
  have hB1 : Below w.heap.size w w1 := hb0.trans (hb1.mono (by simp; omega))
  have c0 : w1.cell? ⟨w.heap.size, 0, none⟩ = some (.slice A3 t.es.length n3) := by
    rw [hb1.cell (p := ⟨w.heap.size, 0, none⟩) (by simp; omega)]
    rw [World.cell?_alloc_lt _ _ _ (by simp; omega), World.cell?_alloc_lt _ _ _ (by simp)]; simp
  have c1 : w1.cell? ⟨w.heap.size, 1, none⟩ = some (.slice A4 t.ks.length n4) := by
    rw [hb1.cell (p := ⟨w.heap.size, 1, none⟩) (by simp; omega)]
    rw [World.cell?_alloc_lt _ _ _ (by simp; omega), World.cell?_alloc_lt _ _ _ (by simp)]; simp
  have d0 : w1.cell? ⟨w.heap.size + 1, 0, none⟩ = some (.int .i64 d.dc) := by rw [hb1.cell (p := ⟨w.heap.size + 1, 0, none⟩) (by simp), World.cell?_alloc_lt _ _ _ (by simp)]; simp
  have d1 : w1.cell? ⟨w.heap.size + 1, 1, none⟩ = some (.int .i64 d.n) := by rw [hb1.cell (p := ⟨w.heap.size + 1, 1, none⟩) (by simp), World.cell?_alloc_lt _ _ _ (by simp)]; simp
  have hg : w1.heap[w.heap.size + 2]? = some (.cells #[.slice none 0 0, .slice none 0 0, .slice none 0 0] 29 (0, 0)) := (hb1.block (w.heap.size + 2) (by simp)).trans (heap_new (by simp))
  have HG := hid hg
  have k0 : w1.cell? ⟨w.heap.size + 2, 0, none⟩ = some (.slice none 0 0) := cell_cells (i := 0) hg
  have k1 : w1.cell? ⟨w.heap.size + 2, 1, none⟩ = some (.slice none 0 0) := cell_cells (i := 1) hg
  have k2 : w1.cell? ⟨w.heap.size + 2, 2, none⟩ = some (.slice none 0 0) := cell_cells (i := 2) hg
  have z0 := cells_frz (i := 0) hg
  have z1 := cells_frz (i := 1) hg
  have z2 := cells_frz (i := 2) hg
  clear hg hb1
  cases hc : chkT t d
  · have HI : Hid (chkI t d = 1) := by unfold Hid chkI; rw [hc]; rfl
    have HE : Hid (wrtE t s d = 1) := by unfold Hid wrtE wrtB; rw [hc]; rfl
    have HTT : Hid (wrtT t s d = .mk [] []) := by unfold Hid wrtT wrtB; rw [hc]; rfl
    have HCC : Hid (wrtC t s d = []) := by unfold Hid wrtC wrtB; rw [hc]; rfl
    rw [HI.out]
    clear hc
    go_wp2_with fail
    obtain ⟨r0, r1, r2, hK, hS⟩ := box3 HG.out (.slice none 0 0) (.slice none 0 0) (.slice none 0 0)
    have hBW := ((hB1.setCell (p := ⟨w.heap.size + 2, 0, none⟩) (by simp) (.slice none 0 0)).setCell (p := ⟨w.heap.size + 2, 1, none⟩) (by simp) (.slice none 0 0)).setCell (p := ⟨w.heap.size + 2, 2, none⟩) (by simp) (.slice none 0 0)
    refine bodyPost_ret (v := .tuple #[.agg #[.slice none 0 0, .slice none 0 0, .slice none 0 0], .int .i64 1]) (by simp [results, Tryz.results59, go_sem, r0, r1, r2]) rfl ⟨_, _, _, by rw [HE.out], by rw [HTT.out]; exact rda_nil _ _, by rw [HCC.out]; exact SlA.nil, hBW⟩
  have HI : Hid (chkI t d = 0) := by unfold Hid chkI; rw [hc]; rfl
  rw [HI.out]
  have h30 : decide ((30 : Int) < (s.size : Int)) = !decide (s.size ≤ 30) := by rw [Bool.eq_iff_iff]; simp; omega
  cases hz : decide (s.size ≤ 30)
  · have HE : Hid (wrtE t s d = 1) := by unfold Hid wrtE wrtB; rw [hc, hz]; rfl
    have HTT : Hid (wrtT t s d = .mk [] []) := by unfold Hid wrtT wrtB; rw [hc, hz]; rfl
    have HCC : Hid (wrtC t s d = []) := by unfold Hid wrtC wrtB; rw [hc, hz]; rfl
    rw [hz] at h30
    simp only [Bool.not_false] at h30
    clear hc hz
    go_wp2_with fail
    obtain ⟨r0, r1, r2, hK, hS⟩ := box3 HG.out (.slice none 0 0) (.slice none 0 0) (.slice none 0 0)
    have hBW := ((hB1.setCell (p := ⟨w.heap.size + 2, 0, none⟩) (by simp) (.slice none 0 0)).setCell (p := ⟨w.heap.size + 2, 1, none⟩) (by simp) (.slice none 0 0)).setCell (p := ⟨w.heap.size + 2, 2, none⟩) (by simp) (.slice none 0 0)
    refine bodyPost_ret (v := .tuple #[.agg #[.slice none 0 0, .slice none 0 0, .slice none 0 0], .int .i64 1]) (by simp [results, Tryz.results59, go_sem, r0, r1, r2]) rfl ⟨_, _, _, by rw [HE.out], by rw [HTT.out]; exact rda_nil _ _, by rw [HCC.out]; exact SlA.nil, hBW⟩
  rw [hz] at h30
  simp only [Bool.not_true] at h30
  have HE : Hid (wrtE t s d = 0) := by unfold Hid wrtE wrtB; rw [hc, hz]; rfl
  have HTT : Hid (wrtT t s d = .mk [⟨d.dc, d.n, s, 0⟩] []) := by unfold Hid wrtT wrtB; rw [hc, hz]; rfl
  have HCC : Hid (wrtC t s d = ctxOf (d :: ownD t)) := by unfold Hid wrtC wrtB; rw [hc, hz]; rfl
  have hdr := chkT_right hc
  have htr := chkT_tree hc
  have HRA : Hid (∀ x ∈ d :: ownD t, x.right = true) := fun x hx => by
    rcases List.mem_cons.1 hx with rfl | hx
    · exact hdr
    · exact ownD_right htr x hx
  clear hc hz hdr htr
  have HGB : Hid (∀ w', Below w1.heap.size w1 w' → w'.cell? ⟨w.heap.size + 1, 0, none⟩ = some (.int .i64 d.dc) ∧ w'.cell? ⟨w.heap.size + 1, 1, none⟩ = some (.int .i64 d.n) ∧ w'.heap[w.heap.size + 2]? = some (.cells #[.slice none 0 0, .slice none 0 0, .slice none 0 0] 29 (0, 0))) := fun w' hb =>
    ⟨(hb.cell (p := ⟨w.heap.size + 1, 0, none⟩) (by show w.heap.size + 1 < _; omega)).trans d0, (hb.cell (p := ⟨w.heap.size + 1, 1, none⟩) (by show w.heap.size + 1 < _; omega)).trans d1, (hb.block _ (by omega)).trans HG.out⟩
  have hlt0 : w.heap.size < w1.heap.size := by omega
  have hne0 : w.heap.size ≠ w1.heap.size := by omega
  have hne1 : w.heap.size + 1 ≠ w1.heap.size := by omega
  clear k0 k1 k2 z0 z1 z2
  have HW0 : Hid (OwnP (w1.alloc (.cells #[.int .i64 d.dc, .int .i64 d.n] 42)) w1.heap.size 42 2 DtE (.slice (some ⟨w1.heap.size, 0, none⟩) 1 1) [d]) := OwnP.single (x := d) (cs := [.int .i64 d.dc, .int .i64 d.n]) ⟨rfl, hd⟩ rfl (heap_new rfl) (Nat.le_refl _)
  have hel : t.es.length ≤ 4000 := by unfold ownD at hol; rw [List.length_map] at hol; omega
  go_wp2_with fail
  go_loopw [9, 30] (fun v i wr => ∃ k : Nat, k ≤ t.es.length ∧ i = .int .i64 k ∧ OwnP wr w1.heap.size 42 2 DtE v (d :: (t.es.take k).map En.dot) ∧ Below w1.heap.size w1 wr) (fun _ i _ => t.es.length - (intOf i).toNat)
  case atStart => exact ⟨0, Nat.zero_le _, rfl, HW0.out, (Below.refl _ w1).alloc (Nat.le_refl _) _⟩
  case round =>
    obtain ⟨k, hk, rfl, hown, hb⟩ := hrel
    have hsz := hb.size
    have hB0 : Below w.heap.size w wr := hB1.trans (hb.mono (by omega))
    by_cases hlt : k < t.es.length
    · obtain ⟨x, hx⟩ : ∃ x, t.es[k]? = some x := ⟨_, List.getElem?_eq_getElem hlt⟩
      obtain ⟨Ae, ne, hve, _, _, b3⟩ := HSL.out
      cases hve
      obtain ⟨b, off, rfl, hbB, hcc⟩ := b3 (by intro h0; rw [h0] at hlt; simp at hlt)
      obtain ⟨cs, ⟨rfl, hok⟩, _, hu⟩ := hcc k _ hx
      have e0 : wr.cell? ⟨b, off + k * 4, none⟩ = some (.int .i64 x.dc) := (hB0.cell hbB).trans (hu 0 _ rfl)
      have e1 : wr.cell? ⟨b, off + k * 4 + 1, none⟩ = some (.int .i64 x.n) := (hB0.cell hbB).trans (hu 1 _ rfl)
      have e2 : wr.cell? ⟨b, off + k * 4 + 2, none⟩ = some (.string x.s) := (hB0.cell hbB).trans (hu 2 _ rfl)
      have e3 : wr.cell? ⟨b, off + k * 4 + 3, none⟩ = some (.int .i64 x.v) := (hB0.cell hbB).trans (hu 3 _ rfl)
      have hdx : x.dot.Ok := ⟨hok.dc, hok.n⟩
      have HX : Hid (d :: (t.es.take (k + 1)).map En.dot = d :: (t.es.take k).map En.dot ++ [x.dot]) := by
        unfold Hid; rw [List.take_add_one, hx]; simp
      have HL : Hid ((d :: (t.es.take k).map En.dot).length + [x.dot].length ≤ Few) := by unfold Hid Few; simp; omega
      have HBW : Hid (w1.heap.size ≤ wr.heap.size + 1 + 1) := by unfold Hid; omega
      clear hu hcc b3 hx hok c0 c1 d0 d1
      go_wp2_with (at_builtin; go_loud (refine wpList_few rfl (.tmp 34) (.tmp 37) _ rfl eiDot (by decide) (by decide) (fun _ _ h => h.one) rfl ((hown.alloc _).alloc _) rfl (SlP.one (x := x.dot) (cs := [.int .i64 x.dc, .int .i64 x.n]) ⟨rfl, hdx⟩ rfl _ (World.size_alloc _ _).symm) HL.out (by rw [World.size_alloc, World.size_alloc]; exact HBW.out) ?_); intro v1 w2 hown1 hb1 _)
      go_roundw
      case rel =>
        refine ⟨k + 1, by omega, by go_num, by rw [HX.out]; exact hown1, ((hb.alloc (by omega) _).alloc (by simp; omega) _).trans hb1⟩
      case measure => simp [intOf]; omega
    · obtain rfl : k = t.es.length := by omega
      rw [List.take_of_length_le (Nat.le_refl _)] at hown
      have hown : OwnP wr w1.heap.size 42 2 DtE _ (d :: ownD t) := hown
      have HO := hid (hown.sl (by unfold Big; simp; omega))
      clear hown c0 c1 d0 d1
      go_wp2_with fail
      refine (cof_any (d :: ownD t) _ wr HO.out HRA.out (by simp; omega)).mono ?_
      rintro e w2 ⟨v2, rfl, ho2, hb2⟩
      obtain ⟨A5, c5, rfl⟩ := ho2.shape
      have hs2 := hb2.size
      have hB2 : Below w1.heap.size w1 w2 := hb.trans (hb2.mono (by omega))
      obtain ⟨d0, d1, g6⟩ := HGB.out w2 hB2
      have HG2 := hid g6
      have k0 : w2.cell? ⟨w.heap.size + 2, 0, none⟩ = some (.slice none 0 0) := cell_cells (i := 0) g6
      have k1 : w2.cell? ⟨w.heap.size + 2, 1, none⟩ = some (.slice none 0 0) := cell_cells (i := 1) g6
      have k2 : w2.cell? ⟨w.heap.size + 2, 2, none⟩ = some (.slice none 0 0) := cell_cells (i := 2) g6
      have z0 := cells_frz (i := 0) g6
      have z1 := cells_frz (i := 1) g6
      have z2 := cells_frz (i := 2) g6
      have HO2 := hid ho2
      have hcl := ctxOf_len (d :: ownD t)
      have hlt2 : w.heap.size + 2 < w2.heap.size := by omega
      have hne2 : w.heap.size + 2 ≠ w2.heap.size := by omega
      clear g6 ho2
      generalize ctxOf (d :: ownD t) = C at *
      go_wp2_with fail
      obtain ⟨r0, r1, r2, hK, hS⟩ := box3 HG2.out (.slice (some ⟨w2.heap.size, 0, none⟩) 1 1) (.slice none 0 0) (.slice A5 C.length c5)
      have hBW : Below w.heap.size w (((w2.setCell ⟨w.heap.size + 2, 0, none⟩ (.slice (some ⟨w2.heap.size, 0, none⟩) 1 1)).setCell ⟨w.heap.size + 2, 1, none⟩ (.slice none 0 0)).setCell ⟨w.heap.size + 2, 2, none⟩ (.slice A5 C.length c5)) := (((hB1.trans (hB2.mono (by omega))).setCell (by simp) _).setCell (by simp) _).setCell (by simp) _
      clear k0 k1 k2 z0 z1 z2
      generalize (((w2.setCell ⟨w.heap.size + 2, 0, none⟩ (.slice (some ⟨w2.heap.size, 0, none⟩) 1 1)).setCell ⟨w.heap.size + 2, 1, none⟩ (.slice none 0 0)).setCell ⟨w.heap.size + 2, 2, none⟩ (.slice A5 C.length c5)) = W at *
      have q0 : (W.alloc (.cells #[.int .i64 d.dc, .int .i64 d.n, .string s, .int .i64 0] 63)).cell? ⟨w.heap.size + 1 + 1, 0, none⟩ = some (.slice (some ⟨w2.heap.size, 0, none⟩) 1 1) := by rw [World.cell?_alloc_lt _ _ _ (by show w.heap.size + 2 < _; omega)]; exact r0
      have q1 : (W.alloc (.cells #[.int .i64 d.dc, .int .i64 d.n, .string s, .int .i64 0] 63)).cell? ⟨w.heap.size + 1 + 1, 1, none⟩ = some (.slice none 0 0) := by rw [World.cell?_alloc_lt _ _ _ (by show w.heap.size + 2 < _; omega)]; exact r1
      have q2 : (W.alloc (.cells #[.int .i64 d.dc, .int .i64 d.n, .string s, .int .i64 0] 63)).cell? ⟨w.heap.size + 1 + 1, 2, none⟩ = some (.slice A5 C.length c5) := by rw [World.cell?_alloc_lt _ _ _ (by show w.heap.size + 2 < _; omega)]; exact r2
      refine bodyPost_ret (v := .tuple #[.agg #[.slice (some ⟨w2.heap.size, 0, none⟩) 1 1, .slice none 0 0, .slice A5 C.length c5], .int .i64 0]) (by simp [results, Tryz.results59, go_sem, q0, q1, q2]) rfl ⟨_, _, _, by rw [HE.out], ?_, ?_, hBW.alloc (by omega) _⟩
      · rw [HTT.out, rda_iff]
        refine ⟨?_, SlA.nil⟩
        exact SlA.one (x := (⟨d.dc, d.n, s, 0⟩ : En)) (cs := [.int .i64 d.dc, .int .i64 d.n, .string s, .int .i64 0]) (e := 63) (z := (0, 0)) (wrtEn hd hs) rfl (heap_new hS.symm) ⟨by omega, by rw [World.size_alloc]; omega⟩
      · rw [HCC.out]
        refine (HO2.out.sla (by unfold Big; simp at hcl; omega)).up (fun b hb => (heap_old (by have := hb.2.1; omega)).trans (hK b (by have := hb.1; omega))) (fun b hb => ⟨by have := hb.1; omega, by rw [World.size_alloc]; have := hb.2.1; omega⟩) (fun _ _ _ h => h)
end Go.Proofs.YtkjijbogbelilaaGreat

namespace Go.Proofs.YtkjijbogbelilaaGreat
open Go.RowKit
set_option maxRecDepth 100000

def vB : ByteArray := ⟨#[118]⟩
def vT : Tr := .mk [⟨1, 1, vB, 0⟩] []
theorem srtL_one (s : ByteArray) : srtL [s] = [s] := by
  unfold srtL
  rw [List.map_cons, List.map_nil, List.mergeSort_singleton]; rfl
theorem cmpL_one (s : ByteArray) : cmpL [s] = [s] := by
  unfold cmpL
  rw [show Lib.compact ([s].map toBy) = [toBy s] by simp [Lib.compact, Lib.compactUpTo, Lib.keeps, List.range_succ]]; rfl
theorem awk13_E : wrtE (.mk [] []) vB ⟨1, 1⟩ = 0 := by kernel_rfl
theorem awk13_T : wrtT (.mk [] []) vB ⟨1, 1⟩ = vT := by kernel_rfl
theorem awk13_C : wrtC (.mk [] []) vB ⟨1, 1⟩ = ctxBy [] [⟨1, 1, 1⟩] 0 := by kernel_rfl
theorem awk13_R : vT.right 5 = true := by kernel_rfl
theorem awk13_V : valsOf vT = [vB] := by
  unfold valsOf
  rw [awk13_R, if_pos rfl, show txtL vT = [vB] from rfl, srtL_one, cmpL_one]
set_option maxHeartbeats 4000000 in
theorem awake13_any (w : World) : Calls Tryz.prog 56 #[] w fun e w' => e = .returned (.bool true) ∧ Below w.heap.size w w' := by
  have hb0 := (Below.refl w.heap.size w).alloc (Nat.le_refl _) (.cells #[.int .i64 1, .int .i64 1] 42)
  go_enter Tryz.func56, Tryz.ntmps56
  go_wp2_with fail
  refine (rwrite_any (.mk [] []) vB ⟨1, 1⟩ _ _ _ rd_empty (by decide) (by simp [Tr.sz, Tr.szL]) ⟨⟨by decide, by decide⟩, ⟨by decide, by decide⟩⟩).mono ?_
  rintro e w1 ⟨ve, vk, vc, rfl, hrd, hsc, hb1⟩
  rw [awk13_E]
  rw [awk13_T] at hrd
  rw [awk13_C] at hsc
  have hP : buildL [([], ⟨1, 1, vB, 0⟩)] = vT := build_one_leaf _
  have hV := awk13_V
  have hkn : vT.es.length ≤ 900000 := by decide
  generalize vT = T at *
  have hP2 : trEq T (buildL [([], ⟨1, 1, vB, 0⟩)]) = true := by rw [hP]; simp [trEq]
  generalize hC : ctxBy [] [(⟨1, 1, 1⟩ : Sp)] 0 = C at hsc
  obtain ⟨C', hC'⟩ : ∃ C', C' = C := ⟨_, rfl⟩
  have HSM : Hid ((trEq T (buildL [([], ⟨1, 1, vB, 0⟩)]) && decide (C = C')) = true) := by
    unfold Hid; rw [hP2, hC']; simp
  have HPC : Hid (ctxBy [] [(⟨1, 1, 1⟩ : Sp)] 0 = C') := hC.trans hC'.symm
  have HAK : Hid (decide (valsOf T = [vB]) = true) := by unfold Hid; rw [hV]; simp
  have HKL : Hid ((valsOf T).length ≤ Big) := by unfold Hid; rw [hV]; decide
  have HAZ : Hid (vB.size ≤ Big) := by unfold Hid; decide
  clear hC' hP hP2 hC hV
  obtain ⟨Ae, ne, Ak, nk, rfl, rfl⟩ := rda_shape hrd
  obtain ⟨Ac, nc, rfl⟩ := hsc.shape
  have hs1 := hb1.size
  simp only [World.size_alloc] at hs1
  have hB1 : Below w.heap.size w w1 := hb0.trans (hb1.mono (by simp))
  have d0 : w1.cell? ⟨w.heap.size, 0, none⟩ = some (.int .i64 1) := by rw [hb1.cell (p := ⟨w.heap.size, 0, none⟩) (by simp)]; simp
  have d1 : w1.cell? ⟨w.heap.size, 1, none⟩ = some (.int .i64 1) := by rw [hb1.cell (p := ⟨w.heap.size, 1, none⟩) (by simp)]; simp
  have HT : Hid (∀ w', Below w1.heap.size w1 w' → T.rd w' w'.heap.size (.slice Ae T.es.length ne) (.slice Ak T.ks.length nk)) := fun w' hb => rda_rd hrd (fun b hb => hb.2) hb
  have HCt : Hid (∀ w', Below w1.heap.size w1 w' → SlP w' w'.heap.size 3 SpE (.slice Ac C.length nc) C) := fun w' hb => hsc.slp (fun b hb => hb.2) hb
  have HB : Hid (∀ w', Below (w1.heap.size + 1) (w1.alloc (.cells #[.slice Ae T.es.length ne, .slice Ak T.ks.length nk, .slice Ac C.length nc] 29)) w' → Below w.heap.size w w' ∧ Below w1.heap.size w1 w' ∧ (w'.cell? ⟨w.heap.size, 0, none⟩ = some (.int .i64 1) ∧ w'.cell? ⟨w.heap.size, 1, none⟩ = some (.int .i64 1) ∧ w'.cell? ⟨w1.heap.size, 0, none⟩ = some (.slice Ae T.es.length ne) ∧ w'.cell? ⟨w1.heap.size, 1, none⟩ = some (.slice Ak T.ks.length nk) ∧ w'.cell? ⟨w1.heap.size, 2, none⟩ = some (.slice Ac C.length nc))) := fun w' hb => by
    have hB : Below w1.heap.size w1 w' := ((Below.refl _ w1).alloc (Nat.le_refl _) _).trans (hb.mono (by omega))
    refine ⟨hB1.trans (hB.mono (by omega)), hB, ?_, ?_, ?_, ?_, ?_⟩
    · rw [hB.cell (p := ⟨w.heap.size, 0, none⟩) (by show w.heap.size < _; omega)]; exact d0
    · rw [hB.cell (p := ⟨w.heap.size, 1, none⟩) (by show w.heap.size < _; omega)]; exact d1
    · rw [hb.cell (p := ⟨w1.heap.size, 0, none⟩) (by simp), World.cell?_alloc_new]; rfl
    · rw [hb.cell (p := ⟨w1.heap.size, 1, none⟩) (by simp), World.cell?_alloc_new]; rfl
    · rw [hb.cell (p := ⟨w1.heap.size, 2, none⟩) (by simp), World.cell?_alloc_new]; rfl
  have hne1 : w.heap.size < w1.heap.size := by omega
  clear hrd hsc hb1
  go_upto_region 3 with (fail)
  go_region_held3 (fun w' => w'.cell? ⟨w.heap.size, 0, none⟩ = some (.int .i64 1) ∧ w'.cell? ⟨w.heap.size, 1, none⟩ = some (.int .i64 1) ∧ w'.cell? ⟨w1.heap.size, 0, none⟩ = some (.slice Ae T.es.length ne) ∧ w'.cell? ⟨w1.heap.size, 1, none⟩ = some (.slice Ak T.ks.length nk) ∧ w'.cell? ⟨w1.heap.size, 2, none⟩ = some (.slice Ac C.length nc))
    (first | go_keep | exact (HB.out _ hb6.out).2.2 | exact (HB.out _ hb5.out).2.2 | exact (HB.out _ hb4.out).2.2 | exact (HB.out _ hb3.out).2.2)
    (first | (go_at_call 61; go_loud ((refine (rvals_any T _ _ _ (HT.out _ (by go_grown)) hkn).mono ?_); rintro e w3 ⟨v3, rfl, ho3, hb⟩; obtain ⟨A9, c9, hv9⟩ := ho3.shape; subst hv9; have HK3 := hid (ho3.sl HKL.out); have hb3 : Hid (Below (w1.heap.size + 1) (w1.alloc (.cells #[.slice Ae T.es.length ne, .slice Ak T.ks.length nk, .slice Ac C.length nc] 29)) w3) := (Below.trans (by go_grown) (hb.mono (by simp))); have hs3 := hb3.out.size; simp only [World.size_alloc] at hs3; (try (have HKC : Hid (w3.cell? ⟨w1.heap.size + 1, 0, none⟩ = some (.string vB)) := (hb.cell (p := ⟨w1.heap.size + 1, 0, none⟩) (by simp; done)).trans (by rw [World.cell?_drew, World.cell?_alloc_at _ _ _ _ (by simp)]; rfl))); (try (have HKC : Hid (w3.cell? ⟨w1.heap.size + 1, 0, none⟩ = some (.string vB)) := (hb.cell (p := ⟨w1.heap.size + 1, 0, none⟩) (by simp; done)).trans (by rw [World.cell?_alloc_at _ _ _ _ (by simp)]; rfl))); clear ho3))
           | (go_at_call 60; go_loud ((refine (r10alike_any (valsOf T) [vB] _ _ _ (w3.heap.size + 1) (HK3.out.imp (by go_grown) (by omega) fun _ _ _ h => h) (by first | exact SlP.oneB (x := vB) (cs := [.string vB]) ⟨rfl, HAZ.out⟩ rfl _ rfl (by omega) | exact SlP.at1 HKC.out HAZ.out (by have := hb.size; simp at this; omega))).mono ?_); rw [HAK.out]; rintro e w4 ⟨rfl, n4, hw4⟩; have hb4 : Hid (Below (w1.heap.size + 1) (w1.alloc (.cells #[.slice Ae T.es.length ne, .slice Ak T.ks.length nk, .slice Ac C.length nc] 29)) w4) := (hw4 ▸ below_drewN (by first | exact hb3.out | exact hb3.out.alloc (by omega) _) n4); have hs4 := hb4.out.size; simp only [World.size_alloc] at hs4; clear hw4))
           | (go_at_call 83; go_loud ((refine (r10put_any [] ⟨1, 1, vB, 0⟩ [] _ _ _ ⟨⟨by decide, by decide⟩, ⟨by decide, by decide⟩, ⟨by decide, by decide⟩, HAZ.out⟩ SlP.nil SlP.nil (by simp) (fun _ h => by cases h) (fun s hs => by simp at hs; subst hs; decide)).mono ?_); rw [HPC.out]; rintro e w5 ⟨ve5, vk5, vc5, rfl, hrd5, hsc5, hb⟩; obtain ⟨A5, n5, A6, n6, hv5, hv6⟩ := rda_shape hrd5; subst hv5; subst hv6; obtain ⟨A7, n7, hv7⟩ := hsc5.shape; subst hv7; have hrd6 := hid (rda_rd hrd5 (fun b hb => hb.2) (Below.refl _ _)); have hsc6 := hid (hsc5.slp (fun b hb => hb.2) (Below.refl _ _)); clear hrd5 hsc5; have hb5 := hid (hb4.out.trans (hb.mono (by omega)))))
           | (go_at_call 27; go_loud ((refine (r09same_any T _ C C' _ _ _ _ _ _ w5 (HT.out _ (HB.out _ hb5.out).2.1) hrd6.out (HCt.out _ (HB.out _ hb5.out).2.1) hsc6.out).mono ?_); rw [HSM.out]; rintro e w6 ⟨rfl, hb⟩; have hb6 := hid (hb5.out.trans (hb.mono (by have := hb5.out.size; simpa using this))))))
  all_goals
    go_wp2_with fail
    go_ret
    exact ⟨rfl, (HB.out _ hb6.out).1⟩
end Go.Proofs.YtkjijbogbelilaaGreat

namespace Go.Proofs.YtkjijbogbelilaaGreat
open Go.RowKit
set_option maxRecDepth 100000

theorem small13_any (t : Tr) (w : World) (ve vk : Value) (h : t.rd w w.heap.size ve vk) :
    Calls Tryz.prog 57 #[.agg #[ve, vk]] w fun e w' => e = .returned (.bool (smlB t 60)) ∧ Below w.heap.size w w' := by
  have HC : Hid (∀ w', Below w.heap.size w w' → t.rd w' w'.heap.size ve vk) := fun w' hb => rd_below hb hb.size _ _ _ h
  obtain ⟨A3, n3, A4, n4, rfl, rfl⟩ := rd_shape h
  have hb0 := (Below.refl w.heap.size w).alloc (Nat.le_refl _) (.cells #[.slice A3 t.es.length n3, .slice A4 t.ks.length n4] 25)
  clear h
  go_enter Tryz.func57, Tryz.ntmps57
  go_wp2_with fail
  refine (r08small_any t _ _ _ 60 (HC.out _ hb0) (by omega) (by omega)).mono ?_
  rintro e w1 ⟨rfl, hb1⟩
  rw [show decide (0 ≤ t.room 60 8) = smlB t 60 from rfl]
  go_wp2_with fail
  go_ret
  exact ⟨rfl, hb0.trans (hb1.mono (by simp))⟩
end Go.Proofs.YtkjijbogbelilaaGreat

namespace Go.Proofs.YtkjijbogbelilaaGreat
open Go.RowKit
set_option maxRecDepth 100000

theorem may13_any (t : Tr) (s : ByteArray) (d : Dt) (ve vk : Value) (w : World) (h : t.rd w w.heap.size ve vk) (hkb : s.size ≤ Big) (hN : t.sz ≤ 90000) :
    Calls Tryz.prog 58 #[.agg #[ve, vk], .string s, .agg #[.int .i64 d.dc, .int .i64 d.n]] w fun e w' => e = .returned (.bool (wrtB t s d)) ∧ Below w.heap.size w w' := by
  have HC : Hid (∀ w', Below w.heap.size w w' → t.rd w' w'.heap.size ve vk) := fun w' hb => rd_below hb hb.size _ _ _ h
  obtain ⟨A3, n3, A4, n4, rfl, rfl⟩ := rd_shape h
  unfold Big at hkb
  have hb0 := ((Below.refl w.heap.size w).alloc (Nat.le_refl _) (.cells #[.slice A3 t.es.length n3, .slice A4 t.ks.length n4] 25)).alloc (by simp) (.cells #[.int .i64 d.dc, .int .i64 d.n] 42)
  clear h
  go_enter Tryz.func58, Tryz.ntmps58
  go_wp2_with fail
  refine (r10check_any t d _ _ _ (HC.out _ hb0) hN).mono ?_
  rintro e w1 ⟨rfl, hb1⟩
  have hB1 : Below w.heap.size w w1 := hb0.trans (hb1.mono (by simp; omega))
  cases hc : chkT t d
  · have HR : Hid (wrtB t s d = false) := by unfold Hid wrtB; rw [hc]; rfl
    clear hc
    go_wp2_with fail
    go_ret
    exact ⟨ret_bool HR.out.symm, hB1⟩
  · have HR : Hid (wrtB t s d = decide ((s.size : Int) ≤ 30)) := by unfold Hid wrtB; rw [hc, Bool.eq_iff_iff]; simp; omega
    clear hc
    cases hz : decide ((s.size : Int) ≤ 30)
    · rw [hz] at HR
      have hz2 : decide (s.size ≤ 30) = false := by simp at hz ⊢; omega
      go_wp2_with fail
      go_ret
      exact ⟨ret_bool HR.out.symm, hB1⟩
    · rw [hz] at HR
      have hz2 : decide (s.size ≤ 30) = true := by simp at hz ⊢; omega
      go_wp2_with fail
      go_ret
      exact ⟨ret_bool HR.out.symm, hB1⟩
end Go.Proofs.YtkjijbogbelilaaGreat

namespace Go.Proofs.YtkjijbogbelilaaGreat
open Go.RowKit
set_option maxRecDepth 100000

theorem vals_one {A : Tr} (h : A.right 5 = true) {e : En} (he : A.es = [e]) : valsOf A = [e.s] := by
  have hx : txtL A = [e.s] := by unfold txtL; rw [he]; rfl
  unfold valsOf
  rw [h, if_pos rfl, hx, sd_eq]
  obtain ⟨h1, h2⟩ := sdL_spec [e.s]
  exact sorted_ext ltS_irrefl (fun _ _ _ h k => ltS_trans h k) h1 (List.pairwise_singleton _ _) fun x => h2 x
theorem es_one {A : Tr} (h : A.Ord) {e : En} (hs : ∀ x y, stE A [] x = some y ↔ x = e.dot ∧ y = e) : A.es = [e] := by
  have hp : A.es.Pairwise fun a b => a.dot.lt b.dot = true := by obtain ⟨es, ks⟩ := A; exact (ord_iff.1 h).1
  refine sorted_ext (r := fun a b : En => a.dot.lt b.dot) (fun a => ltD_irrefl _) (fun _ _ _ h k => ltD_tr h k) hp (List.pairwise_singleton _ _) fun y => ?_
  rw [← mem_es, List.mem_singleton]
  constructor
  · intro hm; exact ((hs y.dot y).1 ((stE_some h).2 ⟨hm, rfl⟩)).2
  · rintro rfl; exact ((stE_some h).1 ((hs y.dot y).2 ⟨rfl, rfl⟩)).1
theorem own_dots {t : Tr} {x : Dt} (h : x ∈ ownD t) : x ∈ t.dots := by
  unfold ownD at h
  obtain ⟨e, he, rfl⟩ := List.mem_map.1 h
  exact (mem_dots t _).2 ⟨[], e, mem_es.2 he, rfl⟩
theorem wr_ok {t : Tr} {s : ByteArray} {d : Dt} (hm : wrtB t s d = true) :
    CaOk (tOne ⟨d.dc, d.n, s, 0⟩) (ctxOf (d :: ownD t)) ∧ (∀ x, hasC (ctxOf (d :: ownD t)) x = (decide (x = d) || decide (x ∈ ownD t))) := by
  unfold wrtB at hm
  rw [Bool.and_eq_true] at hm
  obtain ⟨hc, hs⟩ := hm
  have hs' : s.size ≤ 30 := by simpa using hs
  obtain ⟨g1, g2, g3⟩ := chkT_dots hc
  have hr : ∀ x ∈ d :: ownD t, x.right = true := fun x hx => by
    rcases List.mem_cons.1 hx with rfl | hx
    · exact g2
    · exact dots_right g1 x (own_dots hx)
  have he : (⟨d.dc, d.n, s, 0⟩ : En).right = true := by unfold En.right En.dot; simp [g2, hs']
  have hh : ∀ x, hasC (ctxOf (d :: ownD t)) x = (decide (x = d) || decide (x ∈ ownD t)) := fun x => by
    rw [Bool.eq_iff_iff, Bool.or_eq_true, decide_eq_true_eq, decide_eq_true_eq]
    constructor
    · intro h; rw [hasC_ctxOf hr (hasC_right h)] at h; simpa using h
    · intro h
      have hx : x ∈ d :: ownD t := List.mem_cons.2 h
      rw [hasC_ctxOf hr (hr x hx)]; simpa using hx
  exact ⟨tOne_ok he (apart_ctxOf hr) (by rw [hh]; simp [En.dot]), hh⟩
theorem rt_plain {t : Tr} {s : ByteArray} {d : Dt} (hm : wrtB t s d = true) (hz : t.sz ≤ 60) : ∃ (X A : Tr) (S U : List Sp), Hid (wrtT t s d = X) ∧ Hid (wrtC t s d = S) ∧ Hid (wrtE t s d = 0) ∧
    Hid (jnE t X (knC t) S = 0) ∧ Hid (jnT t X (knC t) S = A) ∧ Hid (jnC t X (knC t) S = U) ∧ Hid (valsOf A = [s]) ∧ A.es.length ≤ 1000 ∧ X.sz ≤ 4000 ∧ S.length ≤ 20000 ∧ (knC t).length ≤ 20000 ∧ Hid (∀ d ∈ t.dots, 0 ≤ d.n ∧ d.n ≤ 1099511627778) := by
  obtain ⟨hX, hh⟩ := wr_ok hm
  have hc : chkT t d = true := by unfold wrtB at hm; rw [Bool.and_eq_true] at hm; exact hm.1
  obtain ⟨g1, g2, g3⟩ := chkT_dots hc
  have hk := known_ok g1
  obtain ⟨j1, j2, j3⟩ := jn_ok hk hX
  have hj := jT_ok hk hX
  have hes : (jT t (tOne ⟨d.dc, d.n, s, 0⟩) (knC t) (ctxOf (d :: ownD t))).es = [⟨d.dc, d.n, s, 0⟩] := by
    refine es_one hj.ord fun x y => ?_
    rw [stE_join hk hX, stE_one, hh, kn_hasB g1]
    by_cases hx : x = d
    · subst hx
      rw [stE_out hk.ord g3, if_pos ⟨rfl, rfl⟩]
      simp [jnO, g3, En.dot, eq_comm]
    · rw [if_neg (fun h => hx h.2)]
      have hne : ¬ (x = (⟨d.dc, d.n, s, 0⟩ : En).dot ∧ y = ⟨d.dc, d.n, s, 0⟩) := fun h => hx h.1
      cases hs : stE t [] x with
      | none => simp [jnO]; exact fun h => absurd h hx
      | some z =>
        have ho : x ∈ ownD t := by
          obtain ⟨h1, h2⟩ := (stE_some hk.ord).1 hs
          unfold ownD; exact List.mem_map.2 ⟨z, mem_es.1 h1, h2⟩
        simp [jnO, ho]; exact fun h => absurd h hx
  have hv := vals_one ((right_iff hj.ord).2 hj.leaf) hes
  have hcl : (knC t).length ≤ 4 * (t.dots.length + 1) := ctxOfK_len t.dots 4
  have hdl := dots_len t
  have hol : (ownD t).length ≤ t.sz := by have := es_sz t; unfold ownD; rw [List.length_map]; omega
  have hsl : (ctxOf (d :: ownD t)).length ≤ 4 * ((d :: ownD t).length + 1) := ctxOfK_len _ 4
  rw [List.length_cons] at hsl
  exact ⟨_, _, _, _, if_pos hm, if_pos hm, if_pos hm, j1, j2, j3, hv, by rw [hes]; simp, by simp [Tr.sz, Tr.szL], by omega, by omega, right_nums g1⟩
set_option maxHeartbeats 4000000 in
theorem lawRT_any (t : Tr) (s : ByteArray) (d : Dt) (w : World) (ve0 vk0 : Value) (h0 : t.rd w w.heap.size ve0 vk0) (h1 : s.size ≤ Big) (h2 : d.Ok) :
    Calls Tryz.prog 16 #[.agg #[ve0, vk0], .string s, .agg #[.int .i64 d.dc, .int .i64 d.n]] w fun e w' => e = .returned (.bool true) ∧ Below w.heap.size w w' := by
  have HC0 : Hid (∀ w', Below w.heap.size w w' → t.rd w' w'.heap.size ve0 vk0) := fun w' hb => rd_below hb hb.size _ _ _ h0
  obtain ⟨A0, n0, B0, m0, rfl, rfl⟩ := rd_shape h0
  clear h0
  have HX0 : Hid (∀ W, Below (w.heap.size + 2) ((w.alloc (.cells #[.slice A0 t.es.length n0, .slice B0 t.ks.length m0] 25)).alloc (.cells #[.int .i64 d.dc, .int .i64 d.n] 42)) W → (Below w.heap.size w W ∧ w.heap.size + 2 ≤ (W).heap.size ∧ t.rd W (W).heap.size (.slice A0 t.es.length n0) (.slice B0 t.ks.length m0) ∧ (W).cell? ⟨w.heap.size, 0, none⟩ = some (.slice A0 t.es.length n0) ∧ (W).cell? ⟨w.heap.size, 1, none⟩ = some (.slice B0 t.ks.length m0) ∧ (W).cell? ⟨(w.heap.size + 1), 0, none⟩ = some (.int .i64 d.dc) ∧ (W).cell? ⟨(w.heap.size + 1), 1, none⟩ = some (.int .i64 d.n))) := fun W hW => by
    have g0 : W.heap[w.heap.size]? = some (.cells #[.slice A0 t.es.length n0, .slice B0 t.ks.length m0] 25 (0, 0)) := (hW.block _ (by omega)).trans ((heap_old (by simp <;> omega)).trans (heap_new rfl))
    have g1 : W.heap[(w.heap.size + 1)]? = some (.cells #[.int .i64 d.dc, .int .i64 d.n] 42 (0, 0)) := (hW.block _ (by omega)).trans (heap_new (by simp))
    have hB : Below w.heap.size w W := (((Below.refl _ w).alloc (Nat.le_refl _) _).alloc (by simp <;> omega) _).trans (hW.mono (by omega))
    exact ⟨hB, by have := hW.size; simpa using this, HC0.out _ hB, cell_cells (i := 0) g0, cell_cells (i := 1) g0, cell_cells (i := 0) g1, cell_cells (i := 1) g1⟩
  have hnb1 : w.heap.size + 1 ≠ w.heap.size := by omega
  go_enter Tryz.func16, Tryz.ntmps16
  go_wp2_with fail
  obtain ⟨hB, hs, rt0, c00, c01, c20, c21⟩ := HX0.out _ (Below.refl _ _)
  refine (awake13_any _).mono ?_
  rintro e w1 ⟨rfl, hb⟩
  have hbk1 : Hid (Below (w.heap.size + 2) ((w.alloc (.cells #[.slice A0 t.es.length n0, .slice B0 t.ks.length m0] 25)).alloc (.cells #[.int .i64 d.dc, .int .i64 d.n] 42)) w1) := hid (hb.mono (by first | omega | (simp; done) | (simp; omega)))
  clear hb
  clear hB hs rt0 c00 c01 c20 c21
  obtain ⟨hB, hs, rt0, c00, c01, c20, c21⟩ := HX0.out _ hbk1.out
  go_wp2_with fail
  refine (small13_any t _ _ _ rt0).mono ?_
  rintro e w2 ⟨rfl, hb⟩
  have hbk2 : Hid (Below (w.heap.size + 2) ((w.alloc (.cells #[.slice A0 t.es.length n0, .slice B0 t.ks.length m0] 25)).alloc (.cells #[.int .i64 d.dc, .int .i64 d.n] 42)) w2) := hid (hbk1.out.trans (hb.mono (by first | omega | (simp; done) | (simp; omega))))
  clear hb
  clear hB hs rt0 c00 c01 c20 c21
  obtain ⟨hB, hs, rt0, c00, c01, c20, c21⟩ := HX0.out _ hbk2.out
  cases hs : smlB t 60
  · clear hs
    go_wp2_with fail
    refine (awake13_any _).mono ?_
    rintro e w3 ⟨rfl, hb⟩
    have hbk3 : Hid (Below (w.heap.size + 2) ((w.alloc (.cells #[.slice A0 t.es.length n0, .slice B0 t.ks.length m0] 25)).alloc (.cells #[.int .i64 d.dc, .int .i64 d.n] 42)) w3) := hid (hbk2.out.trans (hb.mono (by first | omega | (simp; done) | (simp; omega))))
    clear hb
    clear hB hs rt0 c00 c01 c20 c21
    obtain ⟨hB, hs, rt0, c00, c01, c20, c21⟩ := HX0.out _ hbk3.out
    go_wp2_with fail
    go_ret
    exact ⟨rfl, hB⟩
  have hsz : t.sz ≤ 60 := by have := sml_sz hs; omega
  clear hs
  go_wp2_with fail
  refine (may13_any t s d _ _ _ rt0 h1 (by omega)).mono ?_
  rintro e w3 ⟨rfl, hb⟩
  have hbk3 : Hid (Below (w.heap.size + 2) ((w.alloc (.cells #[.slice A0 t.es.length n0, .slice B0 t.ks.length m0] 25)).alloc (.cells #[.int .i64 d.dc, .int .i64 d.n] 42)) w3) := hid (hbk2.out.trans (hb.mono (by first | omega | (simp; done) | (simp; omega))))
  clear hb
  clear hB hs rt0 c00 c01 c20 c21
  obtain ⟨hB, hs, rt0, c00, c01, c20, c21⟩ := HX0.out _ hbk3.out
  cases hc : wrtB t s d
  · clear hc
    go_wp2_with fail
    refine (awake13_any _).mono ?_
    rintro e w4 ⟨rfl, hb⟩
    have hbk4 : Hid (Below (w.heap.size + 2) ((w.alloc (.cells #[.slice A0 t.es.length n0, .slice B0 t.ks.length m0] 25)).alloc (.cells #[.int .i64 d.dc, .int .i64 d.n] 42)) w4) := hid (hbk3.out.trans (hb.mono (by first | omega | (simp; done) | (simp; omega))))
    clear hb
    clear hB hs rt0 c00 c01 c20 c21
    obtain ⟨hB, hs, rt0, c00, c01, c20, c21⟩ := HX0.out _ hbk4.out
    go_wp2_with fail
    go_ret
    exact ⟨rfl, hB⟩
  obtain ⟨X, A, S, U, HWT, HWC, HWE, HJE, HJT, HJC, HV, hA1, hX1, hS1, hK1, HN⟩ := rt_plain hc hsz
  clear hc
  go_wp2_with fail
  refine (rwrite_any t s d _ _ _ rt0 h1 (by omega) h2).mono ?_
  rw [HWT.out, HWC.out, HWE.out]
  rintro e w4 ⟨xe4, xk4, xc4, rfl, hrd4, hsl4, hb⟩
  obtain ⟨A4x, n4x, B4x, m4x, rfl, rfl⟩ := rda_shape hrd4
  obtain ⟨D4x, k4x, rfl⟩ := hsl4.shape
  have hbk4 : Hid (Below (w.heap.size + 2) ((w.alloc (.cells #[.slice A0 t.es.length n0, .slice B0 t.ks.length m0] 25)).alloc (.cells #[.int .i64 d.dc, .int .i64 d.n] 42)) w4) := hid (hbk3.out.trans (hb.mono (by first | omega | (simp; done) | (simp; omega))))
  clear hb
  clear hB hs rt0 c00 c01 c20 c21
  obtain ⟨hB, hs, rt0, c00, c01, c20, c21⟩ := HX0.out _ hbk4.out
  have hlt4505 : w.heap.size < w4.heap.size := by omega
  have hne4505 : w.heap.size ≠ w4.heap.size := by omega
  have hlt4576 : (w.heap.size + 1) < w4.heap.size := by omega
  have hne4576 : (w.heap.size + 1) ≠ w4.heap.size := by omega
  have HX1 : Hid (∀ W, Below (w4.heap.size + 1) (w4.alloc (.cells #[.slice A4x X.es.length n4x, .slice B4x X.ks.length m4x, .slice D4x S.length k4x] 29)) W → (w4.heap.size + 1 ≤ (W).heap.size ∧ X.rd W (W).heap.size (.slice A4x X.es.length n4x) (.slice B4x X.ks.length m4x) ∧ SlP W (W).heap.size 3 SpE (.slice D4x S.length k4x) S ∧ (W).cell? ⟨w4.heap.size, 0, none⟩ = some (.slice A4x X.es.length n4x) ∧ (W).cell? ⟨w4.heap.size, 1, none⟩ = some (.slice B4x X.ks.length m4x) ∧ (W).cell? ⟨w4.heap.size, 2, none⟩ = some (.slice D4x S.length k4x) ∧ Below w.heap.size w W ∧ w.heap.size + 2 ≤ (W).heap.size ∧ t.rd W (W).heap.size (.slice A0 t.es.length n0) (.slice B0 t.ks.length m0) ∧ (W).cell? ⟨w.heap.size, 0, none⟩ = some (.slice A0 t.es.length n0) ∧ (W).cell? ⟨w.heap.size, 1, none⟩ = some (.slice B0 t.ks.length m0) ∧ (W).cell? ⟨(w.heap.size + 1), 0, none⟩ = some (.int .i64 d.dc) ∧ (W).cell? ⟨(w.heap.size + 1), 1, none⟩ = some (.int .i64 d.n))) := fun W hW => by
    have g0 := (hW.block w4.heap.size (by omega)).trans (heap_new rfl)
    have hB : Below w4.heap.size w4 W := ((Below.refl _ w4).alloc (Nat.le_refl _) _).trans (hW.mono (by omega))
    exact ⟨by have := hW.size; simpa using this, rda_rd hrd4 (fun b hb => hb.2) hB, hsl4.slp (fun b hb => hb.2) hB, cell_cells (i := 0) g0, cell_cells (i := 1) g0, cell_cells (i := 2) g0, HX0.out W (hbk4.out.trans (hB.mono (by omega)))⟩
  clear hrd4 hsl4
  go_upto_region 4 with (fail)
  clear hB hs rt0 c00 c01 c20 c21
  obtain ⟨hs_x, rt_x, rc_x, c0_x, c1_x, c2_x, hB, hs, rt0, c00, c01, c20, c21⟩ := HX1.out _ (Below.refl _ _)
  have HK1 : Hid (∀ W, Below (w4.heap.size + 1) (w4.alloc (.cells #[.slice A4x X.es.length n4x, .slice B4x X.ks.length m4x, .slice D4x S.length k4x] 29)) W → ((W).cell? ⟨w4.heap.size, 0, none⟩ = some (.slice A4x X.es.length n4x) ∧ (W).cell? ⟨w4.heap.size, 1, none⟩ = some (.slice B4x X.ks.length m4x) ∧ (W).cell? ⟨w4.heap.size, 2, none⟩ = some (.slice D4x S.length k4x) ∧ (W).cell? ⟨w.heap.size, 0, none⟩ = some (.slice A0 t.es.length n0) ∧ (W).cell? ⟨w.heap.size, 1, none⟩ = some (.slice B0 t.ks.length m0))) := fun W hW => by
    obtain ⟨_, _, _, z_c0_x, z_c1_x, z_c2_x, _, _, _, z_c00, z_c01, _, _⟩ := HX1.out W hW
    exact ⟨z_c0_x, z_c1_x, z_c2_x, z_c00, z_c01⟩
  have Hrt_x_1 : Hid (∀ W, Below (w4.heap.size + 1) (w4.alloc (.cells #[.slice A4x X.es.length n4x, .slice B4x X.ks.length m4x, .slice D4x S.length k4x] 29)) W → X.rd W (W).heap.size (.slice A4x X.es.length n4x) (.slice B4x X.ks.length m4x)) := fun W hW => by
    obtain ⟨_, z, _, _, _, _, _, _, _, _, _, _, _⟩ := HX1.out W hW
    exact z
  have Hrc_x_1 : Hid (∀ W, Below (w4.heap.size + 1) (w4.alloc (.cells #[.slice A4x X.es.length n4x, .slice B4x X.ks.length m4x, .slice D4x S.length k4x] 29)) W → SlP W (W).heap.size 3 SpE (.slice D4x S.length k4x) S) := fun W hW => by
    obtain ⟨_, _, z, _, _, _, _, _, _, _, _, _, _⟩ := HX1.out W hW
    exact z
  have Hrt0_1 : Hid (∀ W, Below (w4.heap.size + 1) (w4.alloc (.cells #[.slice A4x X.es.length n4x, .slice B4x X.ks.length m4x, .slice D4x S.length k4x] 29)) W → t.rd W (W).heap.size (.slice A0 t.es.length n0) (.slice B0 t.ks.length m0)) := fun W hW => by
    obtain ⟨_, _, _, _, _, _, _, _, z, _, _, _, _⟩ := HX1.out W hW
    exact z
  have HS_1 : Hid (∀ W, Below (w4.heap.size + 1) (w4.alloc (.cells #[.slice A4x X.es.length n4x, .slice B4x X.ks.length m4x, .slice D4x S.length k4x] 29)) W → (w4.heap.size + 1) ≤ W.heap.size) := fun W hW => by
    have := hW.size
    first | omega | (simp at this; omega)
  have hsb1 := HS_1.out _ (Below.refl _ _)
  clear rt_x rc_x hB rt0 c20 c21
  go_cut [9, 10] (fun s9 s10 wx => s10 = .int .i64 0 ∧ Box3 (w4.heap.size + 1) (w4.alloc (.cells #[.slice A4x X.es.length n4x, .slice B4x X.ks.length m4x, .slice D4x S.length k4x] 29)) 29 A U s9 wx)
  case first =>
    go_region_held3 (fun W => (W).cell? ⟨w4.heap.size, 0, none⟩ = some (.slice A4x X.es.length n4x) ∧ (W).cell? ⟨w4.heap.size, 1, none⟩ = some (.slice B4x X.ks.length m4x) ∧ (W).cell? ⟨w4.heap.size, 2, none⟩ = some (.slice D4x S.length k4x) ∧ (W).cell? ⟨w.heap.size, 0, none⟩ = some (.slice A0 t.es.length n0) ∧ (W).cell? ⟨w.heap.size, 1, none⟩ = some (.slice B0 t.ks.length m0))
      (first | go_keep | exact HK1.out _ hbr6.out | exact HK1.out _ (hbr6.out.trans (by go_grown)) | exact HK1.out _ hbr5.out | exact HK1.out _ (hbr5.out.trans (by go_grown)) | exact HK1.out _ (by go_grown) | fail)
      (first
        | (go_at_call 25; go_loud ((refine (cJoin_any (knC t) S t X _ _ _ _ _ _ _ (Hrt0_1.out _ (hbr5.out.trans (by go_grown))) (Hrt_x_1.out _ (hbr5.out.trans (by go_grown))) (HS5.out.slp (fun b hb => hb.2) (by go_grown)) (Hrc_x_1.out _ (hbr5.out.trans (by go_grown))) (by omega) hX1 hK1 hS1).mono ?_); rw [HJE.out, HJT.out, HJC.out]; rintro e w6 ⟨xe6, xk6, xc6, rfl, hrd6, hsl6, hb⟩; have hbr6 : Hid (Below (w4.heap.size + 1) (w4.alloc (.cells #[.slice A4x X.es.length n4x, .slice B4x X.ks.length m4x, .slice D4x S.length k4x] 29)) w6) := hid (Below.trans (hbr5.out.trans (by go_grown)) (hb.mono (by first | omega | (simp; done) | (simp; omega)))); have hsr6 := HS_1.out _ hbr6.out; have hch5_6 : Hid (Below w5.heap.size w5 w6) := hid (Below.trans (by go_grown) (hb.mono (by first | omega | (simp; done) | (simp; omega)))); obtain ⟨Ar6, nr6, Br6, mr6, hv1, hv2⟩ := rda_shape hrd6; subst hv1; subst hv2; obtain ⟨Dr6, kr6, hv3⟩ := hsl6.shape; subst hv3; have HR6 := hid hrd6; have HL6 := hid hsl6; clear hrd6 hsl6; (first | (have HG6 : Hid (w6.heap[w5.heap.size]? = some (.cells #[.slice none 0 0, .slice none 0 0, .slice none 0 0] 29 (0, 0))) := hid (z_new hb); have k0 : w6.cell? ⟨w5.heap.size, 0, none⟩ = some (.slice none 0 0) := cell_cells (i := 0) HG6.out; have k1 : w6.cell? ⟨w5.heap.size, 1, none⟩ = some (.slice none 0 0) := cell_cells (i := 1) HG6.out; have k2 : w6.cell? ⟨w5.heap.size, 2, none⟩ = some (.slice none 0 0) := cell_cells (i := 2) HG6.out; have z0 := cells_frz (i := 0) HG6.out; have z1 := cells_frz (i := 1) HG6.out; have z2 := cells_frz (i := 2) HG6.out; have hna0 : w.heap.size ≠ w5.heap.size := (by omega); have hnb0 : w5.heap.size ≠ w.heap.size := (by omega); have hna1 : (w.heap.size + 1) ≠ w5.heap.size := (by omega); have hnb1 : w5.heap.size ≠ (w.heap.size + 1) := (by omega); have hna2 : w4.heap.size ≠ w5.heap.size := (by omega); have hnb2 : w5.heap.size ≠ w4.heap.size := (by omega)) | (have HG6 : Hid (w6.heap[(w4.heap.size + 1)]? = some (.cells #[.slice none 0 0, .slice none 0 0, .slice none 0 0] 29 (0, 0))) := hid ((hb.block _ (lt_of_block HGA.out)).trans HGA.out); have k0 : w6.cell? ⟨(w4.heap.size + 1), 0, none⟩ = some (.slice none 0 0) := cell_cells (i := 0) HG6.out; have k1 : w6.cell? ⟨(w4.heap.size + 1), 1, none⟩ = some (.slice none 0 0) := cell_cells (i := 1) HG6.out; have k2 : w6.cell? ⟨(w4.heap.size + 1), 2, none⟩ = some (.slice none 0 0) := cell_cells (i := 2) HG6.out; have z0 := cells_frz (i := 0) HG6.out; have z1 := cells_frz (i := 1) HG6.out; have z2 := cells_frz (i := 2) HG6.out; have hna0 : w.heap.size ≠ (w4.heap.size + 1) := (by omega); have hnb0 : (w4.heap.size + 1) ≠ w.heap.size := (by omega); have hna1 : (w.heap.size + 1) ≠ (w4.heap.size + 1) := (by omega); have hnb1 : (w4.heap.size + 1) ≠ (w.heap.size + 1) := (by omega); have hna2 : w4.heap.size ≠ (w4.heap.size + 1) := (by omega); have hnb2 : (w4.heap.size + 1) ≠ w4.heap.size := (by omega)) | skip); clear hb))
        | (go_at_call 47; go_loud ((refine (r10known_any t _ _ _ (Hrt0_1.out _ (by go_grown)) (by omega) HN.out).mono ?_); rintro e w5 ⟨vc5, rfl, hsl5, hb⟩; have hbr5 : Hid (Below (w4.heap.size + 1) (w4.alloc (.cells #[.slice A4x X.es.length n4x, .slice B4x X.ks.length m4x, .slice D4x S.length k4x] 29)) w5) := hid (Below.trans (by go_grown) (hb.mono (by first | omega | (simp; done) | (simp; omega)))); have hsr5 := HS_1.out _ hbr5.out; obtain ⟨Dk5, kk5, hv5⟩ := hsl5.shape; subst hv5; have HS5 := hid hsl5; clear hsl5; (first | (have HGA : Hid (w5.heap[(w4.heap.size + 1)]? = some (.cells #[.slice none 0 0, .slice none 0 0, .slice none 0 0] 29 (0, 0))) := hid (z_new2D hb)) | (have HGA : Hid (w5.heap[(w4.heap.size + 1)]? = some (.cells #[.slice none 0 0, .slice none 0 0, .slice none 0 0] 29 (0, 0))) := hid (z_newD hb)) | (have HGA : Hid (w5.heap[(w4.heap.size + 1)]? = some (.cells #[.slice none 0 0, .slice none 0 0, .slice none 0 0] 29 (0, 0))) := hid (z_new2 hb)) | (have HGA : Hid (w5.heap[(w4.heap.size + 1)]? = some (.cells #[.slice none 0 0, .slice none 0 0, .slice none 0 0] 29 (0, 0))) := hid (z_new hb)) | skip); clear hb)))
    all_goals
      go_wp2_with fail
      go_meet
      case rel => exact ⟨rfl, (by first | exact box_new hbr6.out (HS_1.out _ hbr6.out) HR6.out HL6.out | exact box_set HG6.out hbr6.out (by omega) (by first | (simp; done) | (simp; omega) | exact lt_of_block HGA.out | (have := lt_of_block HGA.out; simp; omega)) HR6.out HL6.out)⟩
  case rest =>
    obtain ⟨rfl, g7, xe7, xk7, xc7, rfl, hG7, hrd7, hsl7, hbz⟩ := hcut
    obtain ⟨A7x, n7x, B7x, m7x, rfl, rfl⟩ := rd_shape hrd7
    obtain ⟨D7x, k7x, rfl, _⟩ := id hsl7
    have hlg7 := lt_of_block hG7
    obtain ⟨wq7, hwq7⟩ : ∃ z : World, z = wc := ⟨wc, rfl⟩
    subst hwq7
    have HSZ7 : Hid ((w4.heap.size + 1) ≤ wq7.heap.size) := HS_1.out _ hbz
    have HX2 : Hid (∀ W, Below wq7.heap.size wq7 W → (wq7.heap.size ≤ (W).heap.size ∧ A.rd W (W).heap.size (.slice A7x A.es.length n7x) (.slice B7x A.ks.length m7x) ∧ SlP W (W).heap.size 3 SpE (.slice D7x U.length k7x) U ∧ (W).cell? ⟨g7, 0, none⟩ = some (.slice A7x A.es.length n7x) ∧ (W).cell? ⟨g7, 1, none⟩ = some (.slice B7x A.ks.length m7x) ∧ (W).cell? ⟨g7, 2, none⟩ = some (.slice D7x U.length k7x) ∧ w4.heap.size + 1 ≤ (W).heap.size ∧ X.rd W (W).heap.size (.slice A4x X.es.length n4x) (.slice B4x X.ks.length m4x) ∧ SlP W (W).heap.size 3 SpE (.slice D4x S.length k4x) S ∧ (W).cell? ⟨w4.heap.size, 0, none⟩ = some (.slice A4x X.es.length n4x) ∧ (W).cell? ⟨w4.heap.size, 1, none⟩ = some (.slice B4x X.ks.length m4x) ∧ (W).cell? ⟨w4.heap.size, 2, none⟩ = some (.slice D4x S.length k4x) ∧ Below w.heap.size w W ∧ w.heap.size + 2 ≤ (W).heap.size ∧ t.rd W (W).heap.size (.slice A0 t.es.length n0) (.slice B0 t.ks.length m0) ∧ (W).cell? ⟨w.heap.size, 0, none⟩ = some (.slice A0 t.es.length n0) ∧ (W).cell? ⟨w.heap.size, 1, none⟩ = some (.slice B0 t.ks.length m0) ∧ (W).cell? ⟨(w.heap.size + 1), 0, none⟩ = some (.int .i64 d.dc) ∧ (W).cell? ⟨(w.heap.size + 1), 1, none⟩ = some (.int .i64 d.n))) := fun W hW => by
      have g0 := (hW.block g7 hlg7).trans hG7
      exact ⟨hW.size, rd_below hW hW.size _ _ _ hrd7, hsl7.imp hW hW.size (fun _ _ _ h => h), cell_cells (i := 0) g0, cell_cells (i := 1) g0, cell_cells (i := 2) g0, HX1.out W (hbz.trans (hW.mono HSZ7.out))⟩
    clear hrd7 hsl7 hG7
    clear hs_x c0_x c1_x c2_x hs c00 c01
    obtain ⟨hs_a, rt_a, rc_a, c0_a, c1_a, c2_a, hs_x, rt_x, rc_x, c0_x, c1_x, c2_x, hB, hs, rt0, c00, c01, c20, c21⟩ := HX2.out _ (Below.refl _ _)
    go_wp2_with fail
    refine (rvals_any A _ _ _ rt_a (by omega)).mono ?_
    rw [HV.out]
    rintro e w8 ⟨v7, rfl, ho7, hb⟩
    obtain ⟨A7, c7, hv7⟩ := ho7.shape
    subst hv7
    have HS7 := hid (ho7.sl (by simp [Big]))
    clear ho7
    have hbk8 : Hid (Below wq7.heap.size wq7 w8) := hid (hb.mono (by first | omega | (simp; done) | (simp; omega)))
    clear hb
    clear hs_a rt_a rc_a c0_a c1_a c2_a hs_x rt_x rc_x c0_x c1_x c2_x hB hs rt0 c00 c01 c20 c21
    obtain ⟨hs_a, rt_a, rc_a, c0_a, c1_a, c2_a, hs_x, rt_x, rc_x, c0_x, c1_x, c2_x, hB, hs, rt0, c00, c01, c20, c21⟩ := HX2.out _ hbk8.out
    have hBA := hB.alloc (by have := hB.size; omega) (.cells #[.string s] 9)
    have HBA := hid hBA
    clear hBA
    go_wp2_with fail
    refine (r10alike_any [s] [s] _ _ (w8.alloc (.cells #[.string s] 9)) (w8.alloc (.cells #[.string s] 9)).heap.size (HS7.out.imp ((Below.refl _ w8).alloc (Nat.le_refl _) _) (by simp) fun _ _ _ h => h) (SlP.oneB (x := s) (cs := [.string s]) ⟨rfl, h1⟩ rfl _ rfl (by simp))).mono ?_
    rw [show decide ([s] = [s]) = true from by simp]
    rintro e w9 ⟨rfl, q, rfl⟩
    go_wp2_with fail
    go_ret
    exact ⟨rfl, below_drewN HBA.out q⟩
end Go.Proofs.YtkjijbogbelilaaGreat

namespace Go.Proofs.YtkjijbogbelilaaGreat
open Go.RowKit
set_option maxRecDepth 100000

/-- What set.check tells. -/
def sckB (t : Tr) (s : ByteArray) (d : Dt) : Bool := chkT t d && keyB s
def sckI (t : Tr) (s : ByteArray) (d : Dt) : Int := if sckB t s d then 0 else 1
set_option maxHeartbeats 2000000 in
theorem scheck_any (t : Tr) (s : ByteArray) (d : Dt) (ve vk : Value) (w : World) (h : t.rd w w.heap.size ve vk) (hs : s.size ≤ Big) (hN : t.sz ≤ 90000) :
    Calls Tryz.prog 111 #[.agg #[ve, vk], .string s, .agg #[.int .i64 d.dc, .int .i64 d.n]] w fun e w' => e = .returned (.int .i64 (sckI t s d)) ∧ Below w.heap.size w w' := by
  have HC : Hid (∀ w', Below w.heap.size w w' → t.rd w' w'.heap.size ve vk) := fun w' hb => rd_below hb hb.size _ _ _ h
  obtain ⟨A3, n3, A4, n4, rfl, rfl⟩ := rd_shape h
  have hb0 := ((Below.refl w.heap.size w).alloc (Nat.le_refl _) (.cells #[.slice A3 t.es.length n3, .slice A4 t.ks.length n4] 25)).alloc (by simp) (.cells #[.int .i64 d.dc, .int .i64 d.n] 42)
  unfold Big at hs
  clear h
  go_enter Tryz.func111, Tryz.ntmps111
  go_wp2_with fail
  refine (fcheck_any t d _ _ _ (HC.out _ hb0) (by omega)).mono ?_
  rintro e w1 ⟨rfl, hb1⟩
  have hB1 : Below w.heap.size w w1 := hb0.trans (hb1.mono (by simp; omega))
  clear hb1 hb0
  cases hc : chkT t d
  · have HI : Hid (chkI t d = 1) := by unfold Hid chkI; rw [hc]; rfl
    have HR : Hid (sckI t s d = 1) := by unfold Hid sckI sckB; rw [hc]; rfl
    rw [HI.out]
    clear hc
    go_wp2_with fail
    go_ret
    exact ⟨ret_int HR.out.symm, hB1⟩
  have HI : Hid (chkI t d = 0) := by unfold Hid chkI; rw [hc]; rfl
  rw [HI.out]
  cases hk : keyB s
  · have HR : Hid (sckI t s d = 1) := by unfold Hid sckI sckB; rw [hc, hk]; rfl
    have hkb : ¬ (1 ≤ s.size ∧ s.size ≤ 30) := by simpa [keyB] using hk
    clear hc hk
    by_cases hz : s.size < 1
    · have t1 : decide ((s.size : Int) < 1) = true := by simp; omega
      go_wp2_with fail
      go_ret
      exact ⟨ret_int HR.out.symm, hB1⟩
    · have t1 : decide ((s.size : Int) < 1) = false := by simp; omega
      have t2 : decide ((30 : Int) < s.size) = true := by simp; omega
      go_wp2_with fail
      go_ret
      exact ⟨ret_int HR.out.symm, hB1⟩
  · have HR : Hid (sckI t s d = 0) := by unfold Hid sckI sckB; rw [hc, hk]; rfl
    have hkb : 1 ≤ s.size ∧ s.size ≤ 30 := by simpa [keyB] using hk
    have t1 : decide ((s.size : Int) < 1) = false := by simp; omega
    have t2 : decide ((30 : Int) < s.size) = false := by simp; omega
    clear hc hk
    go_wp2_with fail
    go_ret
    exact ⟨ret_int HR.out.symm, hB1⟩

theorem setHasClo_any (key x : ByteArray) (A A' : Option Addr) (n c n' c' : Nat) (B : Nat) (w : World) (hc : w.cell? ⟨B, 0, none⟩ = some (.string key)) (hB : B < w.heap.size) :
    Calls Tryz.prog 150 #[.agg #[.string x, .slice A n c, .slice A' n' c'], .pointer (some ⟨B, 0, none⟩)] w fun e w' => e = .returned (.bool (decide (x = key))) ∧ Below w.heap.size w w' := by
  have hne : B ≠ w.heap.size := by omega
  have HE : Hid ((x.toList == key.toList) = decide (x = key)) := by
    unfold Hid; rw [Bool.eq_iff_iff]; simp [bytes_inj]
  go_enter Tryz.func150, Tryz.ntmps150
  go_wp2_with fail
  go_ret
  exact ⟨ret_bool HE.out, by go_grown⟩
theorem setHasTest {key : ByteArray} {B : Nat} {w : World} (hc : w.cell? ⟨B, 0, none⟩ = some (.string key)) (hB : B < w.heap.size) : TestKid 150 #[.pointer (some ⟨B, 0, none⟩)] (fun x => decide (x = key)) w :=
  ⟨enters_of Tryz.func150 (by kernel_rfl) rfl, fun x A A' n c n' c' W _ hW => setHasClo_any key x A A' n c n' c' B W ((hW.cell (p := ⟨B, 0, none⟩) hB).trans hc) (by have := hW.size; omega)⟩
/-- Is there a kid at this key? -/
def hasK (t : Tr) (s : ByteArray) : Bool := t.ks.any fun y => decide (y.1 = s)
theorem sethas_any (t : Tr) (s : ByteArray) (ve vk : Value) (w : World) (h : t.rd w w.heap.size ve vk) :
    Calls Tryz.prog 112 #[.agg #[ve, vk], .string s] w fun e w' => e = .returned (.bool (hasK t s)) ∧ Below w.heap.size w w' := by
  have HK : Hid (∀ w', Below w.heap.size w w' → SlP w' w'.heap.size 3 (KdE w' w'.heap.size) vk t.ks) := fun w' hb => kids_slp (rd_below hb hb.size _ _ _ h)
  obtain ⟨A3, n3, A4, n4, rfl, rfl⟩ := rd_shape h
  clear h
  go_enter Tryz.func112, Tryz.ntmps112
  go_wp2_with fail
  refine (conKid_any (fun y => decide (y = s)) _ _ t.ks _ _ (HK.out _ (by go_grown)) (setHasTest (key := s) (B := w.heap.size + 1) (by simp) (by simp))).mono ?_
  rintro e w1 ⟨rfl, hb1⟩
  go_wp2_with fail
  go_ret
  exact ⟨ret_bool rfl, Below.trans (by go_grown) (hb1.mono (by simp; omega))⟩

theorem kid_right5 {t : Tr} (h : t.right 5 = true) (s : ByteArray) : (kidT t s).right 5 = true := right_up _ 4 5 (kidT_right (n := 4) h (by omega) s) (by omega)
set_option maxHeartbeats 2000000 in
theorem sseen_any (t : Tr) (s : ByteArray) (d : Dt) (ve vk : Value) (w : World) (h : t.rd w w.heap.size ve vk) (hs : s.size ≤ Big) (hN : t.sz ≤ 4000) (hr : t.right 5 = true) (hd : d.right = true) (ho : d.Ok) :
    Calls Tryz.prog 114 #[.agg #[ve, vk], .string s, .agg #[.int .i64 d.dc, .int .i64 d.n]] w (RetO w 55 3 (fun _ => SpE) (seenC (kidT t s) d)) := by
  have HC : Hid (∀ w', Below w.heap.size w w' → t.rd w' w'.heap.size ve vk) := fun w' hb => rd_below hb hb.size _ _ _ h
  have hk5 := kid_right5 hr s
  have hks := kidT_sz t s
  have hG : tgetT t [s] = kidT t s := by unfold tgetT; rw [hr]; rfl
  have HSN : Hid (seenC (kidT t s) d = ctxBy (ctxOf (kidT t s).dots) (ctxOf [d]) 0) := rfl
  generalize kidT t s = u at *
  have hdl := dots_len u
  have h2 := ctxOf_len u.dots
  have h3 := ctxOf_len [d]
  simp only [List.length_singleton] at h3
  have HAA := hid (apart_ctxOf (right_dots u 5 hk5))
  have HAB := hid (apart_ctxOf (right_one hd))
  have HDR := hid (right_one hd)
  obtain ⟨A3, n3, A4, n4, rfl, rfl⟩ := rd_shape h
  have hb0 := ((Below.refl w.heap.size w).alloc (Nat.le_refl _) (.cells #[.slice A3 t.es.length n3, .slice A4 t.ks.length n4] 25)).alloc (by simp) (.cells #[.int .i64 d.dc, .int .i64 d.n] 42)
  have hb1 : Below w.heap.size w (((w.alloc (.cells #[.slice A3 t.es.length n3, .slice A4 t.ks.length n4] 25)).alloc (.cells #[.int .i64 d.dc, .int .i64 d.n] 42)).alloc (.cells #[.string s] 9)) := hb0.alloc (by simp; omega) _
  clear h hr hd
  go_enter Tryz.func114, Tryz.ntmps114
  go_wp2_with fail
  refine (tget_any t [s] _ _ _ _ (HC.out _ hb1) (SlP.oneB (E := StE) (n := w.heap.size + 1 + 1) (x := s) (cs := [.string s]) ⟨rfl, hs⟩ rfl _ (by simp) (by simp)) (by omega)).mono ?_
  rw [hG]
  rintro e w1 ⟨ve1, vk1, rfl, hrd1, hb2⟩
  obtain ⟨A5, n5, A6, n6, rfl, rfl⟩ := rda_shape hrd1
  have hs1 := hb2.size
  simp only [World.size_alloc] at hs1
  have hB1 : Below w.heap.size w w1 := hb1.trans (hb2.mono (by simp; omega))
  have c0 : w1.cell? ⟨w.heap.size + 1, 0, none⟩ = some (.int .i64 d.dc) := by
    rw [hb2.cell (p := ⟨w.heap.size + 1, 0, none⟩) (by simp), World.cell?_alloc_lt _ _ _ (by simp)]; simp
  have c1 : w1.cell? ⟨w.heap.size + 1, 1, none⟩ = some (.int .i64 d.n) := by
    rw [hb2.cell (p := ⟨w.heap.size + 1, 1, none⟩) (by simp), World.cell?_alloc_lt _ _ _ (by simp)]; simp
  have HU := hid (rda_rd hrd1 (fun b hb => hb.2) (Below.refl _ w1))
  have HK5 := hid hk5
  clear hrd1 hb2 hG hk5
  go_wp2_with fail
  refine (tdots_any u _ _ w1 HU.out (by omega)).mono ?_
  rintro e w2 ⟨v2, n2, rfl, hn2, ho2, hb2⟩
  rw [HK5.out] at ho2 hn2
  obtain rfl : n2 = 0 := hn2
  rw [if_pos rfl] at ho2
  obtain ⟨A7, n7, rfl⟩ := ho2.shape
  have hs2 := hb2.size
  have hB2 : Below w.heap.size w w2 := hB1.trans (hb2.mono (by omega))
  have d0 : w2.cell? ⟨w.heap.size + 1, 0, none⟩ = some (.int .i64 d.dc) := (hb2.cell (p := ⟨w.heap.size + 1, 0, none⟩) (by show w.heap.size + 1 < _; omega)).trans c0
  have d1 : w2.cell? ⟨w.heap.size + 1, 1, none⟩ = some (.int .i64 d.n) := (hb2.cell (p := ⟨w.heap.size + 1, 1, none⟩) (by show w.heap.size + 1 < _; omega)).trans c1
  have HO2 := hid ho2
  clear ho2 c0 c1 hb2
  go_wp2_with fail
  refine (cof_any [d] _ _ (SlP.oneB (E := DtE) (x := d) (cs := [.int .i64 d.dc, .int .i64 d.n]) ⟨rfl, ho⟩ rfl _ rfl (by simp)) HDR.out (by simp)).mono ?_
  rintro e w3 ⟨v3, rfl, ho3, hb3⟩
  obtain ⟨A8, n8, rfl⟩ := ho3.shape
  have hs3 := hb3.size
  simp only [World.size_alloc] at hs3
  have hb3' : Below w2.heap.size w2 w3 := ((Below.refl _ w2).alloc (Nat.le_refl _) _).trans (hb3.mono (by simp))
  have H1 := hid ((HO2.out.grow hb3').sl (by unfold Big; omega))
  have H2 := hid (ho3.sl (by unfold Big; omega))
  clear ho3 hb3 d0 d1
  go_wp2_with fail
  refine (cunion_any (ctxOf u.dots) (ctxOf [d]) _ _ w3 H1.out H2.out HAA.out HAB.out (by omega) (by omega)).mono ?_
  rintro e w4 ⟨v4, rfl, ho4, hb4⟩
  go_wp2_with fail
  go_ret
  exact ⟨_, rfl, by rw [HSN.out]; exact ho4.mono (by omega), (hB2.trans (hb3'.mono (by omega))).trans (hb4.mono (by omega))⟩
end Go.Proofs.YtkjijbogbelilaaGreat

namespace Go.Proofs.YtkjijbogbelilaaGreat
open Go.RowKit
set_option maxRecDepth 100000

/-- What set.Del knows. -/
def delC (t : Tr) (s : ByteArray) (d : Dt) : List Sp := if sckB t s d then seenC (kidT t s) d else []
theorem sck_chk {t : Tr} {s : ByteArray} {d : Dt} (h : sckB t s d = true) : chkT t d = true ∧ keyB s = true := by
  unfold sckB at h; simpa using h
set_option maxHeartbeats 4000000 in
theorem sdel_any (t : Tr) (s : ByteArray) (d : Dt) (ve vk : Value) (w : World) (h : t.rd w w.heap.size ve vk) (hs : s.size ≤ Big) (hN : t.sz ≤ 4000) (hd : d.Ok) :
    Calls Tryz.prog 68 #[.agg #[ve, vk], .string s, .agg #[.int .i64 d.dc, .int .i64 d.n]] w (RetCE w (.mk [] []) (delC t s d) (sckI t s d)) := by
  have HC : Hid (∀ w', Below w.heap.size w w' → t.rd w' w'.heap.size ve vk) := fun w' hb => rd_below hb hb.size _ _ _ h
  obtain ⟨A3, n3, A4, n4, rfl, rfl⟩ := rd_shape h
  have hb0 := (((Below.refl w.heap.size w).alloc (Nat.le_refl _) (.cells #[.slice A3 t.es.length n3, .slice A4 t.ks.length n4] 25)).alloc (by simp) (.cells #[.int .i64 d.dc, .int .i64 d.n] 42)).alloc (by simp; omega) (.cells #[.slice none 0 0, .slice none 0 0, .slice none 0 0] 29)
  clear h
  go_enter Tryz.func68, Tryz.ntmps68
  go_wp2_with fail
  refine (scheck_any t s d _ _ _ (HC.out _ hb0) hs (by omega)).mono ?_
  rintro e w1 ⟨rfl, hb1⟩
  have hs1 := hb1.size
  simp only [World.size_alloc] at hs1
  have hB1 : Below w.heap.size w w1 := hb0.trans (hb1.mono (by simp; omega))
  have c0 : w1.cell? ⟨w.heap.size, 0, none⟩ = some (.slice A3 t.es.length n3) := by
    rw [hb1.cell (p := ⟨w.heap.size, 0, none⟩) (by simp; omega)]
    rw [World.cell?_alloc_lt _ _ _ (by simp; omega), World.cell?_alloc_lt _ _ _ (by simp)]; simp
  have c1 : w1.cell? ⟨w.heap.size, 1, none⟩ = some (.slice A4 t.ks.length n4) := by
    rw [hb1.cell (p := ⟨w.heap.size, 1, none⟩) (by simp; omega)]
    rw [World.cell?_alloc_lt _ _ _ (by simp; omega), World.cell?_alloc_lt _ _ _ (by simp)]; simp
  have d0 : w1.cell? ⟨w.heap.size + 1, 0, none⟩ = some (.int .i64 d.dc) := by rw [hb1.cell (p := ⟨w.heap.size + 1, 0, none⟩) (by simp), World.cell?_alloc_lt _ _ _ (by simp)]; simp
  have d1 : w1.cell? ⟨w.heap.size + 1, 1, none⟩ = some (.int .i64 d.n) := by rw [hb1.cell (p := ⟨w.heap.size + 1, 1, none⟩) (by simp), World.cell?_alloc_lt _ _ _ (by simp)]; simp
  have hg : w1.heap[w.heap.size + 2]? = some (.cells #[.slice none 0 0, .slice none 0 0, .slice none 0 0] 29 (0, 0)) := (hb1.block (w.heap.size + 2) (by simp)).trans (heap_new (by simp))
  have HG := hid hg
  have k0 : w1.cell? ⟨w.heap.size + 2, 0, none⟩ = some (.slice none 0 0) := cell_cells (i := 0) hg
  have k1 : w1.cell? ⟨w.heap.size + 2, 1, none⟩ = some (.slice none 0 0) := cell_cells (i := 1) hg
  have k2 : w1.cell? ⟨w.heap.size + 2, 2, none⟩ = some (.slice none 0 0) := cell_cells (i := 2) hg
  have z0 := cells_frz (i := 0) hg
  have z1 := cells_frz (i := 1) hg
  have z2 := cells_frz (i := 2) hg
  clear hg hb1
  cases hc : sckB t s d
  · have HE : Hid (sckI t s d = 1) := by unfold Hid sckI; rw [hc]; rfl
    have HD : Hid (delC t s d = []) := by unfold Hid delC; rw [hc]; rfl
    rw [HE.out]
    clear hc
    go_wp2_with fail
    obtain ⟨r0, r1, r2, hK, hS⟩ := box3 HG.out (.slice none 0 0) (.slice none 0 0) (.slice none 0 0)
    have hBW := ((hB1.setCell (p := ⟨w.heap.size + 2, 0, none⟩) (by simp) (.slice none 0 0)).setCell (p := ⟨w.heap.size + 2, 1, none⟩) (by simp) (.slice none 0 0)).setCell (p := ⟨w.heap.size + 2, 2, none⟩) (by simp) (.slice none 0 0)
    refine bodyPost_ret (v := .tuple #[.agg #[.slice none 0 0, .slice none 0 0, .slice none 0 0], .int .i64 1]) (by simp [results, Tryz.results68, go_sem, r0, r1, r2]) rfl ⟨_, _, _, by rw [HE.out], ?_, ?_, hBW⟩
    · exact rda_nil _ _
    · rw [HD.out]; exact SlA.nil
  · have HE : Hid (sckI t s d = 0) := by unfold Hid sckI; rw [hc]; rfl
    have HD : Hid (delC t s d = seenC (kidT t s) d) := by unfold Hid delC; rw [hc]; rfl
    have HDR := hid (chkT_right (sck_chk hc).1)
    have HTR := hid (chkT_tree (sck_chk hc).1)
    rw [HE.out]
    clear hc
    go_wp2_with fail
    refine (sseen_any t s d _ _ w1 (HC.out _ hB1) hs hN HTR.out HDR.out hd).mono ?_
    rintro e w2 ⟨v2, rfl, ho2, hb2⟩
    obtain ⟨A2, c2, rfl⟩ := ho2.shape
    have hs2 := hb2.size
    have hB2 : Below w.heap.size w w2 := hB1.trans (hb2.mono (by omega))
    have HG2 := hid ((hb2.block (w.heap.size + 2) (by omega)).trans HG.out)
    clear k0 k1 k2 z0 z1 z2 c0 c1 d0 d1
    have k0 : w2.cell? ⟨w.heap.size + 2, 0, none⟩ = some (.slice none 0 0) := cell_cells (i := 0) HG2.out
    have k1 : w2.cell? ⟨w.heap.size + 2, 1, none⟩ = some (.slice none 0 0) := cell_cells (i := 1) HG2.out
    have k2 : w2.cell? ⟨w.heap.size + 2, 2, none⟩ = some (.slice none 0 0) := cell_cells (i := 2) HG2.out
    have z0 := cells_frz (i := 0) HG2.out
    have z1 := cells_frz (i := 1) HG2.out
    have z2 := cells_frz (i := 2) HG2.out
    have HO2 := hid ho2
    have hsc := seenC_len (kidT t s) d
    have hkz := kidT_sz t s
    clear ho2
    go_wp2_with fail
    obtain ⟨r0, r1, r2, hK, hS⟩ := box3 HG2.out (.slice none 0 0) (.slice none 0 0) (.slice A2 (seenC (kidT t s) d).length c2)
    have hBW := ((hB2.setCell (p := ⟨w.heap.size + 2, 0, none⟩) (by simp) (.slice none 0 0)).setCell (p := ⟨w.heap.size + 2, 1, none⟩) (by simp) (.slice none 0 0)).setCell (p := ⟨w.heap.size + 2, 2, none⟩) (by simp) (.slice A2 (seenC (kidT t s) d).length c2)
    refine bodyPost_ret (v := .tuple #[.agg #[.slice none 0 0, .slice none 0 0, .slice A2 (seenC (kidT t s) d).length c2], .int .i64 0]) (by simp [results, Tryz.results68, go_sem, r0, r1, r2]) rfl ⟨_, _, _, by rw [HE.out], rda_nil _ _, ?_, hBW⟩
    rw [HD.out]
    refine (HO2.out.sla (by unfold Big; omega)).up (fun b hb => hK b (by have := hb.1; omega)) (fun b hb => ⟨by have := hb.1; omega, by rw [hS]; exact hb.2.1⟩) (fun _ _ _ h => h)
end Go.Proofs.YtkjijbogbelilaaGreat

namespace Go.Proofs.YtkjijbogbelilaaGreat
open Go.RowKit
set_option maxRecDepth 100000

/-- What set.Add makes: the error's number, the tree, the context. -/
def addE (t : Tr) (s : ByteArray) (d : Dt) : Int := if !sckB t s d then 1 else if decide (24 ≤ t.ks.length) && !hasK t s then 4 else 0
def oneE (d : Dt) : Tr := .mk [⟨d.dc, d.n, ByteArray.empty, 0⟩] []
def addT (t : Tr) (s : ByteArray) (d : Dt) : Tr := if addE t s d = 0 then .mk [] [(s, oneE d)] else .mk [] []
def addC (t : Tr) (s : ByteArray) (d : Dt) : List Sp := if addE t s d = 0 then seenC (kidT t s) d else []
theorem addEnE {d : Dt} (hd : d.Ok) : EnE (⟨d.dc, d.n, ByteArray.empty, 0⟩ : En) [.int .i64 d.dc, .int .i64 d.n, .string ByteArray.empty, .int .i64 0] := ⟨rfl, En.Ok.mk' hd ⟨by decide, by decide⟩⟩
theorem oneE_right {d : Dt} (h : d.right = true) : (oneE d).right 5 = true := by
  unfold oneE
  rw [Tr.right, Tr.rightL]
  simp [entsB, En.right, okP, En.dot]
  exact h
theorem oneE_wrap {d : Dt} {s : ByteArray} (h : d.right = true) (hk : keyB s = true) : wrapE (oneE d) s = 0 ∧ wrapT (oneE d) s = .mk [] [(s, oneE d)] := by
  have hE : wrapE (oneE d) s = 0 := by
    unfold wrapE
    rw [oneE_right h, hk]
    rfl
  refine ⟨hE, ?_⟩
  unfold wrapT
  rw [hE, if_pos rfl]
  rfl

set_option maxHeartbeats 4000000 in
theorem sadd_any (t : Tr) (s : ByteArray) (d : Dt) (ve vk : Value) (w : World) (h : t.rd w w.heap.size ve vk) (hs : s.size ≤ Big) (hN : t.sz ≤ 4000) (hd : d.Ok) :
    Calls Tryz.prog 67 #[.agg #[ve, vk], .string s, .agg #[.int .i64 d.dc, .int .i64 d.n]] w (RetCE w (addT t s d) (addC t s d) (addE t s d)) := by
  have hsc := seenC_len (kidT t s) d
  have hkz := kidT_sz t s
  have HC : Hid (∀ w', Below w.heap.size w w' → t.rd w' w'.heap.size ve vk) := fun w' hb => rd_below hb hb.size _ _ _ h
  obtain ⟨A3, n3, A4, n4, rfl, rfl⟩ := rd_shape h
  have hb0 := (((Below.refl w.heap.size w).alloc (Nat.le_refl _) (.cells #[.slice A3 t.es.length n3, .slice A4 t.ks.length n4] 25)).alloc (by simp) (.cells #[.int .i64 d.dc, .int .i64 d.n] 42)).alloc (by simp; omega) (.cells #[.slice none 0 0, .slice none 0 0, .slice none 0 0] 29)
  clear h
  go_enter Tryz.func67, Tryz.ntmps67
  go_wp2_with fail
  refine (scheck_any t s d _ _ _ (HC.out _ hb0) hs (by omega)).mono ?_
  rintro e w1 ⟨rfl, hb1⟩
  have hs1 := hb1.size
  simp only [World.size_alloc] at hs1
  have hB1 : Below w.heap.size w w1 := hb0.trans (hb1.mono (by simp; omega))
  have c0 : w1.cell? ⟨w.heap.size, 0, none⟩ = some (.slice A3 t.es.length n3) := by
    rw [hb1.cell (p := ⟨w.heap.size, 0, none⟩) (by simp; omega)]
    rw [World.cell?_alloc_lt _ _ _ (by simp; omega), World.cell?_alloc_lt _ _ _ (by simp)]; simp
  have c1 : w1.cell? ⟨w.heap.size, 1, none⟩ = some (.slice A4 t.ks.length n4) := by
    rw [hb1.cell (p := ⟨w.heap.size, 1, none⟩) (by simp; omega)]
    rw [World.cell?_alloc_lt _ _ _ (by simp; omega), World.cell?_alloc_lt _ _ _ (by simp)]; simp
  have d0 : w1.cell? ⟨w.heap.size + 1, 0, none⟩ = some (.int .i64 d.dc) := by rw [hb1.cell (p := ⟨w.heap.size + 1, 0, none⟩) (by simp), World.cell?_alloc_lt _ _ _ (by simp)]; simp
  have d1 : w1.cell? ⟨w.heap.size + 1, 1, none⟩ = some (.int .i64 d.n) := by rw [hb1.cell (p := ⟨w.heap.size + 1, 1, none⟩) (by simp), World.cell?_alloc_lt _ _ _ (by simp)]; simp
  have hg : w1.heap[w.heap.size + 2]? = some (.cells #[.slice none 0 0, .slice none 0 0, .slice none 0 0] 29 (0, 0)) := (hb1.block (w.heap.size + 2) (by simp)).trans (heap_new (by simp))
  have HG := hid hg
  have k0 : w1.cell? ⟨w.heap.size + 2, 0, none⟩ = some (.slice none 0 0) := cell_cells (i := 0) hg
  have k1 : w1.cell? ⟨w.heap.size + 2, 1, none⟩ = some (.slice none 0 0) := cell_cells (i := 1) hg
  have k2 : w1.cell? ⟨w.heap.size + 2, 2, none⟩ = some (.slice none 0 0) := cell_cells (i := 2) hg
  have z0 := cells_frz (i := 0) hg
  have z1 := cells_frz (i := 1) hg
  have z2 := cells_frz (i := 2) hg
  clear hg hb1
  have HK1 : Hid (∀ w', Below w1.heap.size w1 w' → Below w.heap.size w w' ∧ w1.heap.size ≤ w'.heap.size ∧ w'.cell? ⟨w.heap.size, 0, none⟩ = some (.slice A3 t.es.length n3) ∧ w'.cell? ⟨w.heap.size, 1, none⟩ = some (.slice A4 t.ks.length n4) ∧ w'.cell? ⟨w.heap.size + 1, 0, none⟩ = some (.int .i64 d.dc) ∧ w'.cell? ⟨w.heap.size + 1, 1, none⟩ = some (.int .i64 d.n) ∧ w'.heap[w.heap.size + 2]? = some (.cells #[.slice none 0 0, .slice none 0 0, .slice none 0 0] 29 (0, 0))) := fun w' hb =>
    ⟨hB1.trans (hb.mono (by omega)), hb.size, (hb.cell (p := ⟨w.heap.size, 0, none⟩) (by show w.heap.size < _; omega)).trans c0, (hb.cell (p := ⟨w.heap.size, 1, none⟩) (by show w.heap.size < _; omega)).trans c1, (hb.cell (p := ⟨w.heap.size + 1, 0, none⟩) (by show w.heap.size + 1 < _; omega)).trans d0, (hb.cell (p := ⟨w.heap.size + 1, 1, none⟩) (by show w.heap.size + 1 < _; omega)).trans d1, (hb.block _ (by omega)).trans HG.out⟩
  clear c0 c1 d0 d1 k0 k1 k2 z0 z1 z2
  have hb1' := hid (Below.refl w1.heap.size w1)
  obtain ⟨hB1, hs1, c0, c1, d0, d1, g6⟩ := HK1.out _ hb1'.out
  have HG1 := hid g6
  have k0 : w1.cell? ⟨w.heap.size + 2, 0, none⟩ = some (.slice none 0 0) := cell_cells (i := 0) g6
  have k1 : w1.cell? ⟨w.heap.size + 2, 1, none⟩ = some (.slice none 0 0) := cell_cells (i := 1) g6
  have k2 : w1.cell? ⟨w.heap.size + 2, 2, none⟩ = some (.slice none 0 0) := cell_cells (i := 2) g6
  have z0 := cells_frz (i := 0) g6
  have z1 := cells_frz (i := 1) g6
  have z2 := cells_frz (i := 2) g6
  clear g6
  cases hc : sckB t s d
  · have HI : Hid (sckI t s d = 1) := by unfold Hid sckI; rw [hc]; rfl
    have HE : Hid (addE t s d = 1) := by unfold Hid addE; rw [hc]; rfl
    have HTT : Hid (addT t s d = .mk [] []) := by unfold Hid addT; rw [HE.out]; rfl
    have HCC : Hid (addC t s d = []) := by unfold Hid addC; rw [HE.out]; rfl
    rw [HI.out]
    clear hc
    go_wp2_with fail
    obtain ⟨r0, r1, r2, hK, hS⟩ := box3 HG1.out (.slice none 0 0) (.slice none 0 0) (.slice none 0 0)
    have hBW := ((hB1.setCell (p := ⟨w.heap.size + 2, 0, none⟩) (by simp) (.slice none 0 0)).setCell (p := ⟨w.heap.size + 2, 1, none⟩) (by simp) (.slice none 0 0)).setCell (p := ⟨w.heap.size + 2, 2, none⟩) (by simp) (.slice none 0 0)
    refine bodyPost_ret (v := .tuple #[.agg #[.slice none 0 0, .slice none 0 0, .slice none 0 0], .int .i64 1]) (by simp [results, Tryz.results67, go_sem, r0, r1, r2]) rfl ⟨_, _, _, by rw [HE.out], by rw [HTT.out]; exact rda_nil _ _, by rw [HCC.out]; exact SlA.nil, hBW⟩
  have HI : Hid (sckI t s d = 0) := by unfold Hid sckI; rw [hc]; rfl
  have HDR := hid (chkT_right (sck_chk hc).1)
  have HTR := hid (chkT_tree (sck_chk hc).1)
  have HWE := hid (oneE_wrap HDR.out (sck_chk hc).2).1
  have HWT := hid (oneE_wrap HDR.out (sck_chk hc).2).2
  rw [HI.out]
  have hfi : decide ((24 : Int) ≤ (t.ks.length : Int)) = decide (24 ≤ t.ks.length) := by rw [Bool.eq_iff_iff]; simp; omega
  cases fl : decide (24 ≤ t.ks.length)
  · have HE : Hid (addE t s d = 0) := by unfold Hid addE; rw [hc, fl]; rfl
    have HTT : Hid (addT t s d = .mk [] [(s, oneE d)]) := by unfold Hid addT; rw [HE.out, if_pos rfl]
    have HCC : Hid (addC t s d = seenC (kidT t s) d) := by unfold Hid addC; rw [HE.out, if_pos rfl]
    rw [fl] at hfi
    clear hc fl
    have hltn : w.heap.size + 2 < w1.heap.size := by omega
    have hen : SlP ((w1.alloc (.cells #[.int .i64 d.dc, .int .i64 d.n, .string ByteArray.empty, .int .i64 0] 63)).alloc (.cells #[.string s] 9)) ((w1.alloc (.cells #[.int .i64 d.dc, .int .i64 d.n, .string ByteArray.empty, .int .i64 0] 63)).alloc (.cells #[.string s] 9)).heap.size 4 EnE (.slice (some ⟨w1.heap.size, 0, none⟩) 1 1) [(⟨d.dc, d.n, ByteArray.empty, 0⟩ : En)] :=
      (SlP.one (x := (⟨d.dc, d.n, ByteArray.empty, 0⟩ : En)) (addEnE hd) rfl 63 rfl).imp ((Below.refl _ _).alloc (by rw [World.size_alloc]; omega) _) (by rw [World.size_alloc, World.size_alloc]; omega) fun _ _ _ h => h
    have HEN : Hid ((oneE d).rd ((w1.alloc (.cells #[.int .i64 d.dc, .int .i64 d.n, .string ByteArray.empty, .int .i64 0] 63)).alloc (.cells #[.string s] 9)) ((w1.alloc (.cells #[.int .i64 d.dc, .int .i64 d.n, .string ByteArray.empty, .int .i64 0] 63)).alloc (.cells #[.string s] 9)).heap.size (.slice (some ⟨w1.heap.size, 0, none⟩) 1 1) (.slice none 0 0)) := rd_iff.2 ⟨hen, SlP.nil⟩
    clear hen
    go_wp2_with fail
    refine (twrap_any (oneE d) s _ _ _ _ HEN.out (SlP.oneB (E := StE) (n := w1.heap.size + 1) (x := s) (cs := [.string s]) ⟨rfl, hs⟩ rfl _ (by simp) (by simp)) (by simp [oneE, Tr.sz, Tr.szL])).mono ?_
    rw [HWE.out, HWT.out]
    rintro e w5 ⟨v5, u5, rfl, hrd5, hb5⟩
    generalize (Tr.mk [] [(s, oneE d)] : Tr) = T at *
    obtain ⟨A8, n8, A9, n9, rfl, rfl⟩ := rda_shape hrd5
    have hs5 := hb5.size
    simp only [World.size_alloc] at hs5
    clear c0 c1 d0 d1 k0 k1 k2 z0 z1 z2
    have hb5' := hid (hb1'.out.trans ((((Below.refl w1.heap.size w1).alloc (Nat.le_refl _) _).alloc (by rw [World.size_alloc]; omega) _).trans (hb5.mono (show w1.heap.size ≤ _ by simp only [World.size_alloc]; omega)) |>.mono hs1))
    obtain ⟨hB5, hs5, c0, c1, d0, d1, g6⟩ := HK1.out _ hb5'.out
    have HG5 := hid g6
    have k0 : w5.cell? ⟨w.heap.size + 2, 0, none⟩ = some (.slice none 0 0) := cell_cells (i := 0) g6
    have k1 : w5.cell? ⟨w.heap.size + 2, 1, none⟩ = some (.slice none 0 0) := cell_cells (i := 1) g6
    have k2 : w5.cell? ⟨w.heap.size + 2, 2, none⟩ = some (.slice none 0 0) := cell_cells (i := 2) g6
    have z0 := cells_frz (i := 0) g6
    have z1 := cells_frz (i := 1) g6
    have z2 := cells_frz (i := 2) g6
    clear g6
    clear hb5
    have hlt2 : w.heap.size + 2 < w5.heap.size := by omega
    have hne2 : w.heap.size + 2 ≠ w5.heap.size := by omega
    have hlt1 : w.heap.size + 1 < w5.heap.size := by omega
    have hne1 : w.heap.size + 1 ≠ w5.heap.size := by omega
    have hlt0 : w.heap.size < w5.heap.size := by omega
    have hne0 : w.heap.size ≠ w5.heap.size := by omega
    have HX : Hid (∀ w', Below (w5.heap.size + 1) (w5.alloc (.cells #[.slice A8 T.es.length n8, .slice A9 T.ks.length n9] 25)) w' → Below w5.heap.size w5 w' ∧ (w'.cell? ⟨w.heap.size, 0, none⟩ = some (.slice A3 t.es.length n3) ∧ w'.cell? ⟨w.heap.size, 1, none⟩ = some (.slice A4 t.ks.length n4) ∧ w'.cell? ⟨w.heap.size + 1, 0, none⟩ = some (.int .i64 d.dc) ∧ w'.cell? ⟨w.heap.size + 1, 1, none⟩ = some (.int .i64 d.n) ∧ w'.cell? ⟨w5.heap.size, 0, none⟩ = some (.slice A8 T.es.length n8) ∧ w'.cell? ⟨w5.heap.size, 1, none⟩ = some (.slice A9 T.ks.length n9))) := fun w' hb => by
      have hB : Below w5.heap.size w5 w' := ((Below.refl _ w5).alloc (Nat.le_refl _) _).trans (hb.mono (by omega))
      refine ⟨hB, (hB.cell (p := ⟨w.heap.size, 0, none⟩) hlt0).trans c0, (hB.cell (p := ⟨w.heap.size, 1, none⟩) hlt0).trans c1, (hB.cell (p := ⟨w.heap.size + 1, 0, none⟩) hlt1).trans d0, (hB.cell (p := ⟨w.heap.size + 1, 1, none⟩) hlt1).trans d1, ?_, ?_⟩
      · rw [hb.cell (p := ⟨w5.heap.size, 0, none⟩) (by simp), World.cell?_alloc_new]; rfl
      · rw [hb.cell (p := ⟨w5.heap.size, 1, none⟩) (by simp), World.cell?_alloc_new]; rfl
    have hneA : w.heap.size + 1 + 1 ≠ w.heap.size := by omega
    have hneB : w.heap.size ≠ w.heap.size + 1 + 1 := by omega
    clear k0 k1 k2 z0 z1 z2
    go_upto_region 7 with (fail)
    go_region_held3 (fun w' => w'.cell? ⟨w.heap.size, 0, none⟩ = some (.slice A3 t.es.length n3) ∧ w'.cell? ⟨w.heap.size, 1, none⟩ = some (.slice A4 t.ks.length n4) ∧ w'.cell? ⟨w.heap.size + 1, 0, none⟩ = some (.int .i64 d.dc) ∧ w'.cell? ⟨w.heap.size + 1, 1, none⟩ = some (.int .i64 d.n) ∧ w'.cell? ⟨w5.heap.size, 0, none⟩ = some (.slice A8 T.es.length n8) ∧ w'.cell? ⟨w5.heap.size, 1, none⟩ = some (.slice A9 T.ks.length n9))
      (first | go_keep | exact (HX.out _ hbx.out).2)
      (first | (go_at_call 114; go_loud ((refine (sseen_any t s d _ _ _ (HC.out _ ((hB5.alloc (by omega) _).drew)) hs hN HTR.out HDR.out hd).mono ?_); rintro e w6 ⟨v6, rfl, ho6, hb6⟩; obtain ⟨A10, c10, hv6⟩ := ho6.shape; subst hv6; have HO6 := hid ho6; have hbx : Hid (Below (w5.heap.size + 1) (w5.alloc (.cells #[.slice A8 T.es.length n8, .slice A9 T.ks.length n9] 25)) w6) := (((Below.refl (w5.heap.size + 1) (w5.alloc (.cells #[.slice A8 T.es.length n8, .slice A9 T.ks.length n9] 25))).drew).trans (hb6.mono (by simp))); have hby := hid (HX.out _ hbx.out).1; have hs6 : w5.heap.size + 1 ≤ w6.heap.size := (by have := hbx.out.size; simpa using this); have HGx := hid ((hby.out.block (w.heap.size + 2) (by omega)).trans HG5.out); have k0 : w6.cell? ⟨w.heap.size + 2, 0, none⟩ = some (.slice none 0 0) := cell_cells (i := 0) HGx.out; have k1 : w6.cell? ⟨w.heap.size + 2, 1, none⟩ = some (.slice none 0 0) := cell_cells (i := 1) HGx.out; have k2 : w6.cell? ⟨w.heap.size + 2, 2, none⟩ = some (.slice none 0 0) := cell_cells (i := 2) HGx.out; have z0 := cells_frz (i := 0) HGx.out; have z1 := cells_frz (i := 1) HGx.out; have z2 := cells_frz (i := 2) HGx.out; have hlt6 : w.heap.size + 2 < w6.heap.size := (by omega); have hne6 : w.heap.size + 2 ≠ w6.heap.size := (by omega); clear ho6 hb6)))
    all_goals go_wp2_with fail
    obtain ⟨r0, r1, r2, hK, hS⟩ := box3 HGx.out (.slice A8 T.es.length n8) (.slice A9 T.ks.length n9) (.slice A10 (seenC (kidT t s) d).length c10)
    have hBW : Below w.heap.size w (((w6.setCell ⟨w.heap.size + 2, 0, none⟩ (.slice A8 T.es.length n8)).setCell ⟨w.heap.size + 2, 1, none⟩ (.slice A9 T.ks.length n9)).setCell ⟨w.heap.size + 2, 2, none⟩ (.slice A10 (seenC (kidT t s) d).length c10)) := (((hB5.trans (hby.out.mono (by omega))).setCell (by simp) _).setCell (by simp) _).setCell (by simp) _
    clear k0 k1 k2 z0 z1 z2
    generalize (((w6.setCell ⟨w.heap.size + 2, 0, none⟩ (.slice A8 T.es.length n8)).setCell ⟨w.heap.size + 2, 1, none⟩ (.slice A9 T.ks.length n9)).setCell ⟨w.heap.size + 2, 2, none⟩ (.slice A10 (seenC (kidT t s) d).length c10)) = W at *
    refine bodyPost_ret (v := .tuple #[.agg #[.slice A8 T.es.length n8, .slice A9 T.ks.length n9, .slice A10 (seenC (kidT t s) d).length c10], .int .i64 0]) (by simp [results, Tryz.results67, go_sem, r0, r1, r2]) rfl ⟨_, _, _, by rw [HE.out], ?_, ?_, hBW⟩
    · rw [HTT.out]
      exact rda_up (fun b hb => (hK b (by have := hb.1; simp only [World.size_alloc] at this; omega)).trans (hby.out.block b hb.2)) (fun b hb => ⟨by have := hb.1; simp only [World.size_alloc] at this; omega, by have := hb.2; omega⟩) _ _ _ hrd5
    · rw [HCC.out]
      refine (HO6.out.sla (by unfold Big; omega)).up (fun b hb => hK b (by have := hb.1; simp only [World.size_alloc, World.size_drew] at this; omega)) (fun b hb => ⟨by have := hb.1; simp only [World.size_alloc, World.size_drew] at this; omega, by have := hb.2.1; omega⟩) (fun _ _ _ h => h)
  · rw [fl] at hfi
    go_wp2_with fail
    refine (sethas_any t s _ _ w1 (HC.out _ hB1)).mono ?_
    rintro e w2 ⟨rfl, hb2⟩
    clear c0 c1 d0 d1 k0 k1 k2 z0 z1 z2
    have hb2' := hid (hb2)
    obtain ⟨hB2, hs2, c0, c1, d0, d1, g6⟩ := HK1.out _ hb2'.out
    have HG2 := hid g6
    have k0 : w2.cell? ⟨w.heap.size + 2, 0, none⟩ = some (.slice none 0 0) := cell_cells (i := 0) g6
    have k1 : w2.cell? ⟨w.heap.size + 2, 1, none⟩ = some (.slice none 0 0) := cell_cells (i := 1) g6
    have k2 : w2.cell? ⟨w.heap.size + 2, 2, none⟩ = some (.slice none 0 0) := cell_cells (i := 2) g6
    have z0 := cells_frz (i := 0) g6
    have z1 := cells_frz (i := 1) g6
    have z2 := cells_frz (i := 2) g6
    clear g6
    clear hb2
    cases an : hasK t s
    · have HE : Hid (addE t s d = 4) := by unfold Hid addE; rw [hc, fl, an]; rfl
      have HTT : Hid (addT t s d = .mk [] []) := by unfold Hid addT; rw [HE.out]; rfl
      have HCC : Hid (addC t s d = []) := by unfold Hid addC; rw [HE.out]; rfl
      clear hc fl an
      go_wp2_with fail
      obtain ⟨r0, r1, r2, hK, hS⟩ := box3 HG2.out (.slice none 0 0) (.slice none 0 0) (.slice none 0 0)
      have hBW := ((hB2.setCell (p := ⟨w.heap.size + 2, 0, none⟩) (by simp) (.slice none 0 0)).setCell (p := ⟨w.heap.size + 2, 1, none⟩) (by simp) (.slice none 0 0)).setCell (p := ⟨w.heap.size + 2, 2, none⟩) (by simp) (.slice none 0 0)
      refine bodyPost_ret (v := .tuple #[.agg #[.slice none 0 0, .slice none 0 0, .slice none 0 0], .int .i64 4]) (by simp [results, Tryz.results67, go_sem, r0, r1, r2]) rfl ⟨_, _, _, by rw [HE.out], by rw [HTT.out]; exact rda_nil _ _, by rw [HCC.out]; exact SlA.nil, hBW⟩
    · have HE : Hid (addE t s d = 0) := by unfold Hid addE; rw [hc, fl, an]; rfl
      have HTT : Hid (addT t s d = .mk [] [(s, oneE d)]) := by unfold Hid addT; rw [HE.out, if_pos rfl]
      have HCC : Hid (addC t s d = seenC (kidT t s) d) := by unfold Hid addC; rw [HE.out, if_pos rfl]
      clear hc fl an
      have hltn : w.heap.size + 2 < w2.heap.size := by omega
      have hen : SlP ((w2.alloc (.cells #[.int .i64 d.dc, .int .i64 d.n, .string ByteArray.empty, .int .i64 0] 63)).alloc (.cells #[.string s] 9)) ((w2.alloc (.cells #[.int .i64 d.dc, .int .i64 d.n, .string ByteArray.empty, .int .i64 0] 63)).alloc (.cells #[.string s] 9)).heap.size 4 EnE (.slice (some ⟨w2.heap.size, 0, none⟩) 1 1) [(⟨d.dc, d.n, ByteArray.empty, 0⟩ : En)] :=
        (SlP.one (x := (⟨d.dc, d.n, ByteArray.empty, 0⟩ : En)) (addEnE hd) rfl 63 rfl).imp ((Below.refl _ _).alloc (by rw [World.size_alloc]; omega) _) (by rw [World.size_alloc, World.size_alloc]; omega) fun _ _ _ h => h
      have HEN : Hid ((oneE d).rd ((w2.alloc (.cells #[.int .i64 d.dc, .int .i64 d.n, .string ByteArray.empty, .int .i64 0] 63)).alloc (.cells #[.string s] 9)) ((w2.alloc (.cells #[.int .i64 d.dc, .int .i64 d.n, .string ByteArray.empty, .int .i64 0] 63)).alloc (.cells #[.string s] 9)).heap.size (.slice (some ⟨w2.heap.size, 0, none⟩) 1 1) (.slice none 0 0)) := rd_iff.2 ⟨hen, SlP.nil⟩
      clear hen
      go_wp2_with fail
      refine (twrap_any (oneE d) s _ _ _ _ HEN.out (SlP.oneB (E := StE) (n := w2.heap.size + 1) (x := s) (cs := [.string s]) ⟨rfl, hs⟩ rfl _ (by simp) (by simp)) (by simp [oneE, Tr.sz, Tr.szL])).mono ?_
      rw [HWE.out, HWT.out]
      rintro e w5 ⟨v5, u5, rfl, hrd5, hb5⟩
      generalize (Tr.mk [] [(s, oneE d)] : Tr) = T at *
      obtain ⟨A8, n8, A9, n9, rfl, rfl⟩ := rda_shape hrd5
      have hs5 := hb5.size
      simp only [World.size_alloc] at hs5
      clear c0 c1 d0 d1 k0 k1 k2 z0 z1 z2
      have hb5' := hid (hb2'.out.trans ((((Below.refl w2.heap.size w2).alloc (Nat.le_refl _) _).alloc (by rw [World.size_alloc]; omega) _).trans (hb5.mono (show w2.heap.size ≤ _ by simp only [World.size_alloc]; omega)) |>.mono hs2))
      obtain ⟨hB5, hs5, c0, c1, d0, d1, g6⟩ := HK1.out _ hb5'.out
      have HG5 := hid g6
      have k0 : w5.cell? ⟨w.heap.size + 2, 0, none⟩ = some (.slice none 0 0) := cell_cells (i := 0) g6
      have k1 : w5.cell? ⟨w.heap.size + 2, 1, none⟩ = some (.slice none 0 0) := cell_cells (i := 1) g6
      have k2 : w5.cell? ⟨w.heap.size + 2, 2, none⟩ = some (.slice none 0 0) := cell_cells (i := 2) g6
      have z0 := cells_frz (i := 0) g6
      have z1 := cells_frz (i := 1) g6
      have z2 := cells_frz (i := 2) g6
      clear g6
      clear hb5
      have hlt2 : w.heap.size + 2 < w5.heap.size := by omega
      have hne2 : w.heap.size + 2 ≠ w5.heap.size := by omega
      have hlt1 : w.heap.size + 1 < w5.heap.size := by omega
      have hne1 : w.heap.size + 1 ≠ w5.heap.size := by omega
      have hlt0 : w.heap.size < w5.heap.size := by omega
      have hne0 : w.heap.size ≠ w5.heap.size := by omega
      have HX : Hid (∀ w', Below (w5.heap.size + 1) (w5.alloc (.cells #[.slice A8 T.es.length n8, .slice A9 T.ks.length n9] 25)) w' → Below w5.heap.size w5 w' ∧ (w'.cell? ⟨w.heap.size, 0, none⟩ = some (.slice A3 t.es.length n3) ∧ w'.cell? ⟨w.heap.size, 1, none⟩ = some (.slice A4 t.ks.length n4) ∧ w'.cell? ⟨w.heap.size + 1, 0, none⟩ = some (.int .i64 d.dc) ∧ w'.cell? ⟨w.heap.size + 1, 1, none⟩ = some (.int .i64 d.n) ∧ w'.cell? ⟨w5.heap.size, 0, none⟩ = some (.slice A8 T.es.length n8) ∧ w'.cell? ⟨w5.heap.size, 1, none⟩ = some (.slice A9 T.ks.length n9))) := fun w' hb => by
        have hB : Below w5.heap.size w5 w' := ((Below.refl _ w5).alloc (Nat.le_refl _) _).trans (hb.mono (by omega))
        refine ⟨hB, (hB.cell (p := ⟨w.heap.size, 0, none⟩) hlt0).trans c0, (hB.cell (p := ⟨w.heap.size, 1, none⟩) hlt0).trans c1, (hB.cell (p := ⟨w.heap.size + 1, 0, none⟩) hlt1).trans d0, (hB.cell (p := ⟨w.heap.size + 1, 1, none⟩) hlt1).trans d1, ?_, ?_⟩
        · rw [hb.cell (p := ⟨w5.heap.size, 0, none⟩) (by simp), World.cell?_alloc_new]; rfl
        · rw [hb.cell (p := ⟨w5.heap.size, 1, none⟩) (by simp), World.cell?_alloc_new]; rfl
      have hneA : w.heap.size + 1 + 1 ≠ w.heap.size := by omega
      have hneB : w.heap.size ≠ w.heap.size + 1 + 1 := by omega
      clear k0 k1 k2 z0 z1 z2
      go_upto_region 7 with (fail)
      go_region_held3 (fun w' => w'.cell? ⟨w.heap.size, 0, none⟩ = some (.slice A3 t.es.length n3) ∧ w'.cell? ⟨w.heap.size, 1, none⟩ = some (.slice A4 t.ks.length n4) ∧ w'.cell? ⟨w.heap.size + 1, 0, none⟩ = some (.int .i64 d.dc) ∧ w'.cell? ⟨w.heap.size + 1, 1, none⟩ = some (.int .i64 d.n) ∧ w'.cell? ⟨w5.heap.size, 0, none⟩ = some (.slice A8 T.es.length n8) ∧ w'.cell? ⟨w5.heap.size, 1, none⟩ = some (.slice A9 T.ks.length n9))
        (first | go_keep | exact (HX.out _ hbx.out).2)
        (first | (go_at_call 114; go_loud ((refine (sseen_any t s d _ _ _ (HC.out _ ((hB5.alloc (by omega) _).drew)) hs hN HTR.out HDR.out hd).mono ?_); rintro e w6 ⟨v6, rfl, ho6, hb6⟩; obtain ⟨A10, c10, hv6⟩ := ho6.shape; subst hv6; have HO6 := hid ho6; have hbx : Hid (Below (w5.heap.size + 1) (w5.alloc (.cells #[.slice A8 T.es.length n8, .slice A9 T.ks.length n9] 25)) w6) := (((Below.refl (w5.heap.size + 1) (w5.alloc (.cells #[.slice A8 T.es.length n8, .slice A9 T.ks.length n9] 25))).drew).trans (hb6.mono (by simp))); have hby := hid (HX.out _ hbx.out).1; have hs6 : w5.heap.size + 1 ≤ w6.heap.size := (by have := hbx.out.size; simpa using this); have HGx := hid ((hby.out.block (w.heap.size + 2) (by omega)).trans HG5.out); have k0 : w6.cell? ⟨w.heap.size + 2, 0, none⟩ = some (.slice none 0 0) := cell_cells (i := 0) HGx.out; have k1 : w6.cell? ⟨w.heap.size + 2, 1, none⟩ = some (.slice none 0 0) := cell_cells (i := 1) HGx.out; have k2 : w6.cell? ⟨w.heap.size + 2, 2, none⟩ = some (.slice none 0 0) := cell_cells (i := 2) HGx.out; have z0 := cells_frz (i := 0) HGx.out; have z1 := cells_frz (i := 1) HGx.out; have z2 := cells_frz (i := 2) HGx.out; have hlt6 : w.heap.size + 2 < w6.heap.size := (by omega); have hne6 : w.heap.size + 2 ≠ w6.heap.size := (by omega); clear ho6 hb6)))
      all_goals go_wp2_with fail
      obtain ⟨r0, r1, r2, hK, hS⟩ := box3 HGx.out (.slice A8 T.es.length n8) (.slice A9 T.ks.length n9) (.slice A10 (seenC (kidT t s) d).length c10)
      have hBW : Below w.heap.size w (((w6.setCell ⟨w.heap.size + 2, 0, none⟩ (.slice A8 T.es.length n8)).setCell ⟨w.heap.size + 2, 1, none⟩ (.slice A9 T.ks.length n9)).setCell ⟨w.heap.size + 2, 2, none⟩ (.slice A10 (seenC (kidT t s) d).length c10)) := (((hB5.trans (hby.out.mono (by omega))).setCell (by simp) _).setCell (by simp) _).setCell (by simp) _
      clear k0 k1 k2 z0 z1 z2
      generalize (((w6.setCell ⟨w.heap.size + 2, 0, none⟩ (.slice A8 T.es.length n8)).setCell ⟨w.heap.size + 2, 1, none⟩ (.slice A9 T.ks.length n9)).setCell ⟨w.heap.size + 2, 2, none⟩ (.slice A10 (seenC (kidT t s) d).length c10)) = W at *
      refine bodyPost_ret (v := .tuple #[.agg #[.slice A8 T.es.length n8, .slice A9 T.ks.length n9, .slice A10 (seenC (kidT t s) d).length c10], .int .i64 0]) (by simp [results, Tryz.results67, go_sem, r0, r1, r2]) rfl ⟨_, _, _, by rw [HE.out], ?_, ?_, hBW⟩
      · rw [HTT.out]
        exact rda_up (fun b hb => (hK b (by have := hb.1; simp only [World.size_alloc] at this; omega)).trans (hby.out.block b hb.2)) (fun b hb => ⟨by have := hb.1; simp only [World.size_alloc] at this; omega, by have := hb.2; omega⟩) _ _ _ hrd5
      · rw [HCC.out]
        refine (HO6.out.sla (by unfold Big; omega)).up (fun b hb => hK b (by have := hb.1; simp only [World.size_alloc, World.size_drew] at this; omega)) (fun b hb => ⟨by have := hb.1; simp only [World.size_alloc, World.size_drew] at this; omega, by have := hb.2.1; omega⟩) (fun _ _ _ h => h)
end Go.Proofs.YtkjijbogbelilaaGreat

namespace Go.Proofs.YtkjijbogbelilaaGreat
open Go.RowKit
set_option maxRecDepth 100000

def elP (x : Kd) : Bool := decide (0 < x.2.es.length)
def elL (ks : List Kd) : List ByteArray := (ks.filter elP).map (·.1)
theorem elL_take {ks : List Kd} {k : Nat} {x : Kd} (h : ks[k]? = some x) : elL (ks.take (k + 1)) = elL (ks.take k) ++ (if elP x then [x.1] else []) := by
  unfold elL
  rw [List.take_add_one, h, List.filter_append, List.map_append]
  cases hp : elP x <;> simp [hp]
theorem elL_len (ks : List Kd) : (elL ks).length ≤ ks.length := by unfold elL; rw [List.length_map]; exact List.length_filter_le _ _
/-- What set.Elems tells. -/
def elemsOf (t : Tr) : List ByteArray := if t.right 5 then elL t.ks else []
set_option maxHeartbeats 4000000 in
theorem selems_any (t : Tr) (w : World) (ve vk : Value) (h : t.rd w w.heap.size ve vk) (hN : t.ks.length ≤ 900000) :
    Calls Tryz.prog 70 #[.agg #[ve, vk]] w (RetO w 9 1 (fun _ => StE) (elemsOf t)) := by
  have HC : Hid (∀ w', Below w.heap.size w w' → t.rd w' w'.heap.size ve vk) := fun w' hb => rd_below hb hb.size _ _ _ h
  have HK0 : Hid (elemsOf t = if t.right 5 then elL t.ks else []) := rfl
  obtain ⟨es, ks⟩ := t
  rw [rd_iff] at h
  obtain ⟨⟨A0, n0, rfl, d1, d2, d3⟩, ⟨A, m, rfl, c1, c2, c3⟩⟩ := h
  unfold Big at c2 d2
  simp only [Tr.ks] at hN HK0 ⊢
  have hb0 : Below w.heap.size w (w.alloc (.cells #[.slice A0 es.length n0, .slice A ks.length m] 25)) := (Below.refl _ w).alloc (Nat.le_refl _) _
  go_enter Tryz.func70, Tryz.ntmps70
  go_wp2_with fail
  refine (tRight_any _ _ _ _ (HC.out _ hb0)).mono ?_
  rintro e w1 ⟨rfl, hb1⟩
  have hs1 := hb1.size
  simp only [World.size_alloc] at hs1
  have hB1 : Below w.heap.size w w1 := hb0.trans (hb1.mono (by simp))
  have b1 : w1.cell? ⟨w.heap.size, 1, none⟩ = some (.slice A ks.length m) := by rw [hb1.cell (p := ⟨w.heap.size, 1, none⟩) (by simp)]; simp
  cases hr : (Tr.mk es ks).right 5
  · have HK : Hid (elemsOf (.mk es ks) = []) := by unfold Hid; rw [HK0.out, hr]; rfl
    clear hr
    go_wp2_with fail
    go_ret
    exact ⟨_, rfl, by rw [HK.out]; exact OwnP.nil, hB1⟩
  have HK : Hid (elemsOf (.mk es ks) = elL ks) := by unfold Hid; rw [HK0.out, hr]; rfl
  clear hr d3 d2 d1
  go_wp2_with fail
  go_loopw [3, 11] (fun v i wr => ∃ k : Nat, k ≤ ks.length ∧ i = .int .i64 k ∧ OwnP wr (w.heap.size + 1) 9 1 StE v (elL (ks.take k)) ∧ Below (w.heap.size + 1) w1 wr) (fun _ i _ => ks.length - (intOf i).toNat)
  case atStart => exact ⟨0, Nat.zero_le _, rfl, OwnP.nil, Below.refl _ _⟩
  case round =>
    obtain ⟨k, hk, rfl, hown, hb⟩ := hrel
    have hsz := hb.size
    have hB0 : Below w.heap.size w wr := hB1.trans (hb.mono (by omega))
    by_cases hlt : k < ks.length
    · obtain ⟨⟨key, t⟩, hx⟩ : ∃ x, ks[k]? = some x := ⟨_, List.getElem?_eq_getElem hlt⟩
      obtain ⟨b, off, rfl, hbB, hc⟩ := c3 (by rintro rfl; simp at hlt)
      obtain ⟨cs, ⟨ve', vk', rfl, hkb, hrd⟩, _, hu⟩ := hc k _ hx
      have hte : t.es.length ≤ 140737488355328 := by have := fit_rd _ _ _ hrd; obtain ⟨es', ks'⟩ := t; exact this.1
      obtain ⟨A5, n5, A6, n6, rfl, rfl⟩ := rd_shape hrd
      have e0 : wr.cell? ⟨b, off + k * 3, none⟩ = some (.string key) := (hB0.cell hbB).trans (hu 0 _ rfl)
      have e1 : wr.cell? ⟨b, off + k * 3 + 1, none⟩ = some (.slice A5 t.es.length n5) := (hB0.cell hbB).trans (hu 1 _ rfl)
      have e2 : wr.cell? ⟨b, off + k * 3 + 2, none⟩ = some (.slice A6 t.ks.length n6) := (hB0.cell hbB).trans (hu 2 _ rfl)
      have HT : Hid (elL (ks.take (k + 1)) = elL (ks.take k) ++ (if elP (key, t) then [key] else [])) := elL_take hx
      have HKY : Hid (StE key [.string key]) := ⟨rfl, hkb⟩
      have hfi : decide ((0 : Int) < (t.es.length : Int)) = decide (0 < t.es.length) := by simp
      clear hu hc c3 hx hrd hb0 hb1 b1
      cases he : decide (0 < t.es.length)
      · have HX : Hid (elL (ks.take (k + 1)) = elL (ks.take k)) := by unfold Hid; rw [HT.out, show elP (key, t) = false from he]; simp
        rw [he] at hfi
        go_wp2_with fail
        go_roundw
        case rel => exact ⟨k + 1, by omega, by go_num, by rw [HX.out]; exact hown.alloc _, hb.alloc (by omega) _⟩
        case measure => simp [intOf]; omega
      · have HX : Hid (elL (ks.take (k + 1)) = elL (ks.take k) ++ [key]) := by unfold Hid; rw [HT.out, show elP (key, t) = true from he]; rfl
        have HL : Hid ((elL (ks.take k)).length + [key].length ≤ Few) := by have := elL_len (ks.take k); unfold Hid Few; simp at this ⊢; omega
        rw [he] at hfi
        go_wp2_with (at_builtin; go_loud ((with_reducible refine wpList_few rfl (.tmp 20) (.tmp 23) _ rfl eiStr (by decide) (by decide) (fun _ _ h => StE.one h) rfl ((hown.alloc _).alloc _) rfl (SlP.oneN (x := key) HKY.out rfl _ rfl) HL.out (by simp only [World.size_alloc]; omega) ?_); intro v1 w2 hown1 hb2 _; have hb3 := (((Below.refl (w.heap.size + 1) wr).alloc (by omega) _).alloc (by simp only [World.size_alloc]; omega) _).trans hb2))
        go_roundw
        case rel => exact ⟨k + 1, by omega, by go_num, by rw [HX.out]; exact hown1, hb.trans hb3⟩
        case measure => simp [intOf]; omega
    · obtain rfl : k = ks.length := by omega
      rw [List.take_of_length_le (Nat.le_refl _)] at hown
      go_wp2_with fail
      go_ret
      exact ⟨_, rfl, by rw [HK.out]; exact hown.mono (by omega), hB0⟩

set_option maxHeartbeats 4000000 in
theorem r10elems_any (t : Tr) (w : World) (ve vk : Value) (h : t.rd w w.heap.size ve vk) (hN : t.ks.length ≤ 900000) :
    Calls Tryz.prog 69 #[.agg #[ve, vk]] w (RetO w 9 1 (fun _ => StE) (elL t.ks)) := by
  obtain ⟨es, ks⟩ := t
  rw [rd_iff] at h
  obtain ⟨⟨A0, n0, rfl, d1, d2, d3⟩, ⟨A, m, rfl, c1, c2, c3⟩⟩ := h
  unfold Big at c2 d2
  simp only [Tr.ks] at hN ⊢
  have hb0 : Below w.heap.size w (w.alloc (.cells #[.slice A0 es.length n0, .slice A ks.length m] 25)) := (Below.refl _ w).alloc (Nat.le_refl _) _
  go_enter Tryz.func69, Tryz.ntmps69
  go_wp2_with fail
  go_loopw [3, 8] (fun v i wr => ∃ k : Nat, k ≤ ks.length ∧ i = .int .i64 k ∧ OwnP wr (w.heap.size + 1) 9 1 StE v (elL (ks.take k)) ∧ Below (w.heap.size + 1) (w.alloc (.cells #[.slice A0 es.length n0, .slice A ks.length m] 25)) wr) (fun _ i _ => ks.length - (intOf i).toNat)
  case atStart => exact ⟨0, Nat.zero_le _, rfl, OwnP.nil, Below.refl _ _⟩
  case round =>
    obtain ⟨k, hk, rfl, hown, hb⟩ := hrel
    have hsz := hb.size
    simp only [World.size_alloc] at hsz
    have hB0 : Below w.heap.size w wr := hb0.trans (hb.mono (by omega))
    by_cases hlt : k < ks.length
    · obtain ⟨⟨key, t⟩, hx⟩ : ∃ x, ks[k]? = some x := ⟨_, List.getElem?_eq_getElem hlt⟩
      obtain ⟨b, off, rfl, hbB, hc⟩ := c3 (by rintro rfl; simp at hlt)
      obtain ⟨cs, ⟨ve', vk', rfl, hkb, hrd⟩, _, hu⟩ := hc k _ hx
      have hte : t.es.length ≤ 140737488355328 := by have := fit_rd _ _ _ hrd; obtain ⟨es', ks'⟩ := t; exact this.1
      obtain ⟨A5, n5, A6, n6, rfl, rfl⟩ := rd_shape hrd
      have e0 : wr.cell? ⟨b, off + k * 3, none⟩ = some (.string key) := (hB0.cell hbB).trans (hu 0 _ rfl)
      have e1 : wr.cell? ⟨b, off + k * 3 + 1, none⟩ = some (.slice A5 t.es.length n5) := (hB0.cell hbB).trans (hu 1 _ rfl)
      have z1 : wr.cell? ⟨w.heap.size, 1, none⟩ = some (.slice (some ⟨b, off, none⟩) ks.length m) := by rw [hb.cell (p := ⟨w.heap.size, 1, none⟩) (by simp)]; simp
      have HT : Hid (elL (ks.take (k + 1)) = elL (ks.take k) ++ (if elP (key, t) then [key] else [])) := elL_take hx
      have HK : Hid (StE key [.string key]) := ⟨rfl, hkb⟩
      have hfi : decide ((0 : Int) < (t.es.length : Int)) = decide (0 < t.es.length) := by simp
      clear hu hc c3 hx hrd d3 hb0
      cases he : decide (0 < t.es.length)
      · have HX : Hid (elL (ks.take (k + 1)) = elL (ks.take k)) := by unfold Hid; rw [HT.out, show elP (key, t) = false from he]; simp
        rw [he] at hfi
        go_wp2_with fail
        go_roundw
        case rel => exact ⟨k + 1, by omega, by go_num, by rw [HX.out]; exact hown, hb⟩
        case measure => simp [intOf]; omega
      · have HX : Hid (elL (ks.take (k + 1)) = elL (ks.take k) ++ [key]) := by unfold Hid; rw [HT.out, show elP (key, t) = true from he]; rfl
        have HL : Hid ((elL (ks.take k)).length + [key].length ≤ Few) := by have := elL_len (ks.take k); unfold Hid Few; simp at this ⊢; omega
        rw [he] at hfi
        go_wp2_with (at_builtin; go_loud ((with_reducible refine wpList_few rfl (.tmp 20) (.tmp 27) _ rfl eiStr (by decide) (by decide) (fun _ _ h => StE.one h) rfl (hown.alloc _) rfl (SlP.one (x := key) HK.out rfl _ rfl) HL.out (by rw [World.size_alloc]; omega) ?_); intro v1 w1 hown1 hb1 _; have hb2 := ((Below.refl (w.heap.size + 1) wr).alloc (by omega) _).trans hb1))
        go_roundw
        case rel => exact ⟨k + 1, by omega, by go_num, by rw [HX.out]; exact hown1, hb.trans hb2⟩
        case measure => simp [intOf]; omega
    · obtain rfl : k = ks.length := by omega
      rw [List.take_of_length_le (Nat.le_refl _)] at hown
      go_wp2_with fail
      go_ret
      exact ⟨_, rfl, hown.mono (by omega), hB0⟩

/-- What tributaryref10.Less tells. -/
def lessL (l : List ByteArray) (s : ByteArray) : List ByteArray := l.filter fun x => !decide (x = s)
theorem lessL_take {l : List ByteArray} {k : Nat} {x : ByteArray} (h : l[k]? = some x) (s : ByteArray) : lessL (l.take (k + 1)) s = lessL (l.take k) s ++ (if x = s then [] else [x]) := by
  unfold lessL
  rw [List.take_add_one, h, List.filter_append]
  by_cases hp : x = s <;> simp [hp]
theorem lessL_len (l : List ByteArray) (s : ByteArray) : (lessL l s).length ≤ l.length := List.length_filter_le _ _
theorem lessL_lt (l : List ByteArray) (s : ByteArray) : decide ((lessL l s).length < l.length) = l.any fun x => decide (s = x) := by
  induction l with
  | nil => rfl
  | cons y l ih =>
    have h := lessL_len l s
    by_cases e : y = s
    · have : lessL (y :: l) s = lessL l s := by simp [lessL, e]
      rw [this, List.any_cons]; simp [e]; omega
    · have h2 : lessL (y :: l) s = y :: lessL l s := by simp [lessL, e]
      rw [h2, List.any_cons, ← ih]
      have e' : ¬ s = y := fun h => e h.symm
      simp [e']
set_option maxHeartbeats 4000000 in
theorem r10less_any (l : List ByteArray) (s : ByteArray) (v : Value) (w : World) (h : SlP w w.heap.size 1 StE v l) (hN : l.length ≤ 900000) :
    Calls Tryz.prog 72 #[v, .string s] w (RetO w 9 1 (fun _ => StE) (lessL l s)) := by
  obtain ⟨A, n, rfl, b1, b2, b3⟩ := h
  unfold Big at b2
  go_enter Tryz.func72, Tryz.ntmps72
  go_wp2_with fail
  go_loopw [5, 9] (fun v i wr => ∃ k : Nat, k ≤ l.length ∧ i = .int .i64 k ∧ OwnP wr w.heap.size 9 1 StE v (lessL (l.take k) s) ∧ Below w.heap.size w wr) (fun _ i _ => l.length - (intOf i).toNat)
  case atStart => exact ⟨0, Nat.zero_le _, rfl, OwnP.nil, Below.refl _ _⟩
  case round =>
    obtain ⟨k, hk, rfl, hown, hb⟩ := hrel
    have hsz := hb.size
    by_cases hlt : k < l.length
    · obtain ⟨x, hx⟩ : ∃ x, l[k]? = some x := ⟨_, List.getElem?_eq_getElem hlt⟩
      obtain ⟨b, off, rfl, hbB, hc⟩ := b3 (by rintro rfl; simp at hlt)
      obtain ⟨cs, ⟨rfl, hok⟩, _, hu⟩ := hc k _ hx
      have e0 : wr.cell? ⟨b, off + k, none⟩ = some (.string x) := (hb.cell hbB).trans (by simpa using hu 0 _ rfl)
      have HT := hid (lessL_take hx s)
      have HK : Hid (StE x [.string x]) := ⟨rfl, hok⟩
      clear hu hc b3 hx
      by_cases he : x = s
      · have HX : Hid (lessL (l.take (k + 1)) s = lessL (l.take k) s) := by unfold Hid; rw [HT.out, if_pos he]; simp
        have hq : (x.toList == s.toList) = true := by rw [he]; simp
        clear he
        go_wp2_with fail
        go_roundw
        case rel => exact ⟨k + 1, by omega, by go_num, by rw [HX.out]; exact hown, hb⟩
        case measure => simp [intOf]; omega
      · have HX : Hid (lessL (l.take (k + 1)) s = lessL (l.take k) s ++ [x]) := by unfold Hid; rw [HT.out, if_neg he]
        have HL : Hid ((lessL (l.take k) s).length + [x].length ≤ Few) := by have := lessL_len (l.take k) s; unfold Hid Few; simp at this ⊢; omega
        have hq : (x.toList == s.toList) = false := by simp [bytes_inj]; exact he
        clear he
        go_wp2_with (at_builtin; go_loud ((with_reducible refine wpList_few rfl (.tmp 18) (.tmp 23) _ rfl eiStr (by decide) (by decide) (fun _ _ h => StE.one h) rfl (hown.alloc _) rfl (SlP.one (x := x) HK.out rfl _ rfl) HL.out (by rw [World.size_alloc]; omega) ?_); intro v1 w1 hown1 hb1 _; have hb2 := ((Below.refl w.heap.size wr).alloc (by omega) _).trans hb1))
        go_roundw
        case rel => exact ⟨k + 1, by omega, by go_num, by rw [HX.out]; exact hown1, hb.trans hb2⟩
        case measure => simp [intOf]; omega
    · obtain rfl : k = l.length := by omega
      rw [List.take_of_length_le (Nat.le_refl _)] at hown
      go_wp2_with fail
      go_ret
      exact ⟨_, rfl, hown, hb⟩

set_option maxHeartbeats 1000000 in
theorem indexStr_any (l : List ByteArray) (s : ByteArray) (v : Value) (w : World) (B : Nat) (h : SlP w B 1 StE v l) :
    Calls Tryz.prog 155 #[v, .string s] w fun e w' => e = .returned (.int .i64 (idxI (fun x => decide (s = x)) l)) ∧ w = w' := by
  obtain ⟨A, n, rfl, b1, b2, b3⟩ := h
  unfold Big at b2
  go_enter Tryz.func155, Tryz.ntmps155
  go_wp2_with fail
  go_loop [8] (fun i => ∃ k : Nat, k ≤ l.length ∧ i = .int .i64 k ∧ Hid (∀ (j : Nat) y, j < k → l[j]? = some y → (fun x => decide (s = x)) y = false)) (fun i => l.length - (intOf i).toNat)
  case atStart => exact ⟨0, Nat.zero_le _, rfl, fun j y hj => absurd hj (Nat.not_lt_zero _)⟩
  case round =>
    obtain ⟨k, hk, rfl, hrel⟩ := hrel
    by_cases hlt : k < l.length
    · obtain ⟨x, hx⟩ : ∃ x, l[k]? = some x := ⟨_, List.getElem?_eq_getElem hlt⟩
      obtain ⟨b, off, rfl, hbB, hc⟩ := b3 (by rintro rfl; simp at hlt)
      obtain ⟨cs, ⟨rfl, hok⟩, _, hu⟩ := hc k _ hx
      have e0 : w.cell? ⟨b, off + k, none⟩ = some (.string x) := by simpa using hu 0 _ rfl
      have HX := hid hx
      clear hu hc b3 hx
      by_cases he : s = x
      · have HQ : Hid ((fun x => decide (s = x)) x = true) := by unfold Hid; simpa using he
        have hq : (s.toList == x.toList) = true := by rw [he]; simp
        clear he
        go_wp2_with fail
        go_ret
        exact ⟨ret_int (idxI_hit hrel.out HX.out HQ.out).symm, rfl⟩
      · have HQ : Hid ((fun x => decide (s = x)) x = false) := by unfold Hid; simpa using he
        have hq : (s.toList == x.toList) = false := by simp [bytes_inj]; exact he
        clear he
        go_wp2_with fail
        go_round
        case rel =>
          refine ⟨k + 1, by omega, by go_num, fun j y hj hy => ?_⟩
          by_cases hjk : j = k
          · subst hjk; have h2 := HX.out; rw [hy] at h2; cases h2; exact HQ.out
          · exact hrel.out j y (by omega) hy
        case measure => simp [intOf]; omega
    · obtain rfl : k = l.length := by omega
      go_wp2_with fail
      go_ret
      exact ⟨ret_int (idxI_miss hrel.out).symm, rfl⟩
theorem containsStr_any (l : List ByteArray) (s : ByteArray) (v : Value) (w : World) (h : SlP w w.heap.size 1 StE v l) :
    Calls Tryz.prog 115 #[v, .string s] w fun e w' => e = .returned (.bool (l.any fun x => decide (s = x))) ∧ w = w' := by
  have hbd := idxI_bd (fun x => decide (s = x)) l
  have HA := hid (idxI_any (fun x => decide (s = x)) l)
  obtain ⟨A, n, rfl, b1, b2, b3⟩ := h
  unfold Big at b2
  go_enter Tryz.func115, Tryz.ntmps115
  go_wp2_with fail
  refine (indexStr_any l s _ w w.heap.size ⟨A, n, rfl, b1, by unfold Big; omega, b3⟩).mono ?_
  rintro e w1 ⟨rfl, rfl⟩
  go_wp2_with fail
  go_ret
  exact ⟨ret_bool HA.out, rfl⟩
/-- What set.Has tells. -/
def hasE (t : Tr) (s : ByteArray) : Bool := (elemsOf t).any fun x => decide (s = x)
theorem elemsOf_len (t : Tr) : (elemsOf t).length ≤ t.ks.length := by
  unfold elemsOf
  split
  · exact elL_len _
  · simp
theorem shasE_any (t : Tr) (s : ByteArray) (w : World) (ve vk : Value) (h : t.rd w w.heap.size ve vk) (hN : t.ks.length ≤ 900000) :
    Calls Tryz.prog 73 #[.agg #[ve, vk], .string s] w fun e w' => e = .returned (.bool (hasE t s)) ∧ Below w.heap.size w w' := by
  have HC : Hid (∀ w', Below w.heap.size w w' → t.rd w' w'.heap.size ve vk) := fun w' hb => rd_below hb hb.size _ _ _ h
  have hel := elemsOf_len t
  obtain ⟨A3, n3, A4, n4, rfl, rfl⟩ := rd_shape h
  clear h
  go_enter Tryz.func73, Tryz.ntmps73
  go_wp2_with fail
  refine (selems_any t _ _ _ (HC.out _ ((Below.refl _ w).alloc (Nat.le_refl _) _)) hN).mono ?_
  rintro e w1 ⟨v1, rfl, ho1, hb1⟩
  obtain ⟨A5, n5, rfl⟩ := ho1.shape
  have HS := hid (ho1.sl (by unfold Big; omega))
  clear ho1
  go_wp2_with fail
  refine (containsStr_any (elemsOf t) s _ w1 HS.out).mono ?_
  rintro e w2 ⟨rfl, rfl⟩
  go_wp2_with fail
  go_ret
  exact ⟨ret_bool rfl, ((Below.refl _ w).alloc (Nat.le_refl _) _).trans (hb1.mono (by simp))⟩
end Go.Proofs.YtkjijbogbelilaaGreat

namespace Go.Proofs.YtkjijbogbelilaaGreat
open Go.RowKit
set_option maxRecDepth 100000

/-- What the reference builds of one entry below one key. -/
theorem put_tree {s : ByteArray} (d : Dt) (hk : keyB s = true) : buildL [([s], ⟨d.dc, d.n, ByteArray.empty, 0⟩)] = .mk [] [(s, oneE d)] := by
  have ho : Tr.Ord (oneE d) := Ord.mk' (List.pairwise_singleton _ _) .nil fun _ _ h => by cases h
  have hO : Tr.Ord (.mk [] [(s, oneE d)]) := Ord.mk' .nil (List.pairwise_singleton _ _) fun k u hm => by
    rw [List.mem_singleton] at hm; cases hm; exact ⟨keyB_ne hk, rfl, ho⟩
  have := build_lvs hO
  simpa [Tr.lvs, Tr.lvsL, oneE] using this
def aB : ByteArray := ⟨#[97]⟩
theorem awk11_E : addE (.mk [] []) aB ⟨1, 1⟩ = 0 := by kernel_rfl
theorem awk11_T : addT (.mk [] []) aB ⟨1, 1⟩ = .mk [] [(aB, oneE ⟨1, 1⟩)] := by
  unfold addT; rw [awk11_E, if_pos rfl]
theorem awk11_C : addC (.mk [] []) aB ⟨1, 1⟩ = ctxBy [] [⟨1, 1, 1⟩] 0 := by kernel_rfl
theorem awk11_H : hasE (.mk [] [(aB, oneE ⟨1, 1⟩)]) aB = true := by kernel_rfl
set_option maxHeartbeats 4000000 in
theorem awake11_any (w : World) : Calls Tryz.prog 63 #[] w fun e w' => e = .returned (.bool true) ∧ Below w.heap.size w w' := by
  have hb0 := (Below.refl w.heap.size w).alloc (Nat.le_refl _) (.cells #[.int .i64 1, .int .i64 1] 42)
  go_enter Tryz.func63, Tryz.ntmps63
  go_wp2_with fail
  refine (sadd_any (.mk [] []) aB ⟨1, 1⟩ _ _ _ rd_empty (by decide) (by simp [Tr.sz, Tr.szL]) ⟨⟨by decide, by decide⟩, ⟨by decide, by decide⟩⟩).mono ?_
  rintro e w1 ⟨ve, vk, vc, rfl, hrd, hsc, hb1⟩
  rw [awk11_E]
  rw [awk11_T] at hrd
  rw [awk11_C] at hsc
  have hH := awk11_H
  have hP : buildL [([aB], ⟨1, 1, ByteArray.empty, 0⟩)] = .mk [] [(aB, oneE ⟨1, 1⟩)] := put_tree ⟨1, 1⟩ (by decide)
  have hkn : (Tr.mk [] [(aB, oneE ⟨1, 1⟩)]).ks.length ≤ 900000 := by decide
  generalize (Tr.mk [] [(aB, oneE ⟨1, 1⟩)] : Tr) = T at *
  generalize hC : ctxBy [] [(⟨1, 1, 1⟩ : Sp)] 0 = C at hsc
  obtain ⟨C', hC'⟩ : ∃ C', C' = C := ⟨_, rfl⟩
  have HSM : Hid ((trEq T (buildL [([aB], ⟨1, 1, ByteArray.empty, 0⟩)]) && decide (C = C')) = true) := by
    unfold Hid; rw [hP, hC']; simp [trEq]
  have HPC : Hid (ctxBy [] [(⟨1, 1, 1⟩ : Sp)] 0 = C') := hC.trans hC'.symm
  clear hC'
  have HV := hid hH
  have HAZ : Hid (aB.size ≤ Big) := by unfold Hid; decide
  clear hH hP hC
  obtain ⟨Ae, ne, Ak, nk, rfl, rfl⟩ := rda_shape hrd
  obtain ⟨Ac, nc, rfl⟩ := hsc.shape
  have hs1 := hb1.size
  simp only [World.size_alloc] at hs1
  have hB1 : Below w.heap.size w w1 := hb0.trans (hb1.mono (by simp))
  have d0 : w1.cell? ⟨w.heap.size, 0, none⟩ = some (.int .i64 1) := by rw [hb1.cell (p := ⟨w.heap.size, 0, none⟩) (by simp)]; simp
  have d1 : w1.cell? ⟨w.heap.size, 1, none⟩ = some (.int .i64 1) := by rw [hb1.cell (p := ⟨w.heap.size, 1, none⟩) (by simp)]; simp
  have HT : Hid (∀ w', Below w1.heap.size w1 w' → T.rd w' w'.heap.size (.slice Ae T.es.length ne) (.slice Ak T.ks.length nk)) := fun w' hb => rda_rd hrd (fun b hb => hb.2) hb
  have HCt : Hid (∀ w', Below w1.heap.size w1 w' → SlP w' w'.heap.size 3 SpE (.slice Ac C.length nc) C) := fun w' hb => hsc.slp (fun b hb => hb.2) hb
  have HB : Hid (∀ w', Below (w1.heap.size + 1) (w1.alloc (.cells #[.slice Ae T.es.length ne, .slice Ak T.ks.length nk, .slice Ac C.length nc] 29)) w' → Below w.heap.size w w' ∧ Below w1.heap.size w1 w' ∧ (w'.cell? ⟨w.heap.size, 0, none⟩ = some (.int .i64 1) ∧ w'.cell? ⟨w.heap.size, 1, none⟩ = some (.int .i64 1) ∧ w'.cell? ⟨w1.heap.size, 0, none⟩ = some (.slice Ae T.es.length ne) ∧ w'.cell? ⟨w1.heap.size, 1, none⟩ = some (.slice Ak T.ks.length nk) ∧ w'.cell? ⟨w1.heap.size, 2, none⟩ = some (.slice Ac C.length nc))) := fun w' hb => by
    have hB : Below w1.heap.size w1 w' := ((Below.refl _ w1).alloc (Nat.le_refl _) _).trans (hb.mono (by omega))
    refine ⟨hB1.trans (hB.mono (by omega)), hB, ?_, ?_, ?_, ?_, ?_⟩
    · rw [hB.cell (p := ⟨w.heap.size, 0, none⟩) (by show w.heap.size < _; omega)]; exact d0
    · rw [hB.cell (p := ⟨w.heap.size, 1, none⟩) (by show w.heap.size < _; omega)]; exact d1
    · rw [hb.cell (p := ⟨w1.heap.size, 0, none⟩) (by simp), World.cell?_alloc_new]; rfl
    · rw [hb.cell (p := ⟨w1.heap.size, 1, none⟩) (by simp), World.cell?_alloc_new]; rfl
    · rw [hb.cell (p := ⟨w1.heap.size, 2, none⟩) (by simp), World.cell?_alloc_new]; rfl
  have hne1 : w.heap.size < w1.heap.size := by omega
  clear hrd hsc
  go_upto_region 3 with (fail)
  go_region_held3 (fun w' => w'.cell? ⟨w.heap.size, 0, none⟩ = some (.int .i64 1) ∧ w'.cell? ⟨w.heap.size, 1, none⟩ = some (.int .i64 1) ∧ w'.cell? ⟨w1.heap.size, 0, none⟩ = some (.slice Ae T.es.length ne) ∧ w'.cell? ⟨w1.heap.size, 1, none⟩ = some (.slice Ak T.ks.length nk) ∧ w'.cell? ⟨w1.heap.size, 2, none⟩ = some (.slice Ac C.length nc))
    (first | go_keep | exact (HB.out _ hb4.out).2.2 | exact (HB.out _ hb3.out).2.2 | exact (HB.out _ hb2.out).2.2)
    (first | (go_at_call 73; go_loud ((refine (shasE_any T aB _ _ _ (HT.out _ (((Below.refl _ w1).alloc (Nat.le_refl _) _).drew)) hkn).mono ?_); rw [HV.out]; rintro e w2 ⟨rfl, hb⟩; have hb2 := hid (((Below.refl (w1.heap.size + 1) (w1.alloc (.cells #[.slice Ae T.es.length ne, .slice Ak T.ks.length nk, .slice Ac C.length nc] 29))).drew).trans (hb.mono (by simp))); have hs2 := hb2.out.size; simp only [World.size_alloc] at hs2))
           | (go_at_call 83; go_loud ((refine (r10put_any [aB] ⟨1, 1, ByteArray.empty, 0⟩ [] _ _ _ ⟨⟨by decide, by decide⟩, ⟨by decide, by decide⟩, ⟨by decide, by decide⟩, by simp [Big]⟩ (SlP.oneB (E := StE) (x := aB) (cs := [.string aB]) ⟨rfl, HAZ.out⟩ rfl _ rfl (by simp)) SlP.nil (by simp) (fun _ h => by cases h) (fun s hs => by simp at hs; subst hs; decide)).mono ?_); rw [HPC.out]; rintro e w3 ⟨ve3, vk3, vc3, rfl, hrd3, hsc3, hb⟩; obtain ⟨A5, n5, A6, n6, hv5, hv6⟩ := rda_shape hrd3; subst hv5; subst hv6; obtain ⟨A7, n7, hv7⟩ := hsc3.shape; subst hv7; have hrd4 := hid (rda_rd hrd3 (fun b hb => hb.2) (Below.refl _ _)); have hsc4 := hid (hsc3.slp (fun b hb => hb.2) (Below.refl _ _)); clear hrd3 hsc3; have hb3 := hid ((hb2.out.alloc hs2 _).trans (hb.mono (by rw [World.size_alloc]; omega)))))
           | (go_at_call 27; go_loud ((refine (r09same_any T _ C C' _ _ _ _ _ _ w3 (HT.out _ (HB.out _ hb3.out).2.1) hrd4.out (HCt.out _ (HB.out _ hb3.out).2.1) hsc4.out).mono ?_); rw [HSM.out]; rintro e w4 ⟨rfl, hb⟩; have hb4 := hid (hb3.out.trans (hb.mono (by have := hb3.out.size; simpa using this))))))
  go_wp2_with fail
  go_ret
  exact ⟨rfl, (HB.out _ hb4.out).1⟩
end Go.Proofs.YtkjijbogbelilaaGreat

namespace Go.Proofs.YtkjijbogbelilaaGreat
open Go.RowKit
set_option maxRecDepth 100000

theorem small14_any (t : Tr) (w : World) (ve vk : Value) (h : t.rd w w.heap.size ve vk) :
    Calls Tryz.prog 75 #[.agg #[ve, vk]] w fun e w' => e = .returned (.bool (smlB t 60)) ∧ Below w.heap.size w w' := by
  have HC : Hid (∀ w', Below w.heap.size w w' → t.rd w' w'.heap.size ve vk) := fun w' hb => rd_below hb hb.size _ _ _ h
  obtain ⟨A3, n3, A4, n4, rfl, rfl⟩ := rd_shape h
  have hb0 := (Below.refl w.heap.size w).alloc (Nat.le_refl _) (.cells #[.slice A3 t.es.length n3, .slice A4 t.ks.length n4] 25)
  clear h
  go_enter Tryz.func75, Tryz.ntmps75
  go_wp2_with fail
  refine (r08small_any t _ _ _ 60 (HC.out _ hb0) (by omega) (by omega)).mono ?_
  rintro e w1 ⟨rfl, hb1⟩
  rw [show decide (0 ≤ t.room 60 8) = smlB t 60 from rfl]
  go_wp2_with fail
  go_ret
  exact ⟨rfl, hb0.trans (hb1.mono (by simp))⟩
theorem ks_sz (t : Tr) : t.ks.length ≤ t.sz := by
  obtain ⟨es, ks⟩ := t
  have := szL_len ks
  rw [Tr.sz]; simp only [Tr.ks]; omega
end Go.Proofs.YtkjijbogbelilaaGreat

namespace Go.Proofs.YtkjijbogbelilaaGreat
open Go.RowKit
set_option maxRecDepth 100000

theorem small11_any (t : Tr) (w : World) (ve vk : Value) (h : t.rd w w.heap.size ve vk) :
    Calls Tryz.prog 64 #[.agg #[ve, vk]] w fun e w' => e = .returned (.bool (smlB t 60)) ∧ Below w.heap.size w w' := by
  have HC : Hid (∀ w', Below w.heap.size w w' → t.rd w' w'.heap.size ve vk) := fun w' hb => rd_below hb hb.size _ _ _ h
  obtain ⟨A3, n3, A4, n4, rfl, rfl⟩ := rd_shape h
  have hb0 := (Below.refl w.heap.size w).alloc (Nat.le_refl _) (.cells #[.slice A3 t.es.length n3, .slice A4 t.ks.length n4] 25)
  clear h
  go_enter Tryz.func64, Tryz.ntmps64
  go_wp2_with fail
  refine (r08small_any t _ _ _ 60 (HC.out _ hb0) (by omega) (by omega)).mono ?_
  rintro e w1 ⟨rfl, hb1⟩
  rw [show decide (0 ≤ t.room 60 8) = smlB t 60 from rfl]
  go_wp2_with fail
  go_ret
  exact ⟨rfl, hb0.trans (hb1.mono (by simp))⟩

theorem may_any (t : Tr) (s : ByteArray) (d : Dt) (ve vk : Value) (w : World) (h : t.rd w w.heap.size ve vk) (hN : t.sz ≤ 90000) :
    Calls Tryz.prog 65 #[.agg #[ve, vk], .string s, .agg #[.int .i64 d.dc, .int .i64 d.n]] w fun e w' => e = .returned (.bool (sckB t s d)) ∧ Below w.heap.size w w' := by
  have HC : Hid (∀ w', Below w.heap.size w w' → t.rd w' w'.heap.size ve vk) := fun w' hb => rd_below hb hb.size _ _ _ h
  obtain ⟨A3, n3, A4, n4, rfl, rfl⟩ := rd_shape h
  have hb0 := ((Below.refl w.heap.size w).alloc (Nat.le_refl _) (.cells #[.slice A3 t.es.length n3, .slice A4 t.ks.length n4] 25)).alloc (by simp) (.cells #[.int .i64 d.dc, .int .i64 d.n] 42)
  clear h
  go_enter Tryz.func65, Tryz.ntmps65
  go_wp2_with fail
  refine (r10check_any t d _ _ _ (HC.out _ hb0) hN).mono ?_
  rintro e w1 ⟨rfl, hb1⟩
  have hB1 : Below w.heap.size w w1 := hb0.trans (hb1.mono (by simp; omega))
  have hs1 := hB1.size
  cases hc : chkT t d
  · have HR : Hid (sckB t s d = false) := by unfold Hid sckB; rw [hc]; rfl
    clear hc
    go_wp2_with fail
    go_ret
    exact ⟨ret_bool HR.out.symm, hB1⟩
  · have HR : Hid (sckB t s d = keyB s) := by unfold Hid sckB; rw [hc]; rfl
    clear hc
    go_wp2_with fail
    refine (r08key_any s w1).mono ?_
    rintro e w2 ⟨rfl, hb2⟩
    go_wp2_with fail
    go_ret
    exact ⟨ret_bool HR.out.symm, hB1.trans (hb2.mono hs1)⟩

end Go.Proofs.YtkjijbogbelilaaGreat
