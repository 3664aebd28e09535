/- What the laws need, part 1: register.Write, tributaryref10.Own. No condition but that there are not too many entries. Plain law: the context of one dot more. No condition. slices.Sort and slices.Compact at texts: the library's contracts laid at this program. No condition. slices.Sort and slices.Compact at a list of texts of the call's own. No condition but that there are not too many. register.Values. No condition but that there are not too many. tributarylaw13.awake answers true. No condition. The law RegisterWrites answers true. No condition. -/
import Derived.Lib.RowBridge
import Derived.Shelf.Slices.CompactS
import Derived.Shelf.Slices.In.SortNone
import Derived.Shelf.Sort.Plain
import Derived.Sort.OwnSorted
import Derived.Test.YtdcmjmcipgadlaaGreatProg
import Derived.Test.YtdcmjmcipgadlaaGreatSf1
namespace Go.Proofs.YtdcmjmcipgadlaaGreat
open Go.RowKit
set_option maxRecDepth 100000

theorem OwnP.single {α : Type} {w : World} {base n sz : Nat} {e : TypeId} {E : α → List Value → Prop} {x : α} {cs : List Value} (hE : E x cs) (hl : cs.length = sz) (h : w.heap[n]? = some (.cells cs.toArray e (0, 0))) (hb : base ≤ n) : OwnP w base e sz E (.slice (some ⟨n, 0, none⟩) 1 1) [x] := by
  refine ⟨[cs], ⟨rfl, fun j y hy => ?_⟩, by simp [hl], .inr ⟨n, 1, cs.toArray, rfl, hb, h, Nat.le_refl _, by simp [maxLen], by simp [hl], by simp [List.take_of_length_le (Nat.le_of_eq hl)]⟩⟩
  match j, hy with
  | 0, hy => simp at hy; subst hy; exact ⟨cs, rfl, hE, hl⟩
/-- Entries' own dots. -/
def ownD (t : Tr) : List Dt := t.es.map En.dot
theorem ownD_right {t : Tr} (h : t.right 5 = true) : ∀ d ∈ ownD t, d.right = true := fun d hd => right_dots t 5 h d (by
  obtain ⟨es, ks⟩ := t
  rw [Tr.dots]; exact List.mem_append_left _ hd)
theorem ownD_len (t : Tr) : (ownD t).length ≤ t.sz := by
  obtain ⟨es, ks⟩ := t
  unfold ownD; rw [List.length_map, Tr.sz]; simp only [Tr.es]; omega
theorem r10own_any (t : Tr) (ve vk : Value) (w : World) (h : t.rd w w.heap.size ve vk) (hN : t.sz ≤ 90000) (hR : ∀ d ∈ ownD t, 0 ≤ d.n ∧ d.n ≤ 1099511627778) :
    Calls Tryz.prog 45 #[.agg #[ve, vk]] w (RetO w 79 3 (fun _ => SpE) (ctxOf (ownD t))) := by
  obtain ⟨es, ks⟩ := t
  have hsl := (rd_iff.1 h).1
  have hz : es.length ≤ 90000 := by rw [Tr.sz] at hN; omega
  have hD : (Tr.mk es []).dots = ownD (.mk es ks) := by unfold ownD; rw [Tr.dots, Tr.dotsL, List.append_nil]; rfl
  obtain ⟨A3, n3, A4, n4, rfl, rfl⟩ := rd_shape h
  have HE : Hid (∀ w', Below w.heap.size w w' → (Tr.mk es []).rd w' w'.heap.size (.slice A3 es.length n3) (.slice none 0 0)) := fun w' hb => rd_iff.2 ⟨hsl.imp hb hb.size fun _ _ _ h => h, SlP.nil⟩
  have HRR : Hid (∀ d ∈ (Tr.mk es []).dots, 0 ≤ d.n ∧ d.n ≤ 1099511627778) := by unfold Hid; rw [hD]; exact hR
  have hb0 : Below w.heap.size w (w.alloc (.cells #[.slice A3 (Tr.mk es ks).es.length n3, .slice A4 (Tr.mk es ks).ks.length n4] 25)) := (Below.refl _ w).alloc (Nat.le_refl _) _
  clear h hsl
  go_enter Tryz.func45, Tryz.ntmps45
  go_wp2_with fail
  refine (r08dots_any (.mk es []) _ _ _ (HE.out _ hb0) (by rw [Tr.sz, Tr.szL]; omega) HRR.out).mono ?_
  rw [hD]
  rintro e w1 ⟨v1, rfl, ho1, hb1⟩
  go_wp2_with fail
  go_ret
  exact ⟨_, rfl, ho1.mono (by simp), hb0.trans (hb1.mono (by simp))⟩

/-- May the text be written? -/
def wrtB (t : Tr) (s : ByteArray) (d : Dt) : Bool := chkT t d && decide (s.size ≤ 30)
def wrtE (t : Tr) (s : ByteArray) (d : Dt) : Int := if wrtB t s d then 0 else 1
def wrtT (t : Tr) (s : ByteArray) (d : Dt) : Tr := if wrtB t s d then .mk [⟨d.dc, d.n, s, 0⟩] [] else .mk [] []
def wrtC (t : Tr) (s : ByteArray) (d : Dt) : List Sp := if wrtB t s d then ctxOf (d :: ownD t) else []
theorem wrtEn {d : Dt} {s : ByteArray} (hd : d.Ok) (hs : s.size ≤ Big) : EnE (⟨d.dc, d.n, s, 0⟩ : En) [.int .i64 d.dc, .int .i64 d.n, .string s, .int .i64 0] := ⟨rfl, hd.dc, hd.n, ⟨by show (_ : Int) ≤ 0; decide, by show (0 : Int) ≤ _; decide⟩, hs⟩

set_option maxHeartbeats 4000000 in
theorem rwrite_any (t : Tr) (s : ByteArray) (d : Dt) (ve vk : Value) (w : World) (h : t.rd w w.heap.size ve vk) (hs : s.size ≤ Big) (hN : t.sz ≤ 4000) (hd : d.Ok) :
    Calls Tryz.prog 43 #[.agg #[ve, vk], .string s, .agg #[.int .i64 d.dc, .int .i64 d.n]] w (RetCE w (wrtT t s d) (wrtC t s d) (wrtE t s d)) := by
  have hsb : s.size ≤ 140737488355328 := hs
  have hol := ownD_len t
  have HSL : Hid (SlP w w.heap.size 4 EnE ve t.es) := by obtain ⟨es, ks⟩ := t; exact (rd_iff.1 h).1
  have HC : Hid (∀ w', Below w.heap.size w w' → t.rd w' w'.heap.size ve vk) := fun w' hb => rd_below hb hb.size _ _ _ h
  obtain ⟨A3, n3, A4, n4, rfl, rfl⟩ := rd_shape h
  have hb0 := (((Below.refl w.heap.size w).alloc (Nat.le_refl _) (.cells #[.slice A3 t.es.length n3, .slice A4 t.ks.length n4] 25)).alloc (by simp) (.cells #[.int .i64 d.dc, .int .i64 d.n] 47)).alloc (by simp; omega) (.cells #[.slice none 0 0, .slice none 0 0, .slice none 0 0] 29)
  clear h
  go_enter Tryz.func43, Tryz.ntmps43
  go_wp2_with fail
  refine (fcheck_any t d _ _ _ (HC.out _ hb0) (by omega)).mono ?_
  rintro e w1 ⟨rfl, hb1⟩
  have hs1 := hb1.size
  simp only [World.size_alloc] at hs1
  have hB1 : Below w.heap.size w w1 := hb0.trans (hb1.mono (by simp; omega))
  have c0 : w1.cell? ⟨w.heap.size, 0, none⟩ = some (.slice A3 t.es.length n3) := by
    rw [hb1.cell (p := ⟨w.heap.size, 0, none⟩) (by simp; omega)]
    rw [World.cell?_alloc_lt _ _ _ (by simp; omega), World.cell?_alloc_lt _ _ _ (by simp)]; simp
  have c1 : w1.cell? ⟨w.heap.size, 1, none⟩ = some (.slice A4 t.ks.length n4) := by
    rw [hb1.cell (p := ⟨w.heap.size, 1, none⟩) (by simp; omega)]
    rw [World.cell?_alloc_lt _ _ _ (by simp; omega), World.cell?_alloc_lt _ _ _ (by simp)]; simp
  have d0 : w1.cell? ⟨w.heap.size + 1, 0, none⟩ = some (.int .i64 d.dc) := by rw [hb1.cell (p := ⟨w.heap.size + 1, 0, none⟩) (by simp), World.cell?_alloc_lt _ _ _ (by simp)]; simp
  have d1 : w1.cell? ⟨w.heap.size + 1, 1, none⟩ = some (.int .i64 d.n) := by rw [hb1.cell (p := ⟨w.heap.size + 1, 1, none⟩) (by simp), World.cell?_alloc_lt _ _ _ (by simp)]; simp
  have hg : w1.heap[w.heap.size + 2]? = some (.cells #[.slice none 0 0, .slice none 0 0, .slice none 0 0] 29 (0, 0)) := (hb1.block (w.heap.size + 2) (by simp)).trans (heap_new (by simp))
  have HG := hid hg
  have k0 : w1.cell? ⟨w.heap.size + 2, 0, none⟩ = some (.slice none 0 0) := cell_cells (i := 0) hg
  have k1 : w1.cell? ⟨w.heap.size + 2, 1, none⟩ = some (.slice none 0 0) := cell_cells (i := 1) hg
  have k2 : w1.cell? ⟨w.heap.size + 2, 2, none⟩ = some (.slice none 0 0) := cell_cells (i := 2) hg
  have z0 := cells_frz (i := 0) hg
  have z1 := cells_frz (i := 1) hg
  have z2 := cells_frz (i := 2) hg
  clear hg hb1
  cases hc : chkT t d
  · have HI : Hid (chkI t d = 1) := by unfold Hid chkI; rw [hc]; rfl
    have HE : Hid (wrtE t s d = 1) := by unfold Hid wrtE wrtB; rw [hc]; rfl
    have HTT : Hid (wrtT t s d = .mk [] []) := by unfold Hid wrtT wrtB; rw [hc]; rfl
    have HCC : Hid (wrtC t s d = []) := by unfold Hid wrtC wrtB; rw [hc]; rfl
    rw [HI.out]
    clear hc
    go_wp2_with fail
    obtain ⟨r0, r1, r2, hK, hS⟩ := box3 HG.out (.slice none 0 0) (.slice none 0 0) (.slice none 0 0)
    have hBW := ((hB1.setCell (p := ⟨w.heap.size + 2, 0, none⟩) (by simp) (.slice none 0 0)).setCell (p := ⟨w.heap.size + 2, 1, none⟩) (by simp) (.slice none 0 0)).setCell (p := ⟨w.heap.size + 2, 2, none⟩) (by simp) (.slice none 0 0)
    refine bodyPost_ret (v := .tuple #[.agg #[.slice none 0 0, .slice none 0 0, .slice none 0 0], .int .i64 1]) (by simp [results, Tryz.results43, go_sem, r0, r1, r2]) rfl ⟨_, _, _, by rw [HE.out], by rw [HTT.out]; exact rda_nil _ _, by rw [HCC.out]; exact SlA.nil, hBW⟩
  have HI : Hid (chkI t d = 0) := by unfold Hid chkI; rw [hc]; rfl
  rw [HI.out]
  have h30 : decide ((30 : Int) < (s.size : Int)) = !decide (s.size ≤ 30) := by rw [Bool.eq_iff_iff]; simp; omega
  cases hz : decide (s.size ≤ 30)
  · have HE : Hid (wrtE t s d = 1) := by unfold Hid wrtE wrtB; rw [hc, hz]; rfl
    have HTT : Hid (wrtT t s d = .mk [] []) := by unfold Hid wrtT wrtB; rw [hc, hz]; rfl
    have HCC : Hid (wrtC t s d = []) := by unfold Hid wrtC wrtB; rw [hc, hz]; rfl
    rw [hz] at h30
    simp only [Bool.not_false] at h30
    clear hc hz
    go_wp2_with fail
    obtain ⟨r0, r1, r2, hK, hS⟩ := box3 HG.out (.slice none 0 0) (.slice none 0 0) (.slice none 0 0)
    have hBW := ((hB1.setCell (p := ⟨w.heap.size + 2, 0, none⟩) (by simp) (.slice none 0 0)).setCell (p := ⟨w.heap.size + 2, 1, none⟩) (by simp) (.slice none 0 0)).setCell (p := ⟨w.heap.size + 2, 2, none⟩) (by simp) (.slice none 0 0)
    refine bodyPost_ret (v := .tuple #[.agg #[.slice none 0 0, .slice none 0 0, .slice none 0 0], .int .i64 1]) (by simp [results, Tryz.results43, go_sem, r0, r1, r2]) rfl ⟨_, _, _, by rw [HE.out], by rw [HTT.out]; exact rda_nil _ _, by rw [HCC.out]; exact SlA.nil, hBW⟩
  rw [hz] at h30
  simp only [Bool.not_true] at h30
  have HE : Hid (wrtE t s d = 0) := by unfold Hid wrtE wrtB; rw [hc, hz]; rfl
  have HTT : Hid (wrtT t s d = .mk [⟨d.dc, d.n, s, 0⟩] []) := by unfold Hid wrtT wrtB; rw [hc, hz]; rfl
  have HCC : Hid (wrtC t s d = ctxOf (d :: ownD t)) := by unfold Hid wrtC wrtB; rw [hc, hz]; rfl
  have hdr := chkT_right hc
  have htr := chkT_tree hc
  have HRA : Hid (∀ x ∈ d :: ownD t, x.right = true) := fun x hx => by
    rcases List.mem_cons.1 hx with rfl | hx
    · exact hdr
    · exact ownD_right htr x hx
  clear hc hz hdr htr
  have HGB : Hid (∀ w', Below w1.heap.size w1 w' → w'.cell? ⟨w.heap.size + 1, 0, none⟩ = some (.int .i64 d.dc) ∧ w'.cell? ⟨w.heap.size + 1, 1, none⟩ = some (.int .i64 d.n) ∧ w'.heap[w.heap.size + 2]? = some (.cells #[.slice none 0 0, .slice none 0 0, .slice none 0 0] 29 (0, 0))) := fun w' hb =>
    ⟨(hb.cell (p := ⟨w.heap.size + 1, 0, none⟩) (by show w.heap.size + 1 < _; omega)).trans d0, (hb.cell (p := ⟨w.heap.size + 1, 1, none⟩) (by show w.heap.size + 1 < _; omega)).trans d1, (hb.block _ (by omega)).trans HG.out⟩
  have hlt0 : w.heap.size < w1.heap.size := by omega
  have hne0 : w.heap.size ≠ w1.heap.size := by omega
  have hne1 : w.heap.size + 1 ≠ w1.heap.size := by omega
  clear k0 k1 k2 z0 z1 z2
  have HW0 : Hid (OwnP (w1.alloc (.cells #[.int .i64 d.dc, .int .i64 d.n] 47)) w1.heap.size 47 2 DtE (.slice (some ⟨w1.heap.size, 0, none⟩) 1 1) [d]) := OwnP.single (x := d) (cs := [.int .i64 d.dc, .int .i64 d.n]) ⟨rfl, hd⟩ rfl (heap_new rfl) (Nat.le_refl _)
  have hel : t.es.length ≤ 4000 := by unfold ownD at hol; rw [List.length_map] at hol; omega
  go_wp2_with fail
  go_loopw [9, 30] (fun v i wr => ∃ k : Nat, k ≤ t.es.length ∧ i = .int .i64 k ∧ OwnP wr w1.heap.size 47 2 DtE v (d :: (t.es.take k).map En.dot) ∧ Below w1.heap.size w1 wr) (fun _ i _ => t.es.length - (intOf i).toNat)
  case atStart => exact ⟨0, Nat.zero_le _, rfl, HW0.out, (Below.refl _ w1).alloc (Nat.le_refl _) _⟩
  case round =>
    obtain ⟨k, hk, rfl, hown, hb⟩ := hrel
    have hsz := hb.size
    have hB0 : Below w.heap.size w wr := hB1.trans (hb.mono (by omega))
    by_cases hlt : k < t.es.length
    · obtain ⟨x, hx⟩ : ∃ x, t.es[k]? = some x := ⟨_, List.getElem?_eq_getElem hlt⟩
      obtain ⟨Ae, ne, hve, _, _, b3⟩ := HSL.out
      cases hve
      obtain ⟨b, off, rfl, hbB, hcc⟩ := b3 (by intro h0; rw [h0] at hlt; simp at hlt)
      obtain ⟨cs, ⟨rfl, hok⟩, _, hu⟩ := hcc k _ hx
      have e0 : wr.cell? ⟨b, off + k * 4, none⟩ = some (.int .i64 x.dc) := (hB0.cell hbB).trans (hu 0 _ rfl)
      have e1 : wr.cell? ⟨b, off + k * 4 + 1, none⟩ = some (.int .i64 x.n) := (hB0.cell hbB).trans (hu 1 _ rfl)
      have e2 : wr.cell? ⟨b, off + k * 4 + 2, none⟩ = some (.string x.s) := (hB0.cell hbB).trans (hu 2 _ rfl)
      have e3 : wr.cell? ⟨b, off + k * 4 + 3, none⟩ = some (.int .i64 x.v) := (hB0.cell hbB).trans (hu 3 _ rfl)
      have hdx : x.dot.Ok := ⟨hok.dc, hok.n⟩
      have HX : Hid (d :: (t.es.take (k + 1)).map En.dot = d :: (t.es.take k).map En.dot ++ [x.dot]) := by
        unfold Hid; rw [List.take_add_one, hx]; simp
      have HL : Hid ((d :: (t.es.take k).map En.dot).length + [x.dot].length ≤ Few) := by unfold Hid Few; simp; omega
      have HBW : Hid (w1.heap.size ≤ wr.heap.size + 1 + 1) := by unfold Hid; omega
      clear hu hcc b3 hx hok c0 c1 d0 d1
      go_wp2_with (at_builtin; go_loud (refine wpList_few rfl (.tmp 34) (.tmp 37) _ rfl eiDot (by decide) (by decide) (fun _ _ h => h.one) rfl ((hown.alloc _).alloc _) rfl (SlP.one (x := x.dot) (cs := [.int .i64 x.dc, .int .i64 x.n]) ⟨rfl, hdx⟩ rfl _ (World.size_alloc _ _).symm) HL.out (by rw [World.size_alloc, World.size_alloc]; exact HBW.out) ?_); intro v1 w2 hown1 hb1 _)
      go_roundw
      case rel =>
        refine ⟨k + 1, by omega, by go_num, by rw [HX.out]; exact hown1, ((hb.alloc (by omega) _).alloc (by simp; omega) _).trans hb1⟩
      case measure => simp [intOf]; omega
    · obtain rfl : k = t.es.length := by omega
      rw [List.take_of_length_le (Nat.le_refl _)] at hown
      have hown : OwnP wr w1.heap.size 47 2 DtE _ (d :: ownD t) := hown
      have HO := hid (hown.sl (by unfold Big; simp; omega))
      clear hown c0 c1 d0 d1
      go_wp2_with fail
      refine (cof_any (d :: ownD t) _ wr HO.out HRA.out (by simp; omega)).mono ?_
      rintro e w2 ⟨v2, rfl, ho2, hb2⟩
      obtain ⟨A5, c5, rfl⟩ := ho2.shape
      have hs2 := hb2.size
      have hB2 : Below w1.heap.size w1 w2 := hb.trans (hb2.mono (by omega))
      obtain ⟨d0, d1, g6⟩ := HGB.out w2 hB2
      have HG2 := hid g6
      have k0 : w2.cell? ⟨w.heap.size + 2, 0, none⟩ = some (.slice none 0 0) := cell_cells (i := 0) g6
      have k1 : w2.cell? ⟨w.heap.size + 2, 1, none⟩ = some (.slice none 0 0) := cell_cells (i := 1) g6
      have k2 : w2.cell? ⟨w.heap.size + 2, 2, none⟩ = some (.slice none 0 0) := cell_cells (i := 2) g6
      have z0 := cells_frz (i := 0) g6
      have z1 := cells_frz (i := 1) g6
      have z2 := cells_frz (i := 2) g6
      have HO2 := hid ho2
      have hcl := ctxOf_len (d :: ownD t)
      have hlt2 : w.heap.size + 2 < w2.heap.size := by omega
      have hne2 : w.heap.size + 2 ≠ w2.heap.size := by omega
      clear g6 ho2
      generalize ctxOf (d :: ownD t) = C at *
      go_wp2_with fail
      obtain ⟨r0, r1, r2, hK, hS⟩ := box3 HG2.out (.slice (some ⟨w2.heap.size, 0, none⟩) 1 1) (.slice none 0 0) (.slice A5 C.length c5)
      have hBW : Below w.heap.size w (((w2.setCell ⟨w.heap.size + 2, 0, none⟩ (.slice (some ⟨w2.heap.size, 0, none⟩) 1 1)).setCell ⟨w.heap.size + 2, 1, none⟩ (.slice none 0 0)).setCell ⟨w.heap.size + 2, 2, none⟩ (.slice A5 C.length c5)) := (((hB1.trans (hB2.mono (by omega))).setCell (by simp) _).setCell (by simp) _).setCell (by simp) _
      clear k0 k1 k2 z0 z1 z2
      generalize (((w2.setCell ⟨w.heap.size + 2, 0, none⟩ (.slice (some ⟨w2.heap.size, 0, none⟩) 1 1)).setCell ⟨w.heap.size + 2, 1, none⟩ (.slice none 0 0)).setCell ⟨w.heap.size + 2, 2, none⟩ (.slice A5 C.length c5)) = W at *
      have q0 : (W.alloc (.cells #[.int .i64 d.dc, .int .i64 d.n, .string s, .int .i64 0] 56)).cell? ⟨w.heap.size + 1 + 1, 0, none⟩ = some (.slice (some ⟨w2.heap.size, 0, none⟩) 1 1) := by rw [World.cell?_alloc_lt _ _ _ (by show w.heap.size + 2 < _; omega)]; exact r0
      have q1 : (W.alloc (.cells #[.int .i64 d.dc, .int .i64 d.n, .string s, .int .i64 0] 56)).cell? ⟨w.heap.size + 1 + 1, 1, none⟩ = some (.slice none 0 0) := by rw [World.cell?_alloc_lt _ _ _ (by show w.heap.size + 2 < _; omega)]; exact r1
      have q2 : (W.alloc (.cells #[.int .i64 d.dc, .int .i64 d.n, .string s, .int .i64 0] 56)).cell? ⟨w.heap.size + 1 + 1, 2, none⟩ = some (.slice A5 C.length c5) := by rw [World.cell?_alloc_lt _ _ _ (by show w.heap.size + 2 < _; omega)]; exact r2
      refine bodyPost_ret (v := .tuple #[.agg #[.slice (some ⟨w2.heap.size, 0, none⟩) 1 1, .slice none 0 0, .slice A5 C.length c5], .int .i64 0]) (by simp [results, Tryz.results43, go_sem, q0, q1, q2]) rfl ⟨_, _, _, by rw [HE.out], ?_, ?_, hBW.alloc (by omega) _⟩
      · rw [HTT.out, rda_iff]
        refine ⟨?_, SlA.nil⟩
        exact SlA.one (x := (⟨d.dc, d.n, s, 0⟩ : En)) (cs := [.int .i64 d.dc, .int .i64 d.n, .string s, .int .i64 0]) (e := 56) (z := (0, 0)) (wrtEn hd hs) rfl (heap_new hS.symm) ⟨by omega, by rw [World.size_alloc]; omega⟩
      · rw [HCC.out]
        refine (HO2.out.sla (by unfold Big; simp at hcl; omega)).up (fun b hb => (heap_old (by have := hb.2.1; omega)).trans (hK b (by have := hb.1; omega))) (fun b hb => ⟨by have := hb.1; omega, by rw [World.size_alloc]; have := hb.2.1; omega⟩) (fun _ _ _ h => h)
end Go.Proofs.YtdcmjmcipgadlaaGreat

namespace Go.Proofs.YtdcmjmcipgadlaaGreat
open Go.RowKit
set_option maxRecDepth 100000

theorem ctx_add {d : Dt} {l : List Dt} (hd : d.right = true) (hl : ∀ x ∈ l, x.right = true) : ctxOf (d :: l) = ctxBy (ctxOf l) [⟨d.dc, d.n, d.n⟩] 0 := by
  rw [ctxOf_whole, ctxBy_whole]
  refine whole_eq fun i hi => ?_
  rw [part_ctxOf l hi]
  have hb := (right_bd hd).2
  have hda : ∀ x ∈ d :: l, x.right = true := fun x hx => by
    rcases List.mem_cons.1 hx with rfl | hx
    · exact hd
    · exact hl x hx
  obtain ⟨a1, a2⟩ := ofL_right (nums_ok hda (i : Int))
  obtain ⟨b1, b2⟩ := ofL_right (nums_ok hl (i : Int))
  have hp : ∀ r ∈ partL [(⟨d.dc, d.n, d.n⟩ : Sp)] (i : Int), runOk r := fun r hr => by
    unfold partL at hr
    obtain ⟨s, hs, rfl⟩ := List.mem_map.1 hr
    have := (List.mem_filter.1 hs).1
    simp at this; subst this
    exact ⟨hb.1, Int.le_refl _, hb.2⟩
  obtain ⟨c1, c2⟩ := byL_right (a := ofL (numsL l (i : Int))) (b := partL [(⟨d.dc, d.n, d.n⟩ : Sp)] (i : Int)) 0 (runs_ok _ none b1) hp
  refine runs_eq _ _ none none a1 c1 fun n => ?_
  rw [c2, Bool.eq_iff_iff, a2]
  have hn : (hasL (ofL (numsL l (i : Int))) n = true) ↔ n ∈ numsL l (i : Int) := b2 n
  simp only [inn, if_neg (show ¬ ((0 : Int) = 2) by decide), if_neg (show ¬ ((0 : Int) = 1) by decide), Bool.or_eq_true, hn]
  by_cases e : d.dc = (i : Int)
  · have h1 : numsL (d :: l) (i : Int) = d.n :: numsL l (i : Int) := by simp [numsL, e]
    have h2 : partL [(⟨d.dc, d.n, d.n⟩ : Sp)] (i : Int) = [(d.n, d.n)] := by simp [partL, e]
    rw [h1, h2, List.mem_cons]
    simp [hasL, inR]
    constructor
    · rintro (h | h)
      · exact .inr ⟨by omega, by omega⟩
      · exact .inl h
    · rintro (h | ⟨h, k⟩)
      · exact .inr h
      · exact .inl (by omega)
  · have h1 : numsL (d :: l) (i : Int) = numsL l (i : Int) := by simp [numsL, e]
    have h2 : partL [(⟨d.dc, d.n, d.n⟩ : Sp)] (i : Int) = [] := by simp [partL, e]
    rw [h1, h2]; simp [hasL]
end Go.Proofs.YtdcmjmcipgadlaaGreat

namespace Go.Proofs
open Go.Shelf
def Tryz.sortStr_ren : Go.Shelf.Ren := ⟨fun | 190 => 126 | 125 => 151 | 258 => 150 | 128 => 176 | 129 => 177 | 302 => 167 | 303 => 168 | 304 => 169 | 305 => 170 | 306 => 171 | 307 => 172 | 308 => 173 | 309 => 174 | 310 => 175 | 333 => 194 | 329 => 195 | 330 => 196 | 334 => 197 | 335 => 198 | 336 => 199 | 344 => 204 | n => n, fun | 31 => 44 | 9 => 9 | 3 => 3 | 46 => 155 | 0 => 0 | 51 => 180 | 53 => 182 | 4 => 4 | 183 => 172 | 182 => 171 | 131 => 177 | 5 => 5 | 218 => 197 | 222 => 201 | 228 => 207 | 229 => 208 | n => n, fun | n => n⟩
theorem Tryz.sortStr : Go.Proofs.Lays.n190 Tryz.prog Tryz.sortStr_ren := {
  mixed := by kernel_rfl
  f125 := Tryz.func151.trans (congrArg some (by kernel_rfl))
  f128 := Tryz.func176.trans (congrArg some (by kernel_rfl))
  f129 := Tryz.func177.trans (congrArg some (by kernel_rfl))
  f190 := Tryz.func126.trans (congrArg some (by kernel_rfl))
  f258 := Tryz.func150.trans (congrArg some (by kernel_rfl))
  f302 := Tryz.func167.trans (congrArg some (by kernel_rfl))
  f303 := Tryz.func168.trans (congrArg some (by kernel_rfl))
  f304 := Tryz.func169.trans (congrArg some (by kernel_rfl))
  f305 := Tryz.func170.trans (congrArg some (by kernel_rfl))
  f306 := Tryz.func171.trans (congrArg some (by kernel_rfl))
  f307 := Tryz.func172.trans (congrArg some (by kernel_rfl))
  f308 := Tryz.func173.trans (congrArg some (by kernel_rfl))
  f309 := Tryz.func174.trans (congrArg some (by kernel_rfl))
  f310 := Tryz.func175.trans (congrArg some (by kernel_rfl))
  f329 := Tryz.func195.trans (congrArg some (by kernel_rfl))
  f330 := Tryz.func196.trans (congrArg some (by kernel_rfl))
  f333 := Tryz.func194.trans (congrArg some (by kernel_rfl))
  f334 := Tryz.func197.trans (congrArg some (by kernel_rfl))
  f335 := Tryz.func198.trans (congrArg some (by kernel_rfl))
  f336 := Tryz.func199.trans (congrArg some (by kernel_rfl))
  f344 := Tryz.func204.trans (congrArg some (by kernel_rfl))
  t0 := Tryz.underlying0
  a0 := Tryz.isAgg0
  z0 := Tryz.sizeOf0
  v0 := Tryz.zeroValue0
  t3 := Tryz.underlying3
  a3 := Tryz.isAgg3
  z3 := Tryz.sizeOf3
  v3 := Tryz.zeroValue3
  t4 := Tryz.underlying4
  a4 := Tryz.isAgg4
  z4 := Tryz.sizeOf4
  v4 := Tryz.zeroValue4
  t5 := Tryz.underlying5
  a5 := Tryz.isAgg5
  z5 := Tryz.sizeOf5
  v5 := Tryz.zeroValue5
  t9 := Tryz.underlying9
  a9 := Tryz.isAgg9
  z9 := Tryz.sizeOf9
  v9 := Tryz.zeroValue9
  t31 := Tryz.underlying44
  a31 := Tryz.isAgg44
  z31 := Tryz.sizeOf44
  v31 := Tryz.zeroValue44
  t46 := Tryz.underlying155
  a46 := Tryz.isAgg155
  z46 := Tryz.sizeOf155
  v46 := Tryz.zeroValue155
  t51 := Tryz.underlying180
  a51 := Tryz.isAgg180
  z51 := Tryz.sizeOf180
  v51 := Tryz.zeroValue180
  t53 := Tryz.underlying182
  a53 := Tryz.isAgg182
  z53 := Tryz.sizeOf182
  v53 := Tryz.zeroValue182
  t131 := Tryz.underlying177
  a131 := Tryz.isAgg177
  z131 := Tryz.sizeOf177
  v131 := Tryz.zeroValue177
  t182 := Tryz.underlying171
  a182 := Tryz.isAgg171
  z182 := Tryz.sizeOf171
  v182 := Tryz.zeroValue171
  t183 := Tryz.underlying172
  a183 := Tryz.isAgg172
  z183 := Tryz.sizeOf172
  v183 := Tryz.zeroValue172
  t218 := Tryz.underlying197
  a218 := Tryz.isAgg197
  z218 := Tryz.sizeOf197
  v218 := Tryz.zeroValue197
  t222 := Tryz.underlying201
  a222 := Tryz.isAgg201
  z222 := Tryz.sizeOf201
  v222 := Tryz.zeroValue201
  t228 := Tryz.underlying207
  a228 := Tryz.isAgg207
  z228 := Tryz.sizeOf207
  v228 := Tryz.zeroValue207
  t229 := Tryz.underlying208
  a229 := Tryz.isAgg208
  z229 := Tryz.sizeOf208
  v229 := Tryz.zeroValue208 }
def Tryz.compactStr_ren : Go.Shelf.Ren := ⟨fun | 194 => 127 | n => n, fun | 31 => 44 | 9 => 9 | 3 => 3 | 4 => 4 | 0 => 0 | n => n, fun | n => n⟩
theorem Tryz.compactStr : Go.Proofs.Lays.n194 Tryz.prog Tryz.compactStr_ren := {
  mixed := by kernel_rfl
  f194 := Tryz.func127.trans (congrArg some (by kernel_rfl))
  t0 := Tryz.underlying0
  a0 := Tryz.isAgg0
  z0 := Tryz.sizeOf0
  v0 := Tryz.zeroValue0
  t3 := Tryz.underlying3
  a3 := Tryz.isAgg3
  z3 := Tryz.sizeOf3
  v3 := Tryz.zeroValue3
  t4 := Tryz.underlying4
  a4 := Tryz.isAgg4
  z4 := Tryz.sizeOf4
  v4 := Tryz.zeroValue4
  t9 := Tryz.underlying9
  a9 := Tryz.isAgg9
  z9 := Tryz.sizeOf9
  v9 := Tryz.zeroValue9
  t31 := Tryz.underlying44
  a31 := Tryz.isAgg44
  z31 := Tryz.sizeOf44
  v31 := Tryz.zeroValue44 }
end Go.Proofs

namespace Go.Proofs.YtdcmjmcipgadlaaGreat
open Go.RowKit Go.Sort
set_option maxRecDepth 100000

def toBy (s : ByteArray) : List UInt8 := s.data.toList
def ofBy (l : List UInt8) : ByteArray := ⟨l.toArray⟩
theorem ofBy_toBy (s : ByteArray) : ofBy (toBy s) = s := rfl
theorem toBy_ofBy (l : List UInt8) : toBy (ofBy l) = l := rfl
theorem map_of_to (ds : List ByteArray) : (ds.map toBy).map ofBy = ds := by
  rw [List.map_map]
  conv => rhs; rw [← List.map_id ds]
  rfl
theorem map_to_of (ds : List (List UInt8)) : (ds.map ofBy).map toBy = ds := by
  rw [List.map_map]
  conv => rhs; rw [← List.map_id ds]
  rfl
/-- Texts, in order. -/
def srtL (ds : List ByteArray) : List ByteArray := ((ds.map toBy).mergeSort fun x y => decide (x ≤ y)).map ofBy
/-- Texts, neighbours that are the same once. -/
def cmpL (ds : List ByteArray) : List ByteArray := (Lib.compact (ds.map toBy)).map ofBy
theorem flat_one {α : Type} (f : α → Value) (l : List α) : (l.map fun x => [f x]).flatten = l.map f := by
  induction l with
  | nil => rfl
  | cons x l ih => simp [ih]
theorem own_strs {w : World} {base : Nat} {e : TypeId} {v : Value} {ds : List ByteArray} (h : OwnP w base e 1 StE v ds) : (v = .slice none 0 0 ∧ ds = []) ∨
    ∃ b cap cur, v = .slice (some ⟨b, 0, none⟩) ds.length cap ∧ base ≤ b ∧ w.heap[b]? = some (.cells cur e (0, 0)) ∧ ds.length ≤ cap ∧ cap ≤ maxLen ∧ cur.size = cap * 1 ∧ cur.toList.take (ds.map toBy).length = (ds.map toBy).map encStr ∧ ∀ x ∈ ds, x.size ≤ Big := by
  obtain ⟨css, h1, h2, h3⟩ := h
  rcases h3 with ⟨rfl, hn⟩ | ⟨b, cap, cur, rfl, hb, hg, hnc, hm, hcs, ht⟩
  · exact .inl ⟨rfl, List.eq_nil_of_length_eq_zero hn⟩
  · refine .inr ⟨b, cap, cur, rfl, hb, hg, hnc, hm, hcs, ?_, fun x hx => ?_⟩
    · have hcss : css = ds.map fun x => [Value.string x] := by
        apply List.ext_getElem?
        intro j
        by_cases hj : j < ds.length
        · obtain ⟨cs, hcs, ⟨hcv, _⟩, _⟩ := h1.2 j ds[j] (List.getElem?_eq_getElem hj)
          rw [hcs, List.getElem?_map, List.getElem?_eq_getElem hj, hcv]; rfl
        · rw [List.getElem?_eq_none (by rw [h1.1]; omega), List.getElem?_eq_none (by simp; omega)]
      rw [Nat.mul_one, hcss, flat_one] at ht
      rw [List.length_map, ht, List.map_map]
      rfl
    · obtain ⟨j, hj⟩ := List.getElem?_of_mem hx
      obtain ⟨cs, _, ⟨_, hr⟩, _⟩ := h1.2 j x hj
      exact hr
theorem own_of {w : World} {base : Nat} {e : TypeId} {v : Value} {ts : List (List UInt8)} (h : w.ownsRow base e 1 v ts.length (ts.map encStr)) (hs : ∀ x ∈ ts, (ofBy x).size ≤ Big) : OwnP w base e 1 StE v (ts.map ofBy) := by
  refine ⟨ts.map fun l => [encStr l], ⟨by simp, fun j x hx => ?_⟩, ?_⟩
  · rw [List.getElem?_map] at hx
    obtain ⟨y, hy, rfl⟩ := Option.map_eq_some_iff.1 hx
    exact ⟨[encStr y], by rw [List.getElem?_map, hy]; rfl, ⟨rfl, hs y (List.mem_of_getElem? hy)⟩, rfl⟩
  · rw [flat_one, List.length_map]; exact h

theorem sortStr_any (ds : List ByteArray) (v : Value) (w : World) (base : Nat) (h : OwnP w base 9 1 StE v ds) (hl : ds.length ≤ 900000) (hbase : base ≤ w.heap.size) :
    Calls Tryz.prog 126 #[v] w fun e w' => e = .returned (.tuple #[]) ∧ OwnP w' base 9 1 StE v (srtL ds) ∧ Below base w w' := by
  rcases own_strs h with ⟨rfl, rfl⟩ | ⟨b, cap, cur, rfl, hb, hg, hnc, hm, hcs, ht, hz⟩
  · refine (Any.slices_Sort_string_none Tryz.sortStr none 0 w).mono ?_
    rintro e w' ⟨rfl, rfl⟩
    exact ⟨rfl, by simpa [srtL] using OwnP.nil, Below.refl _ _⟩
  · have hlt : b < w.heap.size := (Array.getElem?_eq_some_iff.1 hg).1
    have hH : Holds encStr w b 0 (ds.map toBy).toArray := holds_of_block hg ht
    have hcon := Any.slices_Sort_string Tryz.sortStr b 0 cap (ds.map toBy) w hH hlt (by rw [List.length_map]; omega)
    rw [List.length_map] at hcon
    refine Calls.mono hcon ?_
    rintro e w' ⟨rfl, n, os, rfl⟩
    have hp : ((ds.map toBy).mergeSort fun x y => decide (x ≤ y)).Perm (ds.map toBy) := List.mergeSort_perm _ _
    have hrow := ownsRow_sorted (n := n) (os := os) (ss := ds.map toBy) (ts := (ds.map toBy).mergeSort fun x y => decide (x ≤ y)) hp.length_eq hb hg (by rw [List.length_map]; exact hnc) hm hcs
    rw [← hp.length_eq] at hrow
    refine ⟨rfl, ?_, (Below.refl base w).grown (grownBy_sorted _) hbase (fun g hg => by cases hg; exact hb)⟩
    have hlen : ((ds.map toBy).mergeSort fun x y => decide (x ≤ y)).length = ds.length := by rw [hp.length_eq, List.length_map]
    have := own_of hrow (fun x hx => by
      obtain ⟨y, hy, rfl⟩ := List.mem_map.1 (hp.subset hx)
      exact hz y hy)
    rw [hlen] at this
    exact this

theorem compactStr_any (ds : List ByteArray) (v : Value) (w : World) (base : Nat) (h : OwnP w base 9 1 StE v ds) (hl : ds.length ≤ 900000) (hbase : base ≤ w.heap.size) :
    Calls Tryz.prog 127 #[v] w fun e w' => ∃ v', e = .returned v' ∧ OwnP w' base 9 1 StE v' (cmpL ds) ∧ Below base w w' := by
  rcases own_strs h with ⟨rfl, rfl⟩ | ⟨b, cap, cur, rfl, hb, hg, hnc, hm, hcs, ht, hz⟩
  · refine (Any.slices_Compact_string_empty Tryz.compactStr none 0 w).mono ?_
    rintro e w' ⟨rfl, rfl⟩
    exact ⟨_, rfl, by simpa [cmpL, Lib.compact, Lib.compactUpTo] using OwnP.nil, Below.refl _ _⟩
  · have hlt : b < w.heap.size := (Array.getElem?_eq_some_iff.1 hg).1
    have hH : Holds encStr w b 0 (ds.map toBy).toArray := holds_of_block hg ht
    have hcon := Any.slices_Compact_string Tryz.compactStr b 0 cap (ds.map toBy) w hH (by rw [List.length_map]; omega) (by rw [List.length_map]; exact hnc)
    rw [List.length_map] at hcon
    refine Calls.mono hcon ?_
    rintro e w' ⟨rfl, n, rfl⟩
    have hcl := Lib.compact_length_le (ds.map toBy)
    rw [List.length_map] at hcl
    have hm2 : ∀ x ∈ Lib.compact (ds.map toBy), x ∈ ds.map toBy := fun x hx => by
      unfold Lib.compact Lib.compactUpTo at hx
      obtain ⟨j, hj, rfl⟩ := List.mem_map.1 hx
      have hj' : j < (ds.map toBy).length := List.mem_range.1 (List.mem_filter.1 hj).1
      rw [getElem!_pos _ j (by simpa using hj')]
      simpa using List.getElem_mem hj'
    have hcm : cmpL ds = (Lib.compact (ds.map toBy)).map ofBy := rfl
    rw [hcm]
    generalize Lib.compact (ds.map toBy) = ts at hcl hm2 ⊢
    refine ⟨_, rfl, ?_, ?_⟩
    · have hF : (ts ++ List.replicate (ds.length - ts.length) []).length = ds.length := by simp; omega
      have htk := take_putCells cur (ts ++ List.replicate (ds.length - ts.length) []) (by rw [hF, hcs]; omega)
      have hheap : (putRow encStr (Sort.ahead w n) b 0 (ts ++ List.replicate (ds.length - ts.length) []).toArray).heap[b]? = some (.cells (putCells encStr 0 (ts ++ List.replicate (ds.length - ts.length) []).toArray cur) 9 (0, 0)) := by
        simp [putRow, mapBlock, Sort.ahead, Array.getElem?_modify, hg, onCells]
      refine own_of (v := .slice (some ⟨b, 0, none⟩) ts.length cap) ⟨by simp, .inr ⟨b, cap, _, rfl, hb, hheap, by omega, hm, by simp [putCells, hcs], ?_⟩⟩ (fun x hx => by
        obtain ⟨y, hy, rfl⟩ := List.mem_map.1 (hm2 x hx)
        exact hz y hy)
      have := congrArg (List.take ts.length) htk
      rw [List.take_take, hF, Nat.min_eq_left hcl, ← List.map_take, List.take_left] at this
      rw [Nat.mul_one]; exact this
    · refine (Below.refl base w).grown (w' := putRow encStr (Sort.ahead w n) b 0 (ts ++ List.replicate (ds.length - ts.length) []).toArray) (row := some b) ⟨rfl, rfl, rfl, by simp, fun k hk hne => ?_⟩ hbase (fun g hg => by cases hg; exact hb)
      have : b ≠ k := fun e => hne (by rw [e])
      simp [putRow, mapBlock, Sort.ahead, Array.getElem?_modify, this]
end Go.Proofs.YtdcmjmcipgadlaaGreat

namespace Go.Proofs.YtdcmjmcipgadlaaGreat
open Go.RowKit
set_option maxRecDepth 100000

/-- The texts of a tree's own entries. -/
def txtL (t : Tr) : List ByteArray := t.es.map (·.s)
/-- What register.Values tells. -/
def valsOf (t : Tr) : List ByteArray := cmpL (srtL (if t.right 5 then txtL t else []))
theorem srtL_len (l : List ByteArray) : (srtL l).length = l.length := by unfold srtL; rw [List.length_map, (List.mergeSort_perm _ _).length_eq, List.length_map]
set_option maxHeartbeats 4000000 in
theorem rvals_any (t : Tr) (w : World) (ve vk : Value) (h : t.rd w w.heap.size ve vk) (hN : t.es.length ≤ 900000) :
    Calls Tryz.prog 92 #[.agg #[ve, vk]] w (RetO w 9 1 (fun _ => StE) (valsOf t)) := by
  have HC : Hid (∀ w', Below w.heap.size w w' → t.rd w' w'.heap.size ve vk) := fun w' hb => rd_below hb hb.size _ _ _ h
  have HK0 : Hid (valsOf t = cmpL (srtL (if t.right 5 then t.es.map (·.s) else []))) := rfl
  obtain ⟨es, ks⟩ := t
  rw [rd_iff] at h
  obtain ⟨⟨A, m, rfl, c1, c2, c3⟩, ⟨A0, n0, rfl, d1, d2, d3⟩⟩ := h
  unfold Big at c2 d2
  simp only [Tr.es] at hN HK0 ⊢
  have hb0 : Below w.heap.size w (w.alloc (.cells #[.slice A es.length m, .slice A0 ks.length n0] 25)) := (Below.refl _ w).alloc (Nat.le_refl _) _
  go_enter Tryz.func92, Tryz.ntmps92
  go_wp2_with fail
  refine (tRight_any _ _ _ _ (HC.out _ hb0)).mono ?_
  rintro e w1 ⟨rfl, hb1⟩
  have hs1 := hb1.size
  simp only [World.size_alloc] at hs1
  have hB1 : Below w.heap.size w w1 := hb0.trans (hb1.mono (by simp))
  have b0 : w1.cell? ⟨w.heap.size, 0, none⟩ = some (.slice A es.length m) := by rw [hb1.cell (p := ⟨w.heap.size, 0, none⟩) (by simp)]; simp
  cases hr : (Tr.mk es ks).right 5
  · have HK1 : Hid (valsOf (.mk es ks) = cmpL (srtL [])) := by unfold Hid; rw [HK0.out, hr]; rfl
    obtain ⟨L, hL⟩ : ∃ L : List ByteArray, L = [] := ⟨_, rfl⟩
    have HK : Hid (valsOf (.mk es ks) = cmpL (srtL L)) := by unfold Hid; rw [hL]; exact HK1.out
    have hLl : L.length ≤ 900000 := by rw [hL]; simp
    obtain ⟨wr, hwr⟩ : ∃ wr, wr = w1 := ⟨_, rfl⟩
    subst hwr
    have hown : OwnP wr (w.heap.size + 1) 9 1 StE (.slice none 0 0) L := by rw [hL]; exact OwnP.nil
    have hB0 := hB1
    clear hr hL
    go_wp2_with fail
    refine (sortStr_any L _ wr (w.heap.size + 1) hown hLl (by omega)).mono ?_
    rintro e w2 ⟨rfl, ho2, hb2⟩
    have hs2 := hb2.size
    have hll := srtL_len L
    go_wp2_with fail
    refine (compactStr_any (srtL L) _ w2 (w.heap.size + 1) ho2 (by omega) (by omega)).mono ?_
    rintro e w3 ⟨v3, rfl, ho3, hb3⟩
    go_wp2_with fail
    go_ret
    exact ⟨_, rfl, by rw [HK.out]; exact ho3.mono (by omega), hB0.trans ((hb2.trans hb3).mono (by omega))⟩
  have HK1 : Hid (valsOf (.mk es ks) = cmpL (srtL (es.map (·.s)))) := by unfold Hid; rw [HK0.out, hr]; rfl
  clear hr d3 d2 d1
  go_wp2_with fail
  go_loopw [3, 11] (fun v i wr => ∃ k : Nat, k ≤ es.length ∧ i = .int .i64 k ∧ OwnP wr (w.heap.size + 1) 9 1 StE v ((es.take k).map (·.s)) ∧ Below (w.heap.size + 1) w1 wr) (fun _ i _ => es.length - (intOf i).toNat)
  case atStart => exact ⟨0, Nat.zero_le _, rfl, OwnP.nil, Below.refl _ _⟩
  case round =>
    obtain ⟨k, hk, rfl, hown, hb⟩ := hrel
    have hsz := hb.size
    have hB0 : Below w.heap.size w wr := hB1.trans (hb.mono (by omega))
    by_cases hlt : k < es.length
    · obtain ⟨x, hx⟩ : ∃ x, es[k]? = some x := ⟨_, List.getElem?_eq_getElem hlt⟩
      obtain ⟨b, off, rfl, hbB, hc⟩ := c3 (by rintro rfl; simp at hlt)
      obtain ⟨cs, ⟨rfl, hok⟩, _, hu⟩ := hc k _ hx
      have e0 : wr.cell? ⟨b, off + k * 4, none⟩ = some (.int .i64 x.dc) := (hB0.cell hbB).trans (hu 0 _ rfl)
      have e1 : wr.cell? ⟨b, off + k * 4 + 1, none⟩ = some (.int .i64 x.n) := (hB0.cell hbB).trans (hu 1 _ rfl)
      have e2 : wr.cell? ⟨b, off + k * 4 + 2, none⟩ = some (.string x.s) := (hB0.cell hbB).trans (hu 2 _ rfl)
      have e3 : wr.cell? ⟨b, off + k * 4 + 3, none⟩ = some (.int .i64 x.v) := (hB0.cell hbB).trans (hu 3 _ rfl)
      have HX : Hid ((es.take (k + 1)).map (·.s) = (es.take k).map (·.s) ++ [x.s]) := by unfold Hid; rw [List.take_add_one, hx]; simp
      have HL : Hid (((es.take k).map (·.s)).length + [x.s].length ≤ Few) := by unfold Hid Few; simp; omega
      have HKY : Hid (StE x.s [.string x.s]) := ⟨rfl, hok.s⟩
      clear hu hc c3 hx hb0 hb1 b0 hok
      go_wp2_with (at_builtin; go_loud ((with_reducible refine wpList_few rfl (.tmp 15) (.tmp 18) _ rfl eiStr (by decide) (by decide) (fun _ _ h => StE.one h) rfl ((hown.alloc _).alloc _) rfl (SlP.oneN (x := x.s) HKY.out rfl _ rfl) HL.out (by simp only [World.size_alloc]; omega) ?_); intro v1 w2 hown1 hb2 _; have hb3 := (((Below.refl (w.heap.size + 1) wr).alloc (by omega) _).alloc (by simp only [World.size_alloc]; omega) _).trans hb2))
      go_roundw
      case rel => exact ⟨k + 1, by omega, by go_num, by rw [HX.out]; exact hown1, hb.trans hb3⟩
      case measure => simp [intOf]; omega
    · obtain rfl : k = es.length := by omega
      rw [List.take_of_length_le (Nat.le_refl _)] at hown
      have hLl : (es.map (·.s)).length ≤ 900000 := by simp; omega
      have HK := HK1
      clear HK1 HK0 c3
      generalize es.map (·.s) = L at *
      go_wp2_with fail
      refine (sortStr_any L _ wr (w.heap.size + 1) hown hLl (by omega)).mono ?_
      rintro e w2 ⟨rfl, ho2, hb2⟩
      have hs2 := hb2.size
      have hll := srtL_len L
      go_wp2_with fail
      refine (compactStr_any (srtL L) _ w2 (w.heap.size + 1) ho2 (by omega) (by omega)).mono ?_
      rintro e w3 ⟨v3, rfl, ho3, hb3⟩
      go_wp2_with fail
      go_ret
      exact ⟨_, rfl, by rw [HK.out]; exact ho3.mono (by omega), hB0.trans ((hb2.trans hb3).mono (by omega))⟩
end Go.Proofs.YtdcmjmcipgadlaaGreat

namespace Go.Proofs.YtdcmjmcipgadlaaGreat
open Go.RowKit
set_option maxRecDepth 100000

def vB : ByteArray := ⟨#[118]⟩
def vT : Tr := .mk [⟨1, 1, vB, 0⟩] []
theorem srtL_one (s : ByteArray) : srtL [s] = [s] := by
  unfold srtL
  rw [List.map_cons, List.map_nil, List.mergeSort_singleton]; rfl
theorem cmpL_one (s : ByteArray) : cmpL [s] = [s] := by
  unfold cmpL
  rw [show Lib.compact ([s].map toBy) = [toBy s] by simp [Lib.compact, Lib.compactUpTo, Lib.keeps, List.range_succ]]; rfl
theorem awk13_E : wrtE (.mk [] []) vB ⟨1, 1⟩ = 0 := by kernel_rfl
theorem awk13_T : wrtT (.mk [] []) vB ⟨1, 1⟩ = vT := by kernel_rfl
theorem awk13_C : wrtC (.mk [] []) vB ⟨1, 1⟩ = ctxBy [] [⟨1, 1, 1⟩] 0 := by kernel_rfl
theorem awk13_R : vT.right 5 = true := by kernel_rfl
theorem awk13_V : valsOf vT = [vB] := by
  unfold valsOf
  rw [awk13_R, if_pos rfl, show txtL vT = [vB] from rfl, srtL_one, cmpL_one]
set_option maxHeartbeats 4000000 in
theorem awake13_any (w : World) : Calls Tryz.prog 41 #[] w fun e w' => e = .returned (.bool true) ∧ Below w.heap.size w w' := by
  have hb0 := (Below.refl w.heap.size w).alloc (Nat.le_refl _) (.cells #[.int .i64 1, .int .i64 1] 47)
  go_enter Tryz.func41, Tryz.ntmps41
  go_wp2_with fail
  refine (rwrite_any (.mk [] []) vB ⟨1, 1⟩ _ _ _ rd_empty (by decide) (by simp [Tr.sz, Tr.szL]) ⟨⟨by decide, by decide⟩, ⟨by decide, by decide⟩⟩).mono ?_
  rintro e w1 ⟨ve, vk, vc, rfl, hrd, hsc, hb1⟩
  rw [awk13_E]
  rw [awk13_T] at hrd
  rw [awk13_C] at hsc
  have hP : buildL [([], ⟨1, 1, vB, 0⟩)] = vT := build_one_leaf _
  have hV := awk13_V
  have hkn : vT.es.length ≤ 900000 := by decide
  generalize vT = T at *
  have hP2 : trEq T (buildL [([], ⟨1, 1, vB, 0⟩)]) = true := by rw [hP]; simp [trEq]
  generalize hC : ctxBy [] [(⟨1, 1, 1⟩ : Sp)] 0 = C at hsc
  obtain ⟨C', hC'⟩ : ∃ C', C' = C := ⟨_, rfl⟩
  have HSM : Hid ((trEq T (buildL [([], ⟨1, 1, vB, 0⟩)]) && decide (C = C')) = true) := by
    unfold Hid; rw [hP2, hC']; simp
  have HPC : Hid (ctxBy [] [(⟨1, 1, 1⟩ : Sp)] 0 = C') := hC.trans hC'.symm
  have HAK : Hid (decide (valsOf T = [vB]) = true) := by unfold Hid; rw [hV]; simp
  have HKL : Hid ((valsOf T).length ≤ Big) := by unfold Hid; rw [hV]; decide
  have HAZ : Hid (vB.size ≤ Big) := by unfold Hid; decide
  clear hC' hP hP2 hC hV
  obtain ⟨Ae, ne, Ak, nk, rfl, rfl⟩ := rda_shape hrd
  obtain ⟨Ac, nc, rfl⟩ := hsc.shape
  have hs1 := hb1.size
  simp only [World.size_alloc] at hs1
  have hB1 : Below w.heap.size w w1 := hb0.trans (hb1.mono (by simp))
  have d0 : w1.cell? ⟨w.heap.size, 0, none⟩ = some (.int .i64 1) := by rw [hb1.cell (p := ⟨w.heap.size, 0, none⟩) (by simp)]; simp
  have d1 : w1.cell? ⟨w.heap.size, 1, none⟩ = some (.int .i64 1) := by rw [hb1.cell (p := ⟨w.heap.size, 1, none⟩) (by simp)]; simp
  have HT : Hid (∀ w', Below w1.heap.size w1 w' → T.rd w' w'.heap.size (.slice Ae T.es.length ne) (.slice Ak T.ks.length nk)) := fun w' hb => rda_rd hrd (fun b hb => hb.2) hb
  have HCt : Hid (∀ w', Below w1.heap.size w1 w' → SlP w' w'.heap.size 3 SpE (.slice Ac C.length nc) C) := fun w' hb => hsc.slp (fun b hb => hb.2) hb
  have HB : Hid (∀ w', Below (w1.heap.size + 1) (w1.alloc (.cells #[.slice Ae T.es.length ne, .slice Ak T.ks.length nk, .slice Ac C.length nc] 29)) w' → Below w.heap.size w w' ∧ Below w1.heap.size w1 w' ∧ (w'.cell? ⟨w.heap.size, 0, none⟩ = some (.int .i64 1) ∧ w'.cell? ⟨w.heap.size, 1, none⟩ = some (.int .i64 1) ∧ w'.cell? ⟨w1.heap.size, 0, none⟩ = some (.slice Ae T.es.length ne) ∧ w'.cell? ⟨w1.heap.size, 1, none⟩ = some (.slice Ak T.ks.length nk) ∧ w'.cell? ⟨w1.heap.size, 2, none⟩ = some (.slice Ac C.length nc))) := fun w' hb => by
    have hB : Below w1.heap.size w1 w' := ((Below.refl _ w1).alloc (Nat.le_refl _) _).trans (hb.mono (by omega))
    refine ⟨hB1.trans (hB.mono (by omega)), hB, ?_, ?_, ?_, ?_, ?_⟩
    · rw [hB.cell (p := ⟨w.heap.size, 0, none⟩) (by show w.heap.size < _; omega)]; exact d0
    · rw [hB.cell (p := ⟨w.heap.size, 1, none⟩) (by show w.heap.size < _; omega)]; exact d1
    · rw [hb.cell (p := ⟨w1.heap.size, 0, none⟩) (by simp), World.cell?_alloc_new]; rfl
    · rw [hb.cell (p := ⟨w1.heap.size, 1, none⟩) (by simp), World.cell?_alloc_new]; rfl
    · rw [hb.cell (p := ⟨w1.heap.size, 2, none⟩) (by simp), World.cell?_alloc_new]; rfl
  have hne1 : w.heap.size < w1.heap.size := by omega
  clear hrd hsc hb1
  go_upto_region 3 with (fail)
  go_region_held3 (fun w' => w'.cell? ⟨w.heap.size, 0, none⟩ = some (.int .i64 1) ∧ w'.cell? ⟨w.heap.size, 1, none⟩ = some (.int .i64 1) ∧ w'.cell? ⟨w1.heap.size, 0, none⟩ = some (.slice Ae T.es.length ne) ∧ w'.cell? ⟨w1.heap.size, 1, none⟩ = some (.slice Ak T.ks.length nk) ∧ w'.cell? ⟨w1.heap.size, 2, none⟩ = some (.slice Ac C.length nc))
    (first | go_keep | exact (HB.out _ hb6.out).2.2 | exact (HB.out _ hb5.out).2.2 | exact (HB.out _ hb4.out).2.2 | exact (HB.out _ hb3.out).2.2)
    (first | (go_at_call 92; go_loud ((refine (rvals_any T _ _ _ (HT.out _ (by go_grown)) hkn).mono ?_); rintro e w3 ⟨v3, rfl, ho3, hb⟩; obtain ⟨A9, c9, hv9⟩ := ho3.shape; subst hv9; have HK3 := hid (ho3.sl HKL.out); have hb3 : Hid (Below (w1.heap.size + 1) (w1.alloc (.cells #[.slice Ae T.es.length ne, .slice Ak T.ks.length nk, .slice Ac C.length nc] 29)) w3) := (Below.trans (by go_grown) (hb.mono (by simp))); have hs3 := hb3.out.size; simp only [World.size_alloc] at hs3; (try (have HKC : Hid (w3.cell? ⟨w1.heap.size + 1, 0, none⟩ = some (.string vB)) := (hb.cell (p := ⟨w1.heap.size + 1, 0, none⟩) (by simp; done)).trans (by rw [World.cell?_drew, World.cell?_alloc_at _ _ _ _ (by simp)]; rfl))); (try (have HKC : Hid (w3.cell? ⟨w1.heap.size + 1, 0, none⟩ = some (.string vB)) := (hb.cell (p := ⟨w1.heap.size + 1, 0, none⟩) (by simp; done)).trans (by rw [World.cell?_alloc_at _ _ _ _ (by simp)]; rfl))); clear ho3))
           | (go_at_call 37; go_loud ((refine (r10alike_any (valsOf T) [vB] _ _ _ (w3.heap.size + 1) (HK3.out.imp (by go_grown) (by omega) fun _ _ _ h => h) (by first | exact SlP.oneB (x := vB) (cs := [.string vB]) ⟨rfl, HAZ.out⟩ rfl _ rfl (by omega) | exact SlP.at1 HKC.out HAZ.out (by have := hb.size; simp at this; omega))).mono ?_); rw [HAK.out]; rintro e w4 ⟨rfl, n4, hw4⟩; have hb4 : Hid (Below (w1.heap.size + 1) (w1.alloc (.cells #[.slice Ae T.es.length ne, .slice Ak T.ks.length nk, .slice Ac C.length nc] 29)) w4) := (hw4 ▸ below_drewN (by first | exact hb3.out | exact hb3.out.alloc (by omega) _) n4); have hs4 := hb4.out.size; simp only [World.size_alloc] at hs4; clear hw4))
           | (go_at_call 33; go_loud ((refine (r10put_any [] ⟨1, 1, vB, 0⟩ [] _ _ _ ⟨⟨by decide, by decide⟩, ⟨by decide, by decide⟩, ⟨by decide, by decide⟩, HAZ.out⟩ SlP.nil SlP.nil (by simp) (fun _ h => by cases h) (fun s hs => by simp at hs; subst hs; decide)).mono ?_); rw [HPC.out]; rintro e w5 ⟨ve5, vk5, vc5, rfl, hrd5, hsc5, hb⟩; obtain ⟨A5, n5, A6, n6, hv5, hv6⟩ := rda_shape hrd5; subst hv5; subst hv6; obtain ⟨A7, n7, hv7⟩ := hsc5.shape; subst hv7; have hrd6 := hid (rda_rd hrd5 (fun b hb => hb.2) (Below.refl _ _)); have hsc6 := hid (hsc5.slp (fun b hb => hb.2) (Below.refl _ _)); clear hrd5 hsc5; have hb5 := hid (hb4.out.trans (hb.mono (by omega)))))
           | (go_at_call 21; go_loud ((refine (r09same_any T _ C C' _ _ _ _ _ _ w5 (HT.out _ (HB.out _ hb5.out).2.1) hrd6.out (HCt.out _ (HB.out _ hb5.out).2.1) hsc6.out).mono ?_); rw [HSM.out]; rintro e w6 ⟨rfl, hb⟩; have hb6 := hid (hb5.out.trans (hb.mono (by have := hb5.out.size; simpa using this))))))
  all_goals
    go_wp2_with fail
    go_ret
    exact ⟨rfl, (HB.out _ hb6.out).1⟩
end Go.Proofs.YtdcmjmcipgadlaaGreat

namespace Go.Proofs.YtdcmjmcipgadlaaGreat
open Go.RowKit
set_option maxRecDepth 100000

theorem small13_any (t : Tr) (w : World) (ve vk : Value) (h : t.rd w w.heap.size ve vk) :
    Calls Tryz.prog 42 #[.agg #[ve, vk]] w fun e w' => e = .returned (.bool (smlB t 60)) ∧ Below w.heap.size w w' := by
  have HC : Hid (∀ w', Below w.heap.size w w' → t.rd w' w'.heap.size ve vk) := fun w' hb => rd_below hb hb.size _ _ _ h
  obtain ⟨A3, n3, A4, n4, rfl, rfl⟩ := rd_shape h
  have hb0 := (Below.refl w.heap.size w).alloc (Nat.le_refl _) (.cells #[.slice A3 t.es.length n3, .slice A4 t.ks.length n4] 25)
  clear h
  go_enter Tryz.func42, Tryz.ntmps42
  go_wp2_with fail
  refine (r08small_any t _ _ _ 60 (HC.out _ hb0) (by omega) (by omega)).mono ?_
  rintro e w1 ⟨rfl, hb1⟩
  rw [show decide (0 ≤ t.room 60 8) = smlB t 60 from rfl]
  go_wp2_with fail
  go_ret
  exact ⟨rfl, hb0.trans (hb1.mono (by simp))⟩

theorem may13_any (t : Tr) (s : ByteArray) (d : Dt) (ve vk : Value) (w : World) (h : t.rd w w.heap.size ve vk) (hkb : s.size ≤ Big) (hN : t.sz ≤ 90000) :
    Calls Tryz.prog 44 #[.agg #[ve, vk], .string s, .agg #[.int .i64 d.dc, .int .i64 d.n]] w fun e w' => e = .returned (.bool (wrtB t s d)) ∧ Below w.heap.size w w' := by
  have HC : Hid (∀ w', Below w.heap.size w w' → t.rd w' w'.heap.size ve vk) := fun w' hb => rd_below hb hb.size _ _ _ h
  obtain ⟨A3, n3, A4, n4, rfl, rfl⟩ := rd_shape h
  unfold Big at hkb
  have hb0 := ((Below.refl w.heap.size w).alloc (Nat.le_refl _) (.cells #[.slice A3 t.es.length n3, .slice A4 t.ks.length n4] 25)).alloc (by simp) (.cells #[.int .i64 d.dc, .int .i64 d.n] 47)
  clear h
  go_enter Tryz.func44, Tryz.ntmps44
  go_wp2_with fail
  refine (r10check_any t d _ _ _ (HC.out _ hb0) hN).mono ?_
  rintro e w1 ⟨rfl, hb1⟩
  have hB1 : Below w.heap.size w w1 := hb0.trans (hb1.mono (by simp; omega))
  cases hc : chkT t d
  · have HR : Hid (wrtB t s d = false) := by unfold Hid wrtB; rw [hc]; rfl
    clear hc
    go_wp2_with fail
    go_ret
    exact ⟨ret_bool HR.out.symm, hB1⟩
  · have HR : Hid (wrtB t s d = decide ((s.size : Int) ≤ 30)) := by unfold Hid wrtB; rw [hc, Bool.eq_iff_iff]; simp; omega
    clear hc
    cases hz : decide ((s.size : Int) ≤ 30)
    · rw [hz] at HR
      have hz2 : decide (s.size ≤ 30) = false := by simp at hz ⊢; omega
      go_wp2_with fail
      go_ret
      exact ⟨ret_bool HR.out.symm, hB1⟩
    · rw [hz] at HR
      have hz2 : decide (s.size ≤ 30) = true := by simp at hz ⊢; omega
      go_wp2_with fail
      go_ret
      exact ⟨ret_bool HR.out.symm, hB1⟩

set_option maxHeartbeats 4000000 in
theorem lawRW_any (t : Tr) (s : ByteArray) (d : Dt) (w : World) (ve vk : Value) (h : t.rd w w.heap.size ve vk) (hkb : s.size ≤ Big) (hd : d.Ok) :
    Calls Tryz.prog 8 #[.agg #[ve, vk], .string s, .agg #[.int .i64 d.dc, .int .i64 d.n]] w fun e w' => e = .returned (.bool true) ∧ Below w.heap.size w w' := by
  have HC : Hid (∀ w', Below w.heap.size w w' → t.rd w' w'.heap.size ve vk) := fun w' hb => rd_below hb hb.size _ _ _ h
  have hfit := fit_rd _ _ _ h
  have hel : t.es.length ≤ 140737488355328 := by obtain ⟨es, ks⟩ := t; exact hfit.1
  obtain ⟨A3, n3, A4, n4, rfl, rfl⟩ := rd_shape h
  have HB : Hid (∀ w', Below (w.heap.size + 2) ((w.alloc (.cells #[.slice A3 t.es.length n3, .slice A4 t.ks.length n4] 25)).alloc (.cells #[.int .i64 d.dc, .int .i64 d.n] 47)) w' → Below w.heap.size w w' ∧ w.heap.size + 2 ≤ w'.heap.size ∧ w'.cell? ⟨w.heap.size, 0, none⟩ = some (.slice A3 t.es.length n3) ∧ w'.cell? ⟨w.heap.size, 1, none⟩ = some (.slice A4 t.ks.length n4) ∧ w'.cell? ⟨w.heap.size + 1, 0, none⟩ = some (.int .i64 d.dc) ∧ w'.cell? ⟨w.heap.size + 1, 1, none⟩ = some (.int .i64 d.n)) := fun w' hb => by
    refine ⟨(((Below.refl _ w).alloc (Nat.le_refl _) _).alloc (by simp) _).trans (hb.mono (by omega)), by have := hb.size; simpa using this, ?_, ?_, ?_, ?_⟩
    · rw [hb.cell (p := ⟨w.heap.size, 0, none⟩) (by simp), World.cell?_alloc_lt _ _ _ (by simp)]; simp
    · rw [hb.cell (p := ⟨w.heap.size, 1, none⟩) (by simp), World.cell?_alloc_lt _ _ _ (by simp)]; simp
    · rw [hb.cell (p := ⟨w.heap.size + 1, 0, none⟩) (by simp)]; simp
    · rw [hb.cell (p := ⟨w.heap.size + 1, 1, none⟩) (by simp)]; simp
  clear h hfit
  go_enter Tryz.func8, Tryz.ntmps8
  go_wp2_with fail
  refine (awake13_any _).mono ?_
  rintro e w1 ⟨rfl, hb1⟩
  have hb1' := hid (hb1.mono (show w.heap.size + 2 ≤ _ by simp))
  clear hb1
  obtain ⟨_, _, c0, c1, d0, d1⟩ := HB.out _ hb1'.out
  go_wp2_with fail
  refine (small13_any t w1 _ _ (HC.out _ (HB.out _ hb1'.out).1)).mono ?_
  rintro e w2 ⟨rfl, hb2⟩
  have hb2' := hid (hb1'.out.trans (hb2.mono (HB.out _ hb1'.out).2.1))
  clear hb2 c0 c1 d0 d1
  obtain ⟨hB2, hs2, c0, c1, d0, d1⟩ := HB.out _ hb2'.out
  cases hs : smlB t 60
  · clear hs
    go_wp2_with fail
    refine (awake13_any _).mono ?_
    rintro e w3 ⟨rfl, hb3⟩
    have hb3' := hb2'.out.trans (hb3.mono hs2)
    go_wp2_with fail
    go_ret
    exact ⟨rfl, (HB.out _ hb3').1⟩
  have hsz : t.sz ≤ 90000 := by have := sml_sz hs; omega
  have hsz4 : t.sz ≤ 4000 := by have := sml_sz hs; omega
  clear hs
  go_wp2_with fail
  refine (rwrite_any t s d _ _ w2 (HC.out _ hB2) hkb hsz4 hd).mono ?_
  rintro e w3 ⟨ve3, vk3, vc3, rfl, hrd, hsc, hb3⟩
  have hb3' := hid (hb2'.out.trans (hb3.mono hs2))
  clear hb3 c0 c1 d0 d1
  obtain ⟨hB3, hs3, c0, c1, d0, d1⟩ := HB.out _ hb3'.out
  have HT1 : Hid (wrtT t s d = if wrtB t s d then .mk [⟨d.dc, d.n, s, 0⟩] [] else .mk [] []) := rfl
  have HC1 : Hid (wrtC t s d = if wrtB t s d then ctxOf (d :: ownD t) else []) := rfl
  have HE1 : Hid (wrtE t s d = if wrtB t s d then 0 else 1) := rfl
  generalize wrtT t s d = T at *
  generalize wrtC t s d = C at *
  generalize wrtE t s d = k at *
  obtain ⟨Ae, ne, Ak, nk, rfl, rfl⟩ := rda_shape hrd
  obtain ⟨Ac, nc, rfl⟩ := hsc.shape
  have HT : Hid (∀ w', Below w3.heap.size w3 w' → T.rd w' w'.heap.size (.slice Ae T.es.length ne) (.slice Ak T.ks.length nk)) := fun w' hb => rda_rd hrd (fun b hb => hb.2) hb
  have HCt : Hid (∀ w', Below w3.heap.size w3 w' → SlP w' w'.heap.size 3 SpE (.slice Ac C.length nc) C) := fun w' hb => hsc.slp (fun b hb => hb.2) hb
  have HX : Hid (∀ w', Below (w3.heap.size + 1) (w3.alloc (.cells #[.slice Ae T.es.length ne, .slice Ak T.ks.length nk, .slice Ac C.length nc] 29)) w' → Below w.heap.size w w' ∧ Below w3.heap.size w3 w' ∧ w3.heap.size + 1 ≤ w'.heap.size ∧ (w'.cell? ⟨w.heap.size + 1, 0, none⟩ = some (.int .i64 d.dc) ∧ w'.cell? ⟨w.heap.size + 1, 1, none⟩ = some (.int .i64 d.n) ∧ w'.cell? ⟨w3.heap.size, 0, none⟩ = some (.slice Ae T.es.length ne) ∧ w'.cell? ⟨w3.heap.size, 1, none⟩ = some (.slice Ak T.ks.length nk) ∧ w'.cell? ⟨w3.heap.size, 2, none⟩ = some (.slice Ac C.length nc) ∧
      w'.cell? ⟨w.heap.size, 0, none⟩ = some (.slice A3 t.es.length n3) ∧ w'.cell? ⟨w.heap.size, 1, none⟩ = some (.slice A4 t.ks.length n4))) := fun w' hb => by
    have hB : Below w3.heap.size w3 w' := ((Below.refl _ w3).alloc (Nat.le_refl _) _).trans (hb.mono (by omega))
    refine ⟨hB3.trans (hB.mono (by omega)), hB, by have := hb.size; simpa using this, ⟨?_, ?_, ?_, ?_, ?_, ?_, ?_⟩⟩
    · rw [hB.cell (p := ⟨w.heap.size + 1, 0, none⟩) (by show w.heap.size + 1 < _; omega)]; exact d0
    · rw [hB.cell (p := ⟨w.heap.size + 1, 1, none⟩) (by show w.heap.size + 1 < _; omega)]; exact d1
    · rw [hb.cell (p := ⟨w3.heap.size, 0, none⟩) (by simp), World.cell?_alloc_new]; rfl
    · rw [hb.cell (p := ⟨w3.heap.size, 1, none⟩) (by simp), World.cell?_alloc_new]; rfl
    · rw [hb.cell (p := ⟨w3.heap.size, 2, none⟩) (by simp), World.cell?_alloc_new]; rfl
    · rw [hB.cell (p := ⟨w.heap.size, 0, none⟩) (by show w.heap.size < _; omega)]; exact c0
    · rw [hB.cell (p := ⟨w.heap.size, 1, none⟩) (by show w.heap.size < _; omega)]; exact c1
  have hlt3 : w.heap.size + 1 < w3.heap.size := by omega
  have hlt4 : w.heap.size < w3.heap.size := by omega
  have hne3 : w.heap.size + 1 ≠ w3.heap.size := by omega
  have hne4 : w.heap.size ≠ w3.heap.size := by omega
  clear hrd hsc
  go_wp2_with fail
  refine (may13_any t s d _ _ _ (HC.out _ (HX.out _ (Below.refl _ _)).1) hkb hsz).mono ?_
  rintro e w4 ⟨rfl, hb4'⟩
  have hbx := hid ((Below.refl (w3.heap.size + 1) (w3.alloc (.cells #[.slice Ae T.es.length ne, .slice Ak T.ks.length nk, .slice Ac C.length nc] 29))).trans (hb4'.mono (by simp)))
  clear hb4' c0 c1 d0 d1
  obtain ⟨hB4, hb4', hs4, d0, d1, x0, x1, x2, c0, c1⟩ := HX.out _ hbx.out
  have hb4 := hid hb4'
  clear hb4'
  cases hc : wrtB t s d
  · have hk : k = 1 := by rw [HE1.out, hc]; rfl
    subst hk
    have HSM : Hid ((trEq T (.mk [] []) && decide (C = [])) = true) := by unfold Hid; rw [HT1.out, HC1.out, hc]; simp [trEq]
    clear hc
    go_wp2_with fail
    refine (r09same_any T (.mk [] []) C [] _ _ _ _ _ _ w4 (HT.out _ hb4.out) rd_empty (HCt.out _ hb4.out) SlP.nil).mono ?_
    rw [HSM.out]
    rintro e w5 ⟨rfl, hb5⟩
    go_wp2_with fail
    go_ret
    exact ⟨rfl, hB4.trans (hb5.mono (by omega))⟩
  · have hk : k = 0 := by rw [HE1.out, hc]; rfl
    subst hk
    have hck : chkT t d = true := by unfold wrtB at hc; simp at hc; exact hc.1
    have hdr := chkT_right hck
    have htr := chkT_tree hck
    have hbd := right_bd hdr
    have hol := ownD_len t
    have hcl : (ctxOf (ownD t)).length ≤ 50000 := by have := ctxOf_len (ownD t); omega
    have HBL : Hid ((ctxOf (ownD t)).length ≤ Big) := by unfold Hid Big; omega
    have HSD : Hid (SpsOk (ctxOf (ownD t))) := spsOk_ctxOf (ownD_right htr)
    have HSP : Hid (SpsOk [⟨d.dc, d.n, d.n⟩]) := fun s hs => by simp at hs; subst hs; simp; omega
    have HEO : Hid (En.Ok ⟨d.dc, d.n, s, 0⟩) := (wrtEn hd hkb).2
    have HRN : Hid (∀ x ∈ ownD t, 0 ≤ x.n ∧ x.n ≤ 1099511627778) := fun x hx => by
      have := (right_bd (ownD_right htr x hx)).2; omega
    have HY : Hid (∀ w', Below w4.heap.size w4 w' → w'.cell? ⟨w.heap.size + 1, 0, none⟩ = some (.int .i64 d.dc) ∧ w'.cell? ⟨w.heap.size + 1, 1, none⟩ = some (.int .i64 d.n) ∧ w'.cell? ⟨w3.heap.size, 0, none⟩ = some (.slice Ae T.es.length ne) ∧ w'.cell? ⟨w3.heap.size, 1, none⟩ = some (.slice Ak T.ks.length nk) ∧ w'.cell? ⟨w3.heap.size, 2, none⟩ = some (.slice Ac C.length nc) ∧ w'.cell? ⟨w.heap.size, 0, none⟩ = some (.slice A3 t.es.length n3) ∧ w'.cell? ⟨w.heap.size, 1, none⟩ = some (.slice A4 t.ks.length n4)) := fun w' hb => (HX.out _ (hbx.out.trans (hb.mono hs4))).2.2.2
    have HSM : Hid ((trEq T (buildL [([], ⟨d.dc, d.n, s, 0⟩)]) && decide (C = ctxBy (ctxOf (ownD t)) [⟨d.dc, d.n, d.n⟩] 0)) = true) := by
      unfold Hid; rw [HT1.out, HC1.out, hc, build_one_leaf, if_pos rfl, if_pos rfl, ctx_add hdr (ownD_right htr)]; simp [trEq]
    clear hc hdr hbd htr hck
    go_upto_region 6 with (fail)
    go_region_held3 (fun w' => w'.cell? ⟨w.heap.size + 1, 0, none⟩ = some (.int .i64 d.dc) ∧ w'.cell? ⟨w.heap.size + 1, 1, none⟩ = some (.int .i64 d.n) ∧ w'.cell? ⟨w3.heap.size, 0, none⟩ = some (.slice Ae T.es.length ne) ∧ w'.cell? ⟨w3.heap.size, 1, none⟩ = some (.slice Ak T.ks.length nk) ∧ w'.cell? ⟨w3.heap.size, 2, none⟩ = some (.slice Ac C.length nc) ∧ w'.cell? ⟨w.heap.size, 0, none⟩ = some (.slice A3 t.es.length n3) ∧ w'.cell? ⟨w.heap.size, 1, none⟩ = some (.slice A4 t.ks.length n4))
      (first | go_keep | exact HY.out _ hb7.out | exact HY.out _ hb6.out | exact HY.out _ hb5.out)
      (first | (go_at_call 45; go_loud ((refine (r10own_any t _ _ _ (HC.out _ hB4.drew) hsz HRN.out).mono ?_); rintro e w5 ⟨v5, rfl, ho5, hb⟩; have hb5 := hid (((Below.refl w4.heap.size w4).drew).trans hb); have hsl5 := hid (ho5.sl HBL.out); obtain ⟨A9, c9, hv9⟩ := ho5.shape; subst hv9; clear ho5))
             | (go_at_call 33; go_loud ((refine (r10put_any [] ⟨d.dc, d.n, s, 0⟩ (ctxOf (ownD t)) _ _ w5 HEO.out SlP.nil hsl5.out hcl HSD.out HSP.out).mono ?_); rintro e w6 ⟨ve6, vk6, vc6, rfl, hrd5, hsc5, hb⟩; obtain ⟨A5, n5, A6, n6, hv5, hv6⟩ := rda_shape hrd5; subst hv5; subst hv6; obtain ⟨A7, n7, hv7⟩ := hsc5.shape; subst hv7; have hrd6 := hid (rda_rd hrd5 (fun b hb => hb.2) (Below.refl _ _)); have hsc6 := hid (hsc5.slp (fun b hb => hb.2) (Below.refl _ _)); clear hrd5 hsc5; have hb6 := hid (hb5.out.trans (hb.mono hb5.out.size))))
             | (go_at_call 21; go_loud ((refine (r09same_any T _ C _ _ _ _ _ _ _ w6 (HT.out _ (hb4.out.trans (hb6.out.mono (by omega)))) hrd6.out (HCt.out _ (hb4.out.trans (hb6.out.mono (by omega)))) hsc6.out).mono ?_); rw [HSM.out]; rintro e w7 ⟨rfl, hb⟩; have hb7 := hid (hb6.out.trans (hb.mono hb6.out.size)))))
    go_wp2_with fail
    go_ret
    exact ⟨rfl, hB4.trans (hb7.out.mono (by omega))⟩
end Go.Proofs.YtdcmjmcipgadlaaGreat
