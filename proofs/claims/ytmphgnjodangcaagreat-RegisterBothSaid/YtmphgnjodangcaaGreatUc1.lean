/- What the laws need, part 1: register.Write. No condition but that there are not too many entries. The plain law of RegisterBoth. tributarylaw13.awake answers true. No condition. tributarylaw13.small. No condition. tributarylaw13.may. No condition but that the tree is not too big. tributaryref10.Sorted, Texts. No condition but that there are not too many. causal.JoinAll. Condition: not too big, all in all. -/
import Derived.Test.YtmphgnjodangcaaGreatUa10
namespace Go.Proofs.YtmphgnjodangcaaGreat
open Go.RowKit
set_option maxRecDepth 100000

theorem OwnP.single {α : Type} {w : World} {base n sz : Nat} {e : TypeId} {E : α → List Value → Prop} {x : α} {cs : List Value} (hE : E x cs) (hl : cs.length = sz) (h : w.heap[n]? = some (.cells cs.toArray e (0, 0))) (hb : base ≤ n) : OwnP w base e sz E (.slice (some ⟨n, 0, none⟩) 1 1) [x] := by
  refine ⟨[cs], ⟨rfl, fun j y hy => ?_⟩, by simp [hl], .inr ⟨n, 1, cs.toArray, rfl, hb, h, Nat.le_refl _, by simp [maxLen], by simp [hl], by simp [List.take_of_length_le (Nat.le_of_eq hl)]⟩⟩
  match j, hy with
  | 0, hy => simp at hy; subst hy; exact ⟨cs, rfl, hE, hl⟩
/-- Entries' own dots. -/
def ownD (t : Tr) : List Dt := t.es.map En.dot
theorem ownD_right {t : Tr} (h : t.right 5 = true) : ∀ d ∈ ownD t, d.right = true := fun d hd => right_dots t 5 h d (by
  obtain ⟨es, ks⟩ := t
  rw [Tr.dots]; exact List.mem_append_left _ hd)
theorem ownD_len (t : Tr) : (ownD t).length ≤ t.sz := by
  obtain ⟨es, ks⟩ := t
  unfold ownD; rw [List.length_map, Tr.sz]; simp only [Tr.es]; omega
/-- May the text be written? -/
def wrtB (t : Tr) (s : ByteArray) (d : Dt) : Bool := chkT t d && decide (s.size ≤ 30)
def wrtE (t : Tr) (s : ByteArray) (d : Dt) : Int := if wrtB t s d then 0 else 1
def wrtT (t : Tr) (s : ByteArray) (d : Dt) : Tr := if wrtB t s d then .mk [⟨d.dc, d.n, s, 0⟩] [] else .mk [] []
def wrtC (t : Tr) (s : ByteArray) (d : Dt) : List Sp := if wrtB t s d then ctxOf (d :: ownD t) else []
theorem wrtEn {d : Dt} {s : ByteArray} (hd : d.Ok) (hs : s.size ≤ Big) : EnE (⟨d.dc, d.n, s, 0⟩ : En) [.int .i64 d.dc, .int .i64 d.n, .string s, .int .i64 0] := ⟨rfl, hd.dc, hd.n, ⟨by show (_ : Int) ≤ 0; decide, by show (0 : Int) ≤ _; decide⟩, hs⟩

set_option maxHeartbeats 4000000 in
theorem rwrite_any (t : Tr) (s : ByteArray) (d : Dt) (ve vk : Value) (w : World) (h : t.rd w w.heap.size ve vk) (hs : s.size ≤ Big) (hN : t.sz ≤ 4000) (hd : d.Ok) :
    Calls Tryz.prog 51 #[.agg #[ve, vk], .string s, .agg #[.int .i64 d.dc, .int .i64 d.n]] w (RetCE w (wrtT t s d) (wrtC t s d) (wrtE t s d)) := by
  have hsb : s.size ≤ 140737488355328 := hs
  have hol := ownD_len t
  have HSL : Hid (SlP w w.heap.size 4 EnE ve t.es) := by obtain ⟨es, ks⟩ := t; exact (rd_iff.1 h).1
  have HC : Hid (∀ w', Below w.heap.size w w' → t.rd w' w'.heap.size ve vk) := fun w' hb => rd_below hb hb.size _ _ _ h
  obtain ⟨A3, n3, A4, n4, rfl, rfl⟩ := rd_shape h
  have hb0 := (((Below.refl w.heap.size w).alloc (Nat.le_refl _) (.cells #[.slice A3 t.es.length n3, .slice A4 t.ks.length n4] 27)).alloc (by simp) (.cells #[.int .i64 d.dc, .int .i64 d.n] 54)).alloc (by simp; omega) (.cells #[.slice none 0 0, .slice none 0 0, .slice none 0 0] 31)
  clear h
  go_enter Tryz.func51, Tryz.ntmps51
  go_wp2_with fail
  refine (fcheck_any t d _ _ _ (HC.out _ hb0) (by omega)).mono ?_
  rintro e w1 ⟨rfl, hb1⟩
  have hs1 := hb1.size
  simp only [World.size_alloc] at hs1
  have hB1 : Below w.heap.size w w1 := hb0.trans (hb1.mono (by simp; omega))
  have c0 : w1.cell? ⟨w.heap.size, 0, none⟩ = some (.slice A3 t.es.length n3) := by
    rw [hb1.cell (p := ⟨w.heap.size, 0, none⟩) (by simp; omega)]
    rw [World.cell?_alloc_lt _ _ _ (by simp; omega), World.cell?_alloc_lt _ _ _ (by simp)]; simp
  have c1 : w1.cell? ⟨w.heap.size, 1, none⟩ = some (.slice A4 t.ks.length n4) := by
    rw [hb1.cell (p := ⟨w.heap.size, 1, none⟩) (by simp; omega)]
    rw [World.cell?_alloc_lt _ _ _ (by simp; omega), World.cell?_alloc_lt _ _ _ (by simp)]; simp
  have d0 : w1.cell? ⟨w.heap.size + 1, 0, none⟩ = some (.int .i64 d.dc) := by rw [hb1.cell (p := ⟨w.heap.size + 1, 0, none⟩) (by simp), World.cell?_alloc_lt _ _ _ (by simp)]; simp
  have d1 : w1.cell? ⟨w.heap.size + 1, 1, none⟩ = some (.int .i64 d.n) := by rw [hb1.cell (p := ⟨w.heap.size + 1, 1, none⟩) (by simp), World.cell?_alloc_lt _ _ _ (by simp)]; simp
  have hg : w1.heap[w.heap.size + 2]? = some (.cells #[.slice none 0 0, .slice none 0 0, .slice none 0 0] 31 (0, 0)) := (hb1.block (w.heap.size + 2) (by simp)).trans (heap_new (by simp))
  have HG := hid hg
  have k0 : w1.cell? ⟨w.heap.size + 2, 0, none⟩ = some (.slice none 0 0) := cell_cells (i := 0) hg
  have k1 : w1.cell? ⟨w.heap.size + 2, 1, none⟩ = some (.slice none 0 0) := cell_cells (i := 1) hg
  have k2 : w1.cell? ⟨w.heap.size + 2, 2, none⟩ = some (.slice none 0 0) := cell_cells (i := 2) hg
  have z0 := cells_frz (i := 0) hg
  have z1 := cells_frz (i := 1) hg
  have z2 := cells_frz (i := 2) hg
  clear hg hb1
  cases hc : chkT t d
  · have HI : Hid (chkI t d = 1) := by unfold Hid chkI; rw [hc]; rfl
    have HE : Hid (wrtE t s d = 1) := by unfold Hid wrtE wrtB; rw [hc]; rfl
    have HTT : Hid (wrtT t s d = .mk [] []) := by unfold Hid wrtT wrtB; rw [hc]; rfl
    have HCC : Hid (wrtC t s d = []) := by unfold Hid wrtC wrtB; rw [hc]; rfl
    rw [HI.out]
    clear hc
    go_wp2_with fail
    obtain ⟨r0, r1, r2, hK, hS⟩ := box3 HG.out (.slice none 0 0) (.slice none 0 0) (.slice none 0 0)
    have hBW := ((hB1.setCell (p := ⟨w.heap.size + 2, 0, none⟩) (by simp) (.slice none 0 0)).setCell (p := ⟨w.heap.size + 2, 1, none⟩) (by simp) (.slice none 0 0)).setCell (p := ⟨w.heap.size + 2, 2, none⟩) (by simp) (.slice none 0 0)
    refine bodyPost_ret (v := .tuple #[.agg #[.slice none 0 0, .slice none 0 0, .slice none 0 0], .int .i64 1]) (by simp [results, Tryz.results51, go_sem, r0, r1, r2]) rfl ⟨_, _, _, by rw [HE.out], by rw [HTT.out]; exact rda_nil _ _, by rw [HCC.out]; exact SlA.nil, hBW⟩
  have HI : Hid (chkI t d = 0) := by unfold Hid chkI; rw [hc]; rfl
  rw [HI.out]
  have h30 : decide ((30 : Int) < (s.size : Int)) = !decide (s.size ≤ 30) := by rw [Bool.eq_iff_iff]; simp; omega
  cases hz : decide (s.size ≤ 30)
  · have HE : Hid (wrtE t s d = 1) := by unfold Hid wrtE wrtB; rw [hc, hz]; rfl
    have HTT : Hid (wrtT t s d = .mk [] []) := by unfold Hid wrtT wrtB; rw [hc, hz]; rfl
    have HCC : Hid (wrtC t s d = []) := by unfold Hid wrtC wrtB; rw [hc, hz]; rfl
    rw [hz] at h30
    simp only [Bool.not_false] at h30
    clear hc hz
    go_wp2_with fail
    obtain ⟨r0, r1, r2, hK, hS⟩ := box3 HG.out (.slice none 0 0) (.slice none 0 0) (.slice none 0 0)
    have hBW := ((hB1.setCell (p := ⟨w.heap.size + 2, 0, none⟩) (by simp) (.slice none 0 0)).setCell (p := ⟨w.heap.size + 2, 1, none⟩) (by simp) (.slice none 0 0)).setCell (p := ⟨w.heap.size + 2, 2, none⟩) (by simp) (.slice none 0 0)
    refine bodyPost_ret (v := .tuple #[.agg #[.slice none 0 0, .slice none 0 0, .slice none 0 0], .int .i64 1]) (by simp [results, Tryz.results51, go_sem, r0, r1, r2]) rfl ⟨_, _, _, by rw [HE.out], by rw [HTT.out]; exact rda_nil _ _, by rw [HCC.out]; exact SlA.nil, hBW⟩
  rw [hz] at h30
  simp only [Bool.not_true] at h30
  have HE : Hid (wrtE t s d = 0) := by unfold Hid wrtE wrtB; rw [hc, hz]; rfl
  have HTT : Hid (wrtT t s d = .mk [⟨d.dc, d.n, s, 0⟩] []) := by unfold Hid wrtT wrtB; rw [hc, hz]; rfl
  have HCC : Hid (wrtC t s d = ctxOf (d :: ownD t)) := by unfold Hid wrtC wrtB; rw [hc, hz]; rfl
  have hdr := chkT_right hc
  have htr := chkT_tree hc
  have HRA : Hid (∀ x ∈ d :: ownD t, x.right = true) := fun x hx => by
    rcases List.mem_cons.1 hx with rfl | hx
    · exact hdr
    · exact ownD_right htr x hx
  clear hc hz hdr htr
  have HGB : Hid (∀ w', Below w1.heap.size w1 w' → w'.cell? ⟨w.heap.size + 1, 0, none⟩ = some (.int .i64 d.dc) ∧ w'.cell? ⟨w.heap.size + 1, 1, none⟩ = some (.int .i64 d.n) ∧ w'.heap[w.heap.size + 2]? = some (.cells #[.slice none 0 0, .slice none 0 0, .slice none 0 0] 31 (0, 0))) := fun w' hb =>
    ⟨(hb.cell (p := ⟨w.heap.size + 1, 0, none⟩) (by show w.heap.size + 1 < _; omega)).trans d0, (hb.cell (p := ⟨w.heap.size + 1, 1, none⟩) (by show w.heap.size + 1 < _; omega)).trans d1, (hb.block _ (by omega)).trans HG.out⟩
  have hlt0 : w.heap.size < w1.heap.size := by omega
  have hne0 : w.heap.size ≠ w1.heap.size := by omega
  have hne1 : w.heap.size + 1 ≠ w1.heap.size := by omega
  clear k0 k1 k2 z0 z1 z2
  have HW0 : Hid (OwnP (w1.alloc (.cells #[.int .i64 d.dc, .int .i64 d.n] 54)) w1.heap.size 54 2 DtE (.slice (some ⟨w1.heap.size, 0, none⟩) 1 1) [d]) := OwnP.single (x := d) (cs := [.int .i64 d.dc, .int .i64 d.n]) ⟨rfl, hd⟩ rfl (heap_new rfl) (Nat.le_refl _)
  have hel : t.es.length ≤ 4000 := by unfold ownD at hol; rw [List.length_map] at hol; omega
  go_wp2_with fail
  go_loopw [9, 30] (fun v i wr => ∃ k : Nat, k ≤ t.es.length ∧ i = .int .i64 k ∧ OwnP wr w1.heap.size 54 2 DtE v (d :: (t.es.take k).map En.dot) ∧ Below w1.heap.size w1 wr) (fun _ i _ => t.es.length - (intOf i).toNat)
  case atStart => exact ⟨0, Nat.zero_le _, rfl, HW0.out, (Below.refl _ w1).alloc (Nat.le_refl _) _⟩
  case round =>
    obtain ⟨k, hk, rfl, hown, hb⟩ := hrel
    have hsz := hb.size
    have hB0 : Below w.heap.size w wr := hB1.trans (hb.mono (by omega))
    by_cases hlt : k < t.es.length
    · obtain ⟨x, hx⟩ : ∃ x, t.es[k]? = some x := ⟨_, List.getElem?_eq_getElem hlt⟩
      obtain ⟨Ae, ne, hve, _, _, b3⟩ := HSL.out
      cases hve
      obtain ⟨b, off, rfl, hbB, hcc⟩ := b3 (by intro h0; rw [h0] at hlt; simp at hlt)
      obtain ⟨cs, ⟨rfl, hok⟩, _, hu⟩ := hcc k _ hx
      have e0 : wr.cell? ⟨b, off + k * 4, none⟩ = some (.int .i64 x.dc) := (hB0.cell hbB).trans (hu 0 _ rfl)
      have e1 : wr.cell? ⟨b, off + k * 4 + 1, none⟩ = some (.int .i64 x.n) := (hB0.cell hbB).trans (hu 1 _ rfl)
      have e2 : wr.cell? ⟨b, off + k * 4 + 2, none⟩ = some (.string x.s) := (hB0.cell hbB).trans (hu 2 _ rfl)
      have e3 : wr.cell? ⟨b, off + k * 4 + 3, none⟩ = some (.int .i64 x.v) := (hB0.cell hbB).trans (hu 3 _ rfl)
      have hdx : x.dot.Ok := ⟨hok.dc, hok.n⟩
      have HX : Hid (d :: (t.es.take (k + 1)).map En.dot = d :: (t.es.take k).map En.dot ++ [x.dot]) := by
        unfold Hid; rw [List.take_add_one, hx]; simp
      have HL : Hid ((d :: (t.es.take k).map En.dot).length + [x.dot].length ≤ Few) := by unfold Hid Few; simp; omega
      have HBW : Hid (w1.heap.size ≤ wr.heap.size + 1 + 1) := by unfold Hid; omega
      clear hu hcc b3 hx hok c0 c1 d0 d1
      go_wp2_with (at_builtin; go_loud (refine wpList_few rfl (.tmp 34) (.tmp 37) _ rfl eiDot (by decide) (by decide) (fun _ _ h => h.one) rfl ((hown.alloc _).alloc _) rfl (SlP.one (x := x.dot) (cs := [.int .i64 x.dc, .int .i64 x.n]) ⟨rfl, hdx⟩ rfl _ (World.size_alloc _ _).symm) HL.out (by rw [World.size_alloc, World.size_alloc]; exact HBW.out) ?_); intro v1 w2 hown1 hb1 _)
      go_roundw
      case rel =>
        refine ⟨k + 1, by omega, by go_num, by rw [HX.out]; exact hown1, ((hb.alloc (by omega) _).alloc (by simp; omega) _).trans hb1⟩
      case measure => simp [intOf]; omega
    · obtain rfl : k = t.es.length := by omega
      rw [List.take_of_length_le (Nat.le_refl _)] at hown
      have hown : OwnP wr w1.heap.size 54 2 DtE _ (d :: ownD t) := hown
      have HO := hid (hown.sl (by unfold Big; simp; omega))
      clear hown c0 c1 d0 d1
      go_wp2_with fail
      refine (cof_any (d :: ownD t) _ wr HO.out HRA.out (by simp; omega)).mono ?_
      rintro e w2 ⟨v2, rfl, ho2, hb2⟩
      obtain ⟨A5, c5, rfl⟩ := ho2.shape
      have hs2 := hb2.size
      have hB2 : Below w1.heap.size w1 w2 := hb.trans (hb2.mono (by omega))
      obtain ⟨d0, d1, g6⟩ := HGB.out w2 hB2
      have HG2 := hid g6
      have k0 : w2.cell? ⟨w.heap.size + 2, 0, none⟩ = some (.slice none 0 0) := cell_cells (i := 0) g6
      have k1 : w2.cell? ⟨w.heap.size + 2, 1, none⟩ = some (.slice none 0 0) := cell_cells (i := 1) g6
      have k2 : w2.cell? ⟨w.heap.size + 2, 2, none⟩ = some (.slice none 0 0) := cell_cells (i := 2) g6
      have z0 := cells_frz (i := 0) g6
      have z1 := cells_frz (i := 1) g6
      have z2 := cells_frz (i := 2) g6
      have HO2 := hid ho2
      have hcl := ctxOf_len (d :: ownD t)
      have hlt2 : w.heap.size + 2 < w2.heap.size := by omega
      have hne2 : w.heap.size + 2 ≠ w2.heap.size := by omega
      clear g6 ho2
      generalize ctxOf (d :: ownD t) = C at *
      go_wp2_with fail
      obtain ⟨r0, r1, r2, hK, hS⟩ := box3 HG2.out (.slice (some ⟨w2.heap.size, 0, none⟩) 1 1) (.slice none 0 0) (.slice A5 C.length c5)
      have hBW : Below w.heap.size w (((w2.setCell ⟨w.heap.size + 2, 0, none⟩ (.slice (some ⟨w2.heap.size, 0, none⟩) 1 1)).setCell ⟨w.heap.size + 2, 1, none⟩ (.slice none 0 0)).setCell ⟨w.heap.size + 2, 2, none⟩ (.slice A5 C.length c5)) := (((hB1.trans (hB2.mono (by omega))).setCell (by simp) _).setCell (by simp) _).setCell (by simp) _
      clear k0 k1 k2 z0 z1 z2
      generalize (((w2.setCell ⟨w.heap.size + 2, 0, none⟩ (.slice (some ⟨w2.heap.size, 0, none⟩) 1 1)).setCell ⟨w.heap.size + 2, 1, none⟩ (.slice none 0 0)).setCell ⟨w.heap.size + 2, 2, none⟩ (.slice A5 C.length c5)) = W at *
      have q0 : (W.alloc (.cells #[.int .i64 d.dc, .int .i64 d.n, .string s, .int .i64 0] 142)).cell? ⟨w.heap.size + 1 + 1, 0, none⟩ = some (.slice (some ⟨w2.heap.size, 0, none⟩) 1 1) := by rw [World.cell?_alloc_lt _ _ _ (by show w.heap.size + 2 < _; omega)]; exact r0
      have q1 : (W.alloc (.cells #[.int .i64 d.dc, .int .i64 d.n, .string s, .int .i64 0] 142)).cell? ⟨w.heap.size + 1 + 1, 1, none⟩ = some (.slice none 0 0) := by rw [World.cell?_alloc_lt _ _ _ (by show w.heap.size + 2 < _; omega)]; exact r1
      have q2 : (W.alloc (.cells #[.int .i64 d.dc, .int .i64 d.n, .string s, .int .i64 0] 142)).cell? ⟨w.heap.size + 1 + 1, 2, none⟩ = some (.slice A5 C.length c5) := by rw [World.cell?_alloc_lt _ _ _ (by show w.heap.size + 2 < _; omega)]; exact r2
      refine bodyPost_ret (v := .tuple #[.agg #[.slice (some ⟨w2.heap.size, 0, none⟩) 1 1, .slice none 0 0, .slice A5 C.length c5], .int .i64 0]) (by simp [results, Tryz.results51, go_sem, q0, q1, q2]) rfl ⟨_, _, _, by rw [HE.out], ?_, ?_, hBW.alloc (by omega) _⟩
      · rw [HTT.out, rda_iff]
        refine ⟨?_, SlA.nil⟩
        exact SlA.one (x := (⟨d.dc, d.n, s, 0⟩ : En)) (cs := [.int .i64 d.dc, .int .i64 d.n, .string s, .int .i64 0]) (e := 142) (z := (0, 0)) (wrtEn hd hs) rfl (heap_new hS.symm) ⟨by omega, by rw [World.size_alloc]; omega⟩
      · rw [HCC.out]
        refine (HO2.out.sla (by unfold Big; simp at hcl; omega)).up (fun b hb => (heap_old (by have := hb.2.1; omega)).trans (hK b (by have := hb.1; omega))) (fun b hb => ⟨by have := hb.1; omega, by rw [World.size_alloc]; have := hb.2.1; omega⟩) (fun _ _ _ h => h)
end Go.Proofs.YtmphgnjodangcaaGreat

namespace Go.Proofs.YtmphgnjodangcaaGreat
open Go.RowKit
set_option maxRecDepth 100000

theorem chk_mk {t : Tr} {d : Dt} (h : t.right 5 = true) (hd : d.right = true) (hn : d ∉ t.dots) : chkT t d = true := by
  unfold chkT
  have h1 : hasC (ctxOf t.dots) d = false := by
    cases h2 : hasC (ctxOf t.dots) d
    · rfl
    · exact absurd ((hasC_dots h).1 h2) hn
  rw [h, hd, h1]; rfl
theorem not_dots {A : Tr} {U : List Sp} (h : CaOk A U) {f : Dt} (hf : hasC U f = false) : f ∉ A.dots := fun hm => by
  obtain ⟨p, e, he, hd⟩ := (mem_dots _ _).1 hm
  have := h.has _ he
  simp only at this
  rw [hd, hf] at this
  cases this
theorem vals_right {A : Tr} (h : A.right 5 = true) : valsOf A = sdL (txtL A) := by
  unfold valsOf
  rw [h, if_pos rfl, sd_eq]
theorem sdL_ext {l m : List ByteArray} (h : ∀ x, x ∈ l ↔ x ∈ m) : sdL l = sdL m :=
  sorted_ext ltS_irrefl (fun _ _ _ h k => ltS_trans h k) (sdL_spec l).1 (sdL_spec m).1 fun x => by rw [(sdL_spec l).2, (sdL_spec m).2, h]
theorem sdL_one (s : ByteArray) : sdL [s] = [s] :=
  sorted_ext ltS_irrefl (fun _ _ _ h k => ltS_trans h k) (sdL_spec [s]).1 (List.pairwise_singleton _ _) fun x => (sdL_spec [s]).2 x
theorem own_dots {t : Tr} {x : Dt} (h : x ∈ ownD t) : x ∈ t.dots := by
  unfold ownD at h
  obtain ⟨e, he, rfl⟩ := List.mem_map.1 h
  exact (mem_dots t _).2 ⟨[], e, mem_es.2 he, rfl⟩
theorem own_st {t : Tr} (ho : t.Ord) {x : Dt} {z : En} (hs : stE t [] x = some z) : x ∈ ownD t := by
  obtain ⟨h1, h2⟩ := (stE_some ho).1 hs
  unfold ownD; exact List.mem_map.2 ⟨z, mem_es.1 h1, h2⟩
theorem wr_ok {t : Tr} {s : ByteArray} {d : Dt} (hm : wrtB t s d = true) :
    CaOk (tOne ⟨d.dc, d.n, s, 0⟩) (ctxOf (d :: ownD t)) ∧ (∀ x, hasC (ctxOf (d :: ownD t)) x = (decide (x = d) || decide (x ∈ ownD t))) := by
  unfold wrtB at hm
  rw [Bool.and_eq_true] at hm
  obtain ⟨hc, hs⟩ := hm
  have hs' : s.size ≤ 30 := by simpa using hs
  obtain ⟨g1, g2, g3⟩ := chkT_dots hc
  have hr : ∀ x ∈ d :: ownD t, x.right = true := fun x hx => by
    rcases List.mem_cons.1 hx with rfl | hx
    · exact g2
    · exact dots_right g1 x (own_dots hx)
  have he : (⟨d.dc, d.n, s, 0⟩ : En).right = true := by unfold En.right En.dot; simp [g2, hs']
  have hh : ∀ x, hasC (ctxOf (d :: ownD t)) x = (decide (x = d) || decide (x ∈ ownD t)) := fun x => by
    rw [Bool.eq_iff_iff, Bool.or_eq_true, decide_eq_true_eq, decide_eq_true_eq]
    constructor
    · intro h; rw [hasC_ctxOf hr (hasC_right h)] at h; simpa using h
    · intro h
      have hx : x ∈ d :: ownD t := List.mem_cons.2 h
      rw [hasC_ctxOf hr (hr x hx)]; simpa using hx
  exact ⟨tOne_ok he (apart_ctxOf hr) (by rw [hh]; simp [En.dot]), hh⟩
theorem wr_len {t : Tr} (d : Dt) : (ctxOf (d :: ownD t)).length ≤ 4 * (t.sz + 2) := by
  have hol : (ownD t).length ≤ t.sz := by have := es_sz t; unfold ownD; rw [List.length_map]; omega
  have hsl : (ctxOf (d :: ownD t)).length ≤ 4 * ((d :: ownD t).length + 1) := ctxOfK_len _ 4
  rw [List.length_cons] at hsl
  omega
/-- A right tree, written behind: the one value is the new one. -/
theorem wr_turn {A : Tr} {U : List Sp} {s : ByteArray} {d : Dt} (hA : CaOk A U) (hm : wrtB A s d = true) (hd : hasC U d = false) : valsOf (jT A (tOne ⟨d.dc, d.n, s, 0⟩) U (ctxOf (d :: ownD A))) = [s] := by
  obtain ⟨hX, hh⟩ := wr_ok hm
  have hj := jT_ok hA hX
  rw [vals_right ((right_iff hj.ord).2 hj.leaf), ← sdL_one s]
  refine sdL_ext fun x => ?_
  unfold txtL
  rw [List.mem_map, List.mem_singleton]
  have hst : ∀ y, stE (jT A (tOne ⟨d.dc, d.n, s, 0⟩) U (ctxOf (d :: ownD A))) [] y = if y = d then some ⟨d.dc, d.n, s, 0⟩ else none := fun y => by
    rw [stE_join hA hX, stE_one, hh]
    by_cases hy : y = d
    · subst hy
      rw [stE_out hA.ord (not_dots hA hd), hd, if_pos ⟨rfl, rfl⟩, if_pos rfl]
      simp [jnO]
    · rw [if_neg (fun h => hy h.2), if_neg hy]
      cases hs : stE A [] y with
      | none => simp [jnO]
      | some z => simp [jnO, own_st hA.ord hs]
  constructor
  · rintro ⟨e, he, rfl⟩
    have h1 := (stE_some hj.ord).2 ⟨mem_es.2 he, rfl⟩
    rw [hst] at h1
    split at h1
    · cases h1; rfl
    · cases h1
  · rintro rfl
    have h1 := hst d
    rw [if_pos rfl] at h1
    exact ⟨_, mem_es.1 ((stE_some hj.ord).1 h1).1, rfl⟩
set_option maxHeartbeats 2000000 in
theorem rb_plain {t : Tr} {s u v : ByteArray} {d e f : Dt} (hm : wrtB t s d = true) (hm2 : wrtB t u e = true) (hm3 : wrtB t v f = true) (hde : d ≠ e) (hdf : d ≠ f) (hef : e ≠ f) (hz : t.sz ≤ 60) : ∃ (X Y : Tr) (S R : List Sp) (A : Tr) (U : List Sp) (Z : Tr) (ZC : List Sp) (B : Tr) (V : List Sp) (P : List ByteArray),
    Hid (wrtT t s d = X) ∧ Hid (wrtC t s d = S) ∧ Hid (wrtE t s d = 0) ∧ Hid (wrtT t u e = Y) ∧ Hid (wrtC t u e = R) ∧ Hid (wrtE t u e = 0) ∧
    Hid ((jaR [(t, knC t), (X, S), (Y, R)]).1 = A) ∧ Hid ((jaR [(t, knC t), (X, S), (Y, R)]).2 = U) ∧ Hid (jaE [(t, knC t), (X, S), (Y, R)] = 0) ∧
    Hid ((jaR [(Y, R), (X, S), (t, knC t)]).1 = A) ∧ Hid ((jaR [(Y, R), (X, S), (t, knC t)]).2 = U) ∧ Hid (jaE [(Y, R), (X, S), (t, knC t)] = 0) ∧
    Hid (kSame A A U U = true) ∧ Hid (valsOf A = P) ∧ Hid (sdL [s, u] = P) ∧ Hid (wrtT A v f = Z) ∧ Hid (wrtC A v f = ZC) ∧ Hid (wrtE A v f = 0) ∧ Hid (jnE A Z U ZC = 0) ∧ Hid (jnT A Z U ZC = B) ∧ Hid (jnC A Z U ZC = V) ∧ Hid (valsOf B = [v]) ∧
    X.sz ≤ 40 ∧ Y.sz ≤ 40 ∧ Z.sz ≤ 40 ∧ A.sz ≤ 200 ∧ A.es.length ≤ 200 ∧ B.es.length ≤ 400 ∧ S.length ≤ 4000 ∧ R.length ≤ 4000 ∧ ZC.length ≤ 4000 ∧ U.length ≤ 10000 ∧ (knC t).length ≤ 400 ∧ P.length ≤ 1000 ∧ Hid (∀ d ∈ t.dots, 0 ≤ d.n ∧ d.n ≤ 1099511627778) := by
  obtain ⟨hX, hh⟩ := wr_ok hm
  obtain ⟨hY, hh2⟩ := wr_ok hm2
  have hc : chkT t d = true := by unfold wrtB at hm; rw [Bool.and_eq_true] at hm; exact hm.1
  have hc2 : chkT t e = true := by unfold wrtB at hm2; rw [Bool.and_eq_true] at hm2; exact hm2.1
  have hc3 : chkT t f = true ∧ decide (v.size ≤ 30) = true := by unfold wrtB at hm3; rw [Bool.and_eq_true] at hm3; exact hm3
  obtain ⟨g1, g2, g3⟩ := chkT_dots hc
  obtain ⟨_, g4, g5⟩ := chkT_dots hc2
  obtain ⟨_, g6, g7⟩ := chkT_dots hc3.1
  have hk := known_ok g1
  have hK : KOk (t, knC t) := hk
  have hX' : KOk (tOne ⟨d.dc, d.n, s, 0⟩, ctxOf (d :: ownD t)) := hX
  have hY' : KOk (tOne ⟨e.dc, e.n, u, 0⟩, ctxOf (e :: ownD t)) := hY
  obtain ⟨a1, a2, a3⟩ := ja_three hK hX' hY' (List.Perm.refl _)
  have hperm : [(tOne ⟨e.dc, e.n, u, 0⟩, ctxOf (e :: ownD t)), (tOne ⟨d.dc, d.n, s, 0⟩, ctxOf (d :: ownD t)), (t, knC t)].Perm [(t, knC t), (tOne ⟨d.dc, d.n, s, 0⟩, ctxOf (d :: ownD t)), (tOne ⟨e.dc, e.n, u, 0⟩, ctxOf (e :: ownD t))] := List.reverse_perm [(t, knC t), (tOne ⟨d.dc, d.n, s, 0⟩, ctxOf (d :: ownD t)), (tOne ⟨e.dc, e.n, u, 0⟩, ctxOf (e :: ownD t))]
  obtain ⟨b1, b2, _⟩ := ja_three hK hX' hY' hperm
  have n1 : ∀ {x : Dt}, x ∉ t.dots → x ∉ ownD t := fun h k => h (own_dots k)
  have hst : ∀ y, stE (jn (jn (t, knC t) (tOne ⟨d.dc, d.n, s, 0⟩, ctxOf (d :: ownD t))) (tOne ⟨e.dc, e.n, u, 0⟩, ctxOf (e :: ownD t))).1 [] y = if y = d then some ⟨d.dc, d.n, s, 0⟩ else if y = e then some ⟨e.dc, e.n, u, 0⟩ else none := fun y => by
    rw [jn_st (jn_okK hK hX') hY', jn_st hK hX', jn_has hK hX', stE_one, stE_one, hh, hh2, kn_hasB g1]
    by_cases hy : y = d
    · subst hy
      rw [stE_out hk.ord g3]
      simp [jnO, g3, n1 g3, hde, En.dot]
    · by_cases hy2 : y = e
      · subst hy2
        rw [stE_out hk.ord g5]
        simp [jnO, g5, n1 g5, hy, En.dot]
      · cases hs : stE t [] y with
        | none => simp [jnO, hy, hy2, En.dot]
        | some z => simp [jnO, hy, hy2, En.dot, own_st hk.ord hs]
  have hUf : hasC (jn (jn (t, knC t) (tOne ⟨d.dc, d.n, s, 0⟩, ctxOf (d :: ownD t))) (tOne ⟨e.dc, e.n, u, 0⟩, ctxOf (e :: ownD t))).2 f = false := by
    rw [jn_has (jn_okK hK hX') hY', jn_has hK hX', kn_hasB g1, hh, hh2]
    simp [g7, n1 g7, hdf.symm, hef.symm]
  have s1 := jn_sz hK hX'
  have s2 := jn_sz (jn_okK hK hX') hY'
  have s3 := kn_sz (t := t) (by omega)
  have s4 := wr_len (t := t) d
  have s5 := wr_len (t := t) e
  have z1 : (tOne ⟨d.dc, d.n, s, 0⟩ : Tr).sz = 1 := by simp [Tr.sz, Tr.szL]
  have z2 : (tOne ⟨e.dc, e.n, u, 0⟩ : Tr).sz = 1 := by simp [Tr.sz, Tr.szL]
  simp only at s1 s2
  have s7 : (jn (jn (t, knC t) (tOne ⟨d.dc, d.n, s, 0⟩, ctxOf (d :: ownD t))) (tOne ⟨e.dc, e.n, u, 0⟩, ctxOf (e :: ownD t))).2.length ≤ 10000 := by omega
  have s8 : (jn (jn (t, knC t) (tOne ⟨d.dc, d.n, s, 0⟩, ctxOf (d :: ownD t))) (tOne ⟨e.dc, e.n, u, 0⟩, ctxOf (e :: ownD t))).1.sz ≤ 64 := by omega
  clear s1 s2
  generalize (jn (jn (t, knC t) (tOne ⟨d.dc, d.n, s, 0⟩, ctxOf (d :: ownD t))) (tOne ⟨e.dc, e.n, u, 0⟩, ctxOf (e :: ownD t))) = J at a2 a3 b2 hst hUf s7 s8
  have hr := (right_iff a3.ord).2 a3.leaf
  have hv : valsOf J.1 = sdL [s, u] := by
    rw [vals_right hr]
    refine sdL_ext fun x => ?_
    unfold txtL
    rw [List.mem_map, List.mem_cons, List.mem_singleton]
    constructor
    · rintro ⟨z, hz, rfl⟩
      have h1 := (stE_some a3.ord).2 ⟨mem_es.2 hz, rfl⟩
      rw [hst] at h1
      split at h1
      · cases h1; exact .inl rfl
      · split at h1
        · cases h1; exact .inr rfl
        · cases h1
    · rintro (rfl | rfl)
      · have h1 := hst d
        rw [if_pos rfl] at h1
        exact ⟨_, mem_es.1 ((stE_some a3.ord).1 h1).1, rfl⟩
      · have h1 := hst e
        rw [if_neg (fun h => hde h.symm), if_pos rfl] at h1
        exact ⟨_, mem_es.1 ((stE_some a3.ord).1 h1).1, rfl⟩
  have hm4 : wrtB J.1 v f = true := by unfold wrtB; rw [chk_mk hr g6 (not_dots a3 hUf), hc3.2]; rfl
  obtain ⟨hZ, _⟩ := wr_ok hm4
  obtain ⟨c1, c2, c3⟩ := jn_ok a3 hZ
  have s9 := jT_sz a3 hZ
  have s6 := wr_len (t := J.1) f
  have z3 : (tOne ⟨f.dc, f.n, v, 0⟩ : Tr).sz = 1 := by simp [Tr.sz, Tr.szL]
  have k1 := es_sz J.1
  have k2 := es_sz (jT J.1 (tOne ⟨f.dc, f.n, v, 0⟩) J.2 (ctxOf (f :: ownD J.1)))
  have hpl : (sdL [s, u]).length ≤ 1000 := by
    rw [← hv]
    unfold valsOf
    have h1 := cmpL_len (srtL (if J.1.right 5 then txtL J.1 else []))
    rw [srtL_len] at h1
    have h2 : (if J.1.right 5 then txtL J.1 else []).length ≤ J.1.es.length := by split <;> simp [txtL]
    omega
  exact ⟨_, _, _, _, J.1, J.2, _, _, _, _, _, if_pos hm, if_pos hm, if_pos hm, if_pos hm2, if_pos hm2, if_pos hm2, congrArg Prod.fst a2, congrArg Prod.snd a2, a1, congrArg Prod.fst b2, congrArg Prod.snd b2, b1, (kSame_ok a3 a3).2 rfl, hv, rfl, if_pos hm4, if_pos hm4, if_pos hm4, c1, c2, c3, wr_turn a3 hm4 hUf, by simp [Tr.sz, Tr.szL], by simp [Tr.sz, Tr.szL], by simp [Tr.sz, Tr.szL], by omega, by omega, by omega, by omega, by omega, by omega, s7, s3, hpl, right_nums g1⟩
end Go.Proofs.YtmphgnjodangcaaGreat

namespace Go.Proofs.YtmphgnjodangcaaGreat
open Go.RowKit
set_option maxRecDepth 100000

def vB : ByteArray := ⟨#[118]⟩
def vT : Tr := .mk [⟨1, 1, vB, 0⟩] []
theorem srtL_one (s : ByteArray) : srtL [s] = [s] := by
  unfold srtL
  rw [List.map_cons, List.map_nil, List.mergeSort_singleton]; rfl
theorem cmpL_one (s : ByteArray) : cmpL [s] = [s] := by
  unfold cmpL
  rw [show Lib.compact ([s].map toBy) = [toBy s] by simp [Lib.compact, Lib.compactUpTo, Lib.keeps, List.range_succ]]; rfl
theorem awk13_E : wrtE (.mk [] []) vB ⟨1, 1⟩ = 0 := by kernel_rfl
theorem awk13_T : wrtT (.mk [] []) vB ⟨1, 1⟩ = vT := by kernel_rfl
theorem awk13_C : wrtC (.mk [] []) vB ⟨1, 1⟩ = ctxBy [] [⟨1, 1, 1⟩] 0 := by kernel_rfl
theorem awk13_R : vT.right 5 = true := by kernel_rfl
theorem awk13_V : valsOf vT = [vB] := by
  unfold valsOf
  rw [awk13_R, if_pos rfl, show txtL vT = [vB] from rfl, srtL_one, cmpL_one]
set_option maxHeartbeats 4000000 in
theorem awake13_any (w : World) : Calls Tryz.prog 48 #[] w fun e w' => e = .returned (.bool true) ∧ Below w.heap.size w w' := by
  have hb0 := (Below.refl w.heap.size w).alloc (Nat.le_refl _) (.cells #[.int .i64 1, .int .i64 1] 54)
  go_enter Tryz.func48, Tryz.ntmps48
  go_wp2_with fail
  refine (rwrite_any (.mk [] []) vB ⟨1, 1⟩ _ _ _ rd_empty (by decide) (by simp [Tr.sz, Tr.szL]) ⟨⟨by decide, by decide⟩, ⟨by decide, by decide⟩⟩).mono ?_
  rintro e w1 ⟨ve, vk, vc, rfl, hrd, hsc, hb1⟩
  rw [awk13_E]
  rw [awk13_T] at hrd
  rw [awk13_C] at hsc
  have hP : buildL [([], ⟨1, 1, vB, 0⟩)] = vT := build_one_leaf _
  have hV := awk13_V
  have hkn : vT.es.length ≤ 900000 := by decide
  generalize vT = T at *
  have hP2 : trEq T (buildL [([], ⟨1, 1, vB, 0⟩)]) = true := by rw [hP]; simp [trEq]
  generalize hC : ctxBy [] [(⟨1, 1, 1⟩ : Sp)] 0 = C at hsc
  obtain ⟨C', hC'⟩ : ∃ C', C' = C := ⟨_, rfl⟩
  have HSM : Hid ((trEq T (buildL [([], ⟨1, 1, vB, 0⟩)]) && decide (C = C')) = true) := by
    unfold Hid; rw [hP2, hC']; simp
  have HPC : Hid (ctxBy [] [(⟨1, 1, 1⟩ : Sp)] 0 = C') := hC.trans hC'.symm
  have HAK : Hid (decide (valsOf T = [vB]) = true) := by unfold Hid; rw [hV]; simp
  have HKL : Hid ((valsOf T).length ≤ Big) := by unfold Hid; rw [hV]; decide
  have HAZ : Hid (vB.size ≤ Big) := by unfold Hid; decide
  clear hC' hP hP2 hC hV
  obtain ⟨Ae, ne, Ak, nk, rfl, rfl⟩ := rda_shape hrd
  obtain ⟨Ac, nc, rfl⟩ := hsc.shape
  have hs1 := hb1.size
  simp only [World.size_alloc] at hs1
  have hB1 : Below w.heap.size w w1 := hb0.trans (hb1.mono (by simp))
  have d0 : w1.cell? ⟨w.heap.size, 0, none⟩ = some (.int .i64 1) := by rw [hb1.cell (p := ⟨w.heap.size, 0, none⟩) (by simp)]; simp
  have d1 : w1.cell? ⟨w.heap.size, 1, none⟩ = some (.int .i64 1) := by rw [hb1.cell (p := ⟨w.heap.size, 1, none⟩) (by simp)]; simp
  have HT : Hid (∀ w', Below w1.heap.size w1 w' → T.rd w' w'.heap.size (.slice Ae T.es.length ne) (.slice Ak T.ks.length nk)) := fun w' hb => rda_rd hrd (fun b hb => hb.2) hb
  have HCt : Hid (∀ w', Below w1.heap.size w1 w' → SlP w' w'.heap.size 3 SpE (.slice Ac C.length nc) C) := fun w' hb => hsc.slp (fun b hb => hb.2) hb
  have HB : Hid (∀ w', Below (w1.heap.size + 1) (w1.alloc (.cells #[.slice Ae T.es.length ne, .slice Ak T.ks.length nk, .slice Ac C.length nc] 31)) w' → Below w.heap.size w w' ∧ Below w1.heap.size w1 w' ∧ (w'.cell? ⟨w.heap.size, 0, none⟩ = some (.int .i64 1) ∧ w'.cell? ⟨w.heap.size, 1, none⟩ = some (.int .i64 1) ∧ w'.cell? ⟨w1.heap.size, 0, none⟩ = some (.slice Ae T.es.length ne) ∧ w'.cell? ⟨w1.heap.size, 1, none⟩ = some (.slice Ak T.ks.length nk) ∧ w'.cell? ⟨w1.heap.size, 2, none⟩ = some (.slice Ac C.length nc))) := fun w' hb => by
    have hB : Below w1.heap.size w1 w' := ((Below.refl _ w1).alloc (Nat.le_refl _) _).trans (hb.mono (by omega))
    refine ⟨hB1.trans (hB.mono (by omega)), hB, ?_, ?_, ?_, ?_, ?_⟩
    · rw [hB.cell (p := ⟨w.heap.size, 0, none⟩) (by show w.heap.size < _; omega)]; exact d0
    · rw [hB.cell (p := ⟨w.heap.size, 1, none⟩) (by show w.heap.size < _; omega)]; exact d1
    · rw [hb.cell (p := ⟨w1.heap.size, 0, none⟩) (by simp), World.cell?_alloc_new]; rfl
    · rw [hb.cell (p := ⟨w1.heap.size, 1, none⟩) (by simp), World.cell?_alloc_new]; rfl
    · rw [hb.cell (p := ⟨w1.heap.size, 2, none⟩) (by simp), World.cell?_alloc_new]; rfl
  have hne1 : w.heap.size < w1.heap.size := by omega
  clear hrd hsc hb1
  go_upto_region 3 with (fail)
  go_region_held3 (fun w' => w'.cell? ⟨w.heap.size, 0, none⟩ = some (.int .i64 1) ∧ w'.cell? ⟨w.heap.size, 1, none⟩ = some (.int .i64 1) ∧ w'.cell? ⟨w1.heap.size, 0, none⟩ = some (.slice Ae T.es.length ne) ∧ w'.cell? ⟨w1.heap.size, 1, none⟩ = some (.slice Ak T.ks.length nk) ∧ w'.cell? ⟨w1.heap.size, 2, none⟩ = some (.slice Ac C.length nc))
    (first | go_keep | exact (HB.out _ hb6.out).2.2 | exact (HB.out _ hb5.out).2.2 | exact (HB.out _ hb4.out).2.2 | exact (HB.out _ hb3.out).2.2)
    (first | (go_at_call 53; go_loud ((refine (rvals_any T _ _ _ (HT.out _ (by go_grown)) hkn).mono ?_); rintro e w3 ⟨v3, rfl, ho3, hb⟩; obtain ⟨A9, c9, hv9⟩ := ho3.shape; subst hv9; have HK3 := hid (ho3.sl HKL.out); have hb3 : Hid (Below (w1.heap.size + 1) (w1.alloc (.cells #[.slice Ae T.es.length ne, .slice Ak T.ks.length nk, .slice Ac C.length nc] 31)) w3) := (Below.trans (by go_grown) (hb.mono (by simp))); have hs3 := hb3.out.size; simp only [World.size_alloc] at hs3; (try (have HKC : Hid (w3.cell? ⟨w1.heap.size + 1, 0, none⟩ = some (.string vB)) := (hb.cell (p := ⟨w1.heap.size + 1, 0, none⟩) (by simp; done)).trans (by rw [World.cell?_drew, World.cell?_alloc_at _ _ _ _ (by simp)]; rfl))); (try (have HKC : Hid (w3.cell? ⟨w1.heap.size + 1, 0, none⟩ = some (.string vB)) := (hb.cell (p := ⟨w1.heap.size + 1, 0, none⟩) (by simp; done)).trans (by rw [World.cell?_alloc_at _ _ _ _ (by simp)]; rfl))); clear ho3))
           | (go_at_call 52; go_loud ((refine (r10alike_any (valsOf T) [vB] _ _ _ (w3.heap.size + 1) (HK3.out.imp (by go_grown) (by omega) fun _ _ _ h => h) (by first | exact SlP.oneB (x := vB) (cs := [.string vB]) ⟨rfl, HAZ.out⟩ rfl _ rfl (by omega) | exact SlP.at1 HKC.out HAZ.out (by have := hb.size; simp at this; omega))).mono ?_); rw [HAK.out]; rintro e w4 ⟨rfl, n4, hw4⟩; have hb4 : Hid (Below (w1.heap.size + 1) (w1.alloc (.cells #[.slice Ae T.es.length ne, .slice Ak T.ks.length nk, .slice Ac C.length nc] 31)) w4) := (hw4 ▸ below_drewN (by first | exact hb3.out | exact hb3.out.alloc (by omega) _) n4); have hs4 := hb4.out.size; simp only [World.size_alloc] at hs4; clear hw4))
           | (go_at_call 120; go_loud ((refine (r10put_any [] ⟨1, 1, vB, 0⟩ [] _ _ _ ⟨⟨by decide, by decide⟩, ⟨by decide, by decide⟩, ⟨by decide, by decide⟩, HAZ.out⟩ SlP.nil SlP.nil (by simp) (fun _ h => by cases h) (fun s hs => by simp at hs; subst hs; decide)).mono ?_); rw [HPC.out]; rintro e w5 ⟨ve5, vk5, vc5, rfl, hrd5, hsc5, hb⟩; obtain ⟨A5, n5, A6, n6, hv5, hv6⟩ := rda_shape hrd5; subst hv5; subst hv6; obtain ⟨A7, n7, hv7⟩ := hsc5.shape; subst hv7; have hrd6 := hid (rda_rd hrd5 (fun b hb => hb.2) (Below.refl _ _)); have hsc6 := hid (hsc5.slp (fun b hb => hb.2) (Below.refl _ _)); clear hrd5 hsc5; have hb5 := hid (hb4.out.trans (hb.mono (by omega)))))
           | (go_at_call 31; go_loud ((refine (r09same_any T _ C C' _ _ _ _ _ _ w5 (HT.out _ (HB.out _ hb5.out).2.1) hrd6.out (HCt.out _ (HB.out _ hb5.out).2.1) hsc6.out).mono ?_); rw [HSM.out]; rintro e w6 ⟨rfl, hb⟩; have hb6 := hid (hb5.out.trans (hb.mono (by have := hb5.out.size; simpa using this))))))
  all_goals
    go_wp2_with fail
    go_ret
    exact ⟨rfl, (HB.out _ hb6.out).1⟩
end Go.Proofs.YtmphgnjodangcaaGreat

namespace Go.Proofs.YtmphgnjodangcaaGreat
open Go.RowKit
set_option maxRecDepth 100000

theorem small13_any (t : Tr) (w : World) (ve vk : Value) (h : t.rd w w.heap.size ve vk) :
    Calls Tryz.prog 49 #[.agg #[ve, vk]] w fun e w' => e = .returned (.bool (smlB t 60)) ∧ Below w.heap.size w w' := by
  have HC : Hid (∀ w', Below w.heap.size w w' → t.rd w' w'.heap.size ve vk) := fun w' hb => rd_below hb hb.size _ _ _ h
  obtain ⟨A3, n3, A4, n4, rfl, rfl⟩ := rd_shape h
  have hb0 := (Below.refl w.heap.size w).alloc (Nat.le_refl _) (.cells #[.slice A3 t.es.length n3, .slice A4 t.ks.length n4] 27)
  clear h
  go_enter Tryz.func49, Tryz.ntmps49
  go_wp2_with fail
  refine (r08small_any t _ _ _ 60 (HC.out _ hb0) (by omega) (by omega)).mono ?_
  rintro e w1 ⟨rfl, hb1⟩
  rw [show decide (0 ≤ t.room 60 8) = smlB t 60 from rfl]
  go_wp2_with fail
  go_ret
  exact ⟨rfl, hb0.trans (hb1.mono (by simp))⟩
end Go.Proofs.YtmphgnjodangcaaGreat

namespace Go.Proofs.YtmphgnjodangcaaGreat
open Go.RowKit
set_option maxRecDepth 100000

theorem may13_any (t : Tr) (s : ByteArray) (d : Dt) (ve vk : Value) (w : World) (h : t.rd w w.heap.size ve vk) (hkb : s.size ≤ Big) (hN : t.sz ≤ 90000) :
    Calls Tryz.prog 50 #[.agg #[ve, vk], .string s, .agg #[.int .i64 d.dc, .int .i64 d.n]] w fun e w' => e = .returned (.bool (wrtB t s d)) ∧ Below w.heap.size w w' := by
  have HC : Hid (∀ w', Below w.heap.size w w' → t.rd w' w'.heap.size ve vk) := fun w' hb => rd_below hb hb.size _ _ _ h
  obtain ⟨A3, n3, A4, n4, rfl, rfl⟩ := rd_shape h
  unfold Big at hkb
  have hb0 := ((Below.refl w.heap.size w).alloc (Nat.le_refl _) (.cells #[.slice A3 t.es.length n3, .slice A4 t.ks.length n4] 27)).alloc (by simp) (.cells #[.int .i64 d.dc, .int .i64 d.n] 54)
  clear h
  go_enter Tryz.func50, Tryz.ntmps50
  go_wp2_with fail
  refine (r10check_any t d _ _ _ (HC.out _ hb0) hN).mono ?_
  rintro e w1 ⟨rfl, hb1⟩
  have hB1 : Below w.heap.size w w1 := hb0.trans (hb1.mono (by simp; omega))
  cases hc : chkT t d
  · have HR : Hid (wrtB t s d = false) := by unfold Hid wrtB; rw [hc]; rfl
    clear hc
    go_wp2_with fail
    go_ret
    exact ⟨ret_bool HR.out.symm, hB1⟩
  · have HR : Hid (wrtB t s d = decide ((s.size : Int) ≤ 30)) := by unfold Hid wrtB; rw [hc, Bool.eq_iff_iff]; simp; omega
    clear hc
    cases hz : decide ((s.size : Int) ≤ 30)
    · rw [hz] at HR
      have hz2 : decide (s.size ≤ 30) = false := by simp at hz ⊢; omega
      go_wp2_with fail
      go_ret
      exact ⟨ret_bool HR.out.symm, hB1⟩
    · rw [hz] at HR
      have hz2 : decide (s.size ≤ 30) = true := by simp at hz ⊢; omega
      go_wp2_with fail
      go_ret
      exact ⟨ret_bool HR.out.symm, hB1⟩
end Go.Proofs.YtmphgnjodangcaaGreat

namespace Go.Proofs.YtmphgnjodangcaaGreat
open Go.RowKit
set_option maxRecDepth 100000

set_option maxHeartbeats 4000000 in
theorem r10sorted_any (l : List ByteArray) (v : Value) (w : World) (h : SlP w w.heap.size 1 StE v l) (hN : l.length ≤ 900000) :
    Calls Tryz.prog 54 #[v] w (RetO w 9 1 (fun _ => StE) (sdL l)) := by
  have HSZ : Hid (∀ x ∈ l, x.size ≤ Big) := fun x hx => by
    obtain ⟨_, _, _, _, _, h3⟩ := h
    obtain ⟨b, off, _, _, hc⟩ := h3 (by rintro rfl; cases hx)
    obtain ⟨j, hj⟩ := List.getElem?_of_mem hx
    obtain ⟨cs, ⟨_, hok⟩, _⟩ := hc j x hj
    exact hok
  obtain ⟨A, c, rfl, l1, l2, l3⟩ := h
  unfold Big at l2
  go_enter Tryz.func54, Tryz.ntmps54
  go_wp2_with fail
  go_loopg [3] (l.length + 1) (fun n vo wr => ∃ out : List ByteArray, OwnP wr w.heap.size 9 1 StE vo out ∧ Below w.heap.size w wr ∧ Hid (sdGo l n out = sdL l) ∧ Hid (ahT l out.getLast? < n) ∧ Hid (out.length + n ≤ l.length + 1))
  case atStart => exact ⟨[], OwnP.nil, Below.refl _ _, rfl, by have := ahT_le l ([] : List ByteArray).getLast?; unfold Hid; omega, by unfold Hid; simp⟩
  case round =>
    obtain ⟨out, hown, hb, hgo, hah, hle⟩ := hrel
    have hol : out.length ≤ 900000 := by have := hle.out; have := hah.out; omega
    obtain ⟨Ae, ce, rfl⟩ := hown.shape
    have HSP := hid (hown.sl (by unfold Big; omega))
    have HOW := hid hown
    clear hown
    go_wp2_with fail
    obtain ⟨wo, rfl⟩ : ∃ wo : World, wo = wr := ⟨_, rfl⟩
    go_loopw [4, 5, 9] (fun vb vs i wr => ∃ k : Nat, k ≤ l.length ∧ i = .int .i64 k ∧ vb = .string (((l.take k).foldl (pickS out.getLast?) none).getD ByteArray.empty) ∧ vs = .bool ((l.take k).foldl (pickS out.getLast?) none).isSome ∧ Below wo.heap.size wo wr) (fun _ _ i _ => l.length - (intOf i).toNat)
    case atStart => exact ⟨0, Nat.zero_le _, rfl, rfl, rfl, Below.refl _ _⟩
    case round =>
      obtain ⟨k, hk, rfl, rfl, rfl, hbr⟩ := hrel
      have hs2 := hbr.size
      have hB : Below w.heap.size w wr := hb.trans (hbr.mono hb.size)
      by_cases hlt : k < l.length
      · obtain ⟨x, hx⟩ : ∃ x, l[k]? = some x := ⟨_, List.getElem?_eq_getElem hlt⟩
        obtain ⟨b, off, rfl, hbB, hc⟩ := l3 (by rintro rfl; simp at hlt)
        obtain ⟨cs, ⟨rfl, hok⟩, _, hu⟩ := hc k _ hx
        have e0 : wr.cell? ⟨b, off + k, none⟩ = some (.string x) := (hB.cell (p := ⟨b, off + k, none⟩) hbB).trans (by simpa using hu 0 _ rfl)
        have hsz := hB.size
        have q0 := far_cell (B := wr.heap.size) e0 (by omega)
        have HE0 : Hid (∀ m', Below wr.heap.size wr m' → m'.cell? ⟨b, off + k, none⟩ = some (.string x)) := fun m' hm => (hm.cell (p := ⟨b, off + k, none⟩) (by show b < _; omega)).trans e0
        have hut := pick_take hx out.getLast? none
        clear hu hc l3 hx e0 hgo hah hle
        rcases nil_or_snoc out with rfl | ⟨out', z, rfl⟩
        · generalize hbst : (l.take k).foldl (pickS ([] : List ByteArray).getLast?) none = bst at *
          cases bst with
          | none =>
            have HX : Hid ((l.take (k + 1)).foldl (pickS ([] : List ByteArray).getLast?) none = some x) := by unfold Hid; rw [hut]; simp [pickS, pickC, okT]
            clear hut hbst
            go_upto_region 6 with (fail)
            refine wp_region_far wr.heap.size (by kernel_rfl) (by kernel_rfl) ?_
            repeat (go_big_quiet_step (fail))
            refine wpQuiet_nil ?_
            intro wq hbq
            have e0 := HE0.out wq hbq
            go_wp2_with fail
            go_roundw
            case rel => exact ⟨k + 1, by omega, by go_num, by rw [HX.out] <;> rfl, by rw [HX.out] <;> rfl, hbr.trans (hbq.mono (by omega))⟩
            case measure => simp [intOf]; omega
          | some y =>
            rcases hyx : Op.bytesLess x.toList y.toList
            · have HX : Hid ((l.take (k + 1)).foldl (pickS ([] : List ByteArray).getLast?) none = some y) := by unfold Hid; rw [hut]; simp [pickS, pickC, okT, ltS, hyx]
              clear hut hbst
              simp only [Option.getD_some, Option.isSome_some] at *
              go_upto_region 6 with (fail)
              refine wp_region_far wr.heap.size (by kernel_rfl) (by kernel_rfl) ?_
              repeat (go_big_quiet_step (fail))
              refine wpQuiet_nil ?_
              intro wq hbq
              go_wp2_with fail
              go_roundw
              case rel => exact ⟨k + 1, by omega, by go_num, by rw [HX.out] <;> rfl, by rw [HX.out] <;> rfl, hbr.trans (hbq.mono (by omega))⟩
              case measure => simp [intOf]; omega
            · have HX : Hid ((l.take (k + 1)).foldl (pickS ([] : List ByteArray).getLast?) none = some x) := by unfold Hid; rw [hut]; simp [pickS, pickC, okT, ltS, hyx]
              clear hut hbst
              simp only [Option.getD_some, Option.isSome_some] at *
              go_upto_region 6 with (fail)
              refine wp_region_far wr.heap.size (by kernel_rfl) (by kernel_rfl) ?_
              repeat (go_big_quiet_step (fail))
              refine wpQuiet_nil ?_
              intro wq hbq
              have e0 := HE0.out wq hbq
              go_wp2_with fail
              go_roundw
              case rel => exact ⟨k + 1, by omega, by go_num, by rw [HX.out] <;> rfl, by rw [HX.out] <;> rfl, hbr.trans (hbq.mono (by omega))⟩
              case measure => simp [intOf]; omega
        · have hgl : (out' ++ [z]).getLast? = some z := by simp
          rw [hgl] at hut ⊢
          obtain ⟨np, hnp, hne, hnp1⟩ : ∃ np : Nat, (out' ++ [z]).length = np + 1 ∧ (((np : Int) + 1) == 0) = false ∧ np < 900000 := ⟨out'.length, by simp, by simp; omega, by simp at hol; omega⟩
          obtain ⟨A9, c9, hv9, _, _, hcz⟩ := HSP.out
          simp only [Value.slice.injEq] at hv9
          obtain ⟨rfl, _, rfl⟩ := hv9
          obtain ⟨bz, oz, rfl, hbz, hcz⟩ := hcz (by simp)
          have hzn : (out' ++ [z])[np]? = some z := by
            have e : np = out'.length := by simpa using hnp.symm
            rw [e]; simp
          obtain ⟨cz, ⟨rfl, hokz⟩, _, huz⟩ := hcz np z hzn
          have w0 := far_cell (B := wr.heap.size) ((hbr.cell (p := ⟨bz, oz + np, none⟩) hbz).trans (by simpa using huz 0 _ rfl)) (by omega)
          have hwr : IntKind.i64.wrap (((np + 1 : Nat) : Int) - 1) = (np : Int) := by rw [show (((np + 1 : Nat) : Int)) - 1 = (np : Int) by omega]; exact IntWalk.i64_in _ (by omega)
          have hne2 : ((((np + 1 : Nat) : Int)) == 0) = false := by simp; omega
          have hgt := ltS_gt z x
          clear hcz huz hzn
          rw [hnp]
          have HNP := hid hnp
          clear hnp
          have hpk0 : ∀ b : Option ByteArray, pickC (some z) b x = (ltS z x && (match b with | none => true | some c => ltS x c)) := fun _ => rfl
          generalize hbst : (l.take k).foldl (pickS (some z)) none = bst at *
          have hpk := hpk0 bst
          clear hpk0
          rw [hgt] at hpk
          rcases g1 : Op.bytesLess x.toList z.toList
          case true =>
            have HX : Hid ((l.take (k + 1)).foldl (pickS (some z)) none = bst) := by unfold Hid; rw [hut, pickS, hpk, g1]; simp
            clear hut hpk hgt hbst
            go_upto_region 6 with (fail)
            refine wp_region_far wr.heap.size (by kernel_rfl) (by kernel_rfl) ?_
            repeat (go_big_quiet_step (fail))
            refine wpQuiet_nil ?_
            intro wq hbq
            go_wp2_with fail
            go_roundw
            case rel => exact ⟨k + 1, by omega, by go_num, by rw [HX.out] <;> rfl, by rw [HX.out] <;> rfl, hbr.trans (hbq.mono (by omega))⟩
            case measure => simp [intOf]; omega
          rcases g2 : (x.toList == z.toList)
          case true =>
            have HX : Hid ((l.take (k + 1)).foldl (pickS (some z)) none = bst) := by unfold Hid; rw [hut, pickS, hpk, g2]; simp
            have g3 : x.toList = z.toList := by simpa using g2
            clear hut hpk hgt hbst
            go_upto_region 6 with (fail)
            refine wp_region_far wr.heap.size (by kernel_rfl) (by kernel_rfl) ?_
            repeat (go_big_quiet_step (fail))
            refine wpQuiet_nil ?_
            intro wq hbq
            go_wp2_with fail
            go_roundw
            case rel => exact ⟨k + 1, by omega, by go_num, by rw [HX.out] <;> rfl, by rw [HX.out] <;> rfl, hbr.trans (hbq.mono (by omega))⟩
            case measure => simp [intOf]; omega
          have g3 : ¬ x.toList = z.toList := by simpa using g2
          cases bst with
          | none =>
            have HX : Hid ((l.take (k + 1)).foldl (pickS (some z)) none = some x) := by unfold Hid; rw [hut, pickS, hpk, g1, g2]; rfl
            clear hut hpk hgt hbst
            go_upto_region 6 with (fail)
            refine wp_region_far wr.heap.size (by kernel_rfl) (by kernel_rfl) ?_
            repeat (go_big_quiet_step (fail))
            refine wpQuiet_nil ?_
            intro wq hbq
            have e0 := HE0.out wq hbq
            go_wp2_with fail
            go_roundw
            case rel => exact ⟨k + 1, by omega, by go_num, by rw [HX.out] <;> rfl, by rw [HX.out] <;> rfl, hbr.trans (hbq.mono (by omega))⟩
            case measure => simp [intOf]; omega
          | some y =>
            rcases hyx : Op.bytesLess x.toList y.toList
            · have HX : Hid ((l.take (k + 1)).foldl (pickS (some z)) none = some y) := by unfold Hid; rw [hut, pickS, hpk, g1, g2]; simp [ltS, hyx]
              clear hut hpk hgt hbst
              simp only [Option.getD_some, Option.isSome_some] at *
              go_upto_region 6 with (fail)
              refine wp_region_far wr.heap.size (by kernel_rfl) (by kernel_rfl) ?_
              repeat (go_big_quiet_step (fail))
              refine wpQuiet_nil ?_
              intro wq hbq
              go_wp2_with fail
              go_roundw
              case rel => exact ⟨k + 1, by omega, by go_num, by rw [HX.out] <;> rfl, by rw [HX.out] <;> rfl, hbr.trans (hbq.mono (by omega))⟩
              case measure => simp [intOf]; omega
            · have HX : Hid ((l.take (k + 1)).foldl (pickS (some z)) none = some x) := by unfold Hid; rw [hut, pickS, hpk, g1, g2]; simp [ltS, hyx]
              clear hut hpk hgt hbst
              simp only [Option.getD_some, Option.isSome_some] at *
              go_upto_region 6 with (fail)
              refine wp_region_far wr.heap.size (by kernel_rfl) (by kernel_rfl) ?_
              repeat (go_big_quiet_step (fail))
              refine wpQuiet_nil ?_
              intro wq hbq
              have e0 := HE0.out wq hbq
              go_wp2_with fail
              go_roundw
              case rel => exact ⟨k + 1, by omega, by go_num, by rw [HX.out] <;> rfl, by rw [HX.out] <;> rfl, hbr.trans (hbq.mono (by omega))⟩
              case measure => simp [intOf]; omega
      · obtain rfl : k = l.length := by omega
        rw [List.take_of_length_le (Nat.le_refl _)]
        obtain ⟨n, rfl⟩ : ∃ n, gk = n + 1 := ⟨gk - 1, by have := hah.out; omega⟩
        have hgo' := hgo.out
        rw [sdGo] at hgo'
        generalize hbst : l.foldl (pickS out.getLast?) none = bst at *
        cases bst with
        | none =>
          have HF : Hid (out = sdL l) := hgo'
          clear hgo' hgo hbst l3
          go_wp2_with fail
          go_ret
          exact ⟨_, rfl, by rw [← HF.out]; exact HOW.out.grow hbr, hB⟩
        | some y =>
          have HF : Hid (sdGo l n (out ++ [y]) = sdL l) := hgo'
          have HM := hid (pick_mem l out.getLast? none (fun _ h => by cases h) y hbst)
          have HA : Hid (ahT l (out ++ [y]).getLast? < n) := by
            have h1 := ahT_lt hbst
            have h2 := hah.out
            unfold Hid; rw [List.getLast?_concat]; omega
          have HY : Hid (StE y [.string y]) := ⟨rfl, by
            rcases HM.out.1 with h | h
            · cases h
            · exact HSZ.out y h⟩
          have HL : Hid (out.length + [y].length ≤ Few) := by unfold Hid Few; simp; omega
          have hlo := hle.out
          have hown := HOW.out.grow hbr
          clear hgo' hgo hbst l3 hah
          simp only [Option.getD_some, Option.isSome_some]
          go_wp2_with (at_builtin; go_loud ((with_reducible refine wpList_few rfl (.tmp 48) (.tmp 50) _ rfl eiStr (by decide) (by decide) (fun _ _ h => StE.one h) rfl (hown.alloc _) rfl (SlP.one (x := y) HY.out rfl _ rfl) HL.out (by rw [World.size_alloc]; have := hB.size; omega) ?_); intro v1 w1 hown1 hb1 _))
          go_roundg n
          case measure => omega
          case rel => exact ⟨out ++ [y], hown1, (hB.alloc hB.size _).trans hb1, HF.out, HA.out, by unfold Hid; simp; omega⟩

set_option maxHeartbeats 4000000 in
theorem r10texts_any (t : Tr) (w : World) (ve vk : Value) (h : t.rd w w.heap.size ve vk) (hN : t.es.length ≤ 900000) :
    Calls Tryz.prog 156 #[.agg #[ve, vk]] w (RetO w 9 1 (fun _ => StE) (sdL (t.es.map (·.s)))) := by
  obtain ⟨es, ks⟩ := t
  rw [rd_iff] at h
  obtain ⟨⟨A, m, rfl, c1, c2, c3⟩, ⟨A0, n0, rfl, d1, d2, d3⟩⟩ := h
  unfold Big at c2 d2
  simp only [Tr.es] at hN ⊢
  have hb0 : Below w.heap.size w (w.alloc (.cells #[.slice A es.length m, .slice A0 ks.length n0] 27)) := (Below.refl _ w).alloc (Nat.le_refl _) _
  go_enter Tryz.func156, Tryz.ntmps156
  go_wp2_with fail
  go_loopw [3, 8] (fun v i wr => ∃ k : Nat, k ≤ es.length ∧ i = .int .i64 k ∧ OwnP wr (w.heap.size + 1) 9 1 StE v ((es.take k).map (·.s)) ∧ Below (w.heap.size + 1) (w.alloc (.cells #[.slice A es.length m, .slice A0 ks.length n0] 27)) wr) (fun _ i _ => es.length - (intOf i).toNat)
  case atStart => exact ⟨0, Nat.zero_le _, rfl, OwnP.nil, Below.refl _ _⟩
  case round =>
    obtain ⟨k, hk, rfl, hown, hb⟩ := hrel
    have hsz := hb.size
    simp only [World.size_alloc] at hsz
    have hB0 : Below w.heap.size w wr := hb0.trans (hb.mono (by omega))
    by_cases hlt : k < es.length
    · obtain ⟨x, hx⟩ : ∃ x, es[k]? = some x := ⟨_, List.getElem?_eq_getElem hlt⟩
      obtain ⟨b, off, rfl, hbB, hc⟩ := c3 (by rintro rfl; simp at hlt)
      obtain ⟨cs, ⟨rfl, hok⟩, _, hu⟩ := hc k _ hx
      have e2 : wr.cell? ⟨b, off + k * 4 + 2, none⟩ = some (.string x.s) := (hB0.cell hbB).trans (hu 2 _ rfl)
      have z0 : wr.cell? ⟨w.heap.size, 0, none⟩ = some (.slice (some ⟨b, off, none⟩) es.length m) := by rw [hb.cell (p := ⟨w.heap.size, 0, none⟩) (by simp)]; simp
      have HX : Hid ((es.take (k + 1)).map (·.s) = (es.take k).map (·.s) ++ [x.s]) := by unfold Hid; rw [List.take_add_one, hx]; simp
      have HL : Hid (((es.take k).map (·.s)).length + [x.s].length ≤ Few) := by unfold Hid Few; simp; omega
      have HKY : Hid (StE x.s [.string x.s]) := ⟨rfl, hok.s⟩
      clear hu hc c3 hx hb0 hok d3
      go_wp2_with (at_builtin; go_loud ((with_reducible refine wpList_few rfl (.tmp 11) (.tmp 18) _ rfl eiStr (by decide) (by decide) (fun _ _ h => StE.one h) rfl (hown.alloc _) rfl (SlP.one (x := x.s) HKY.out rfl _ rfl) HL.out (by rw [World.size_alloc]; omega) ?_); intro v1 w1 hown1 hb1 _; have hb2 := ((Below.refl (w.heap.size + 1) wr).alloc (by omega) _).trans hb1))
      go_roundw
      case rel => exact ⟨k + 1, by omega, by go_num, by rw [HX.out]; exact hown1, hb.trans hb2⟩
      case measure => simp [intOf]; omega
    · obtain rfl : k = es.length := by omega
      rw [List.take_of_length_le (Nat.le_refl _)] at hown
      have hLl : (es.map (·.s)).length ≤ 900000 := by simp; omega
      clear c3 d3
      obtain ⟨L, hL⟩ : ∃ L, L = es.map (·.s) := ⟨_, rfl⟩
      rw [← hL] at hown hLl
      have HLL := hid hL
      clear hL
      have HS := hid (hown.sl (by unfold Big; omega))
      go_wp2_with fail
      refine (r10sorted_any L _ wr HS.out hLl).mono ?_
      rintro e w2 ⟨v2, rfl, ho2, hb2⟩
      go_wp2_with fail
      go_ret
      exact ⟨v2, rfl, by rw [← HLL.out]; exact ho2.mono (show w.heap.size ≤ wr.heap.size by omega), hB0.trans (hb2.mono (show w.heap.size ≤ wr.heap.size by omega))⟩
end Go.Proofs.YtmphgnjodangcaaGreat

namespace Go.Proofs.YtmphgnjodangcaaGreat
open Go.RowKit
set_option maxRecDepth 100000

theorem jaK_take {l : List Kn} {k : Nat} {x : Kn} (h : l[k]? = some x) (hk : jaK (l.take k) = true) : jaK (l.take (k + 1)) = caK x := by
  unfold jaK at *
  rw [List.take_add_one, h, List.all_append, hk]; simp
theorem jaK_bad {l : List Kn} {x : Kn} (h : x ∈ l) (hk : caK x = false) : jaK l = false := List.all_eq_false.2 ⟨x, h, by simp [hk]⟩
theorem jnL_take {l : List Kn} {k : Nat} {x : Kn} (h : l[k]? = some x) : jnL (l.take (k + 1)) = jn (jnL (l.take k)) x := by
  rw [List.take_add_one, h]; exact jnL_snoc _ _
theorem sum_take {α : Type} (f : α → Nat) : ∀ (l : List α) (k : Nat), ((l.take k).map f).sum ≤ (l.map f).sum
  | [], k => by simp
  | x :: l, 0 => by simp
  | x :: l, k + 1 => by have := sum_take f l k; simp only [List.take_succ_cons, List.map_cons, List.sum_cons]; omega
theorem sum_mem {α : Type} (f : α → Nat) : ∀ {l : List α} {x : α}, x ∈ l → f x ≤ (l.map f).sum
  | y :: l, x, h => by
    rcases List.mem_cons.1 h with rfl | h
    · simp
    · have := sum_mem f h; simp; omega
/-- What stands in a loop of JoinAll. -/
def JaIn (w wr : World) (x : Kn) : Prop :=
  ∃ ve vk vc, wr.heap[w.heap.size + 1]? = some (.cells #[ve, vk, vc] 31 (0, 0)) ∧ x.1.rda wr (fun b => w.heap.size + 2 ≤ b ∧ b < wr.heap.size) ve vk ∧ SlA wr (fun b => w.heap.size + 2 ≤ b ∧ b < wr.heap.size) 3 SpE vc x.2
set_option maxHeartbeats 4000000 in
theorem joinAll_any (l : List Kn) (vl : Value) (w : World) (h : SlP w w.heap.size 3 (CaE w w.heap.size) vl l) (hz1 : (l.map fun x => x.1.sz).sum ≤ 4000) (hz2 : (l.map fun x => x.2.length).sum ≤ 20000) :
    Calls Tryz.prog 30 #[vl] w (RetCE w (jaR l).1 (jaR l).2 (jaE l)) := by
  obtain ⟨A, m, rfl, c1, c2, c3⟩ := h
  unfold Big at c2
  have hb0 : Below w.heap.size w ((w.alloc (.cells #[.slice none 0 0, .slice none 0 0, .slice none 0 0] 31)).alloc (.cells #[.slice none 0 0, .slice none 0 0, .slice none 0 0] 31)) := ((Below.refl _ w).alloc (Nat.le_refl _) _).alloc (by simp) _
  have HSZ : Hid (∀ k, jaK (l.take k) = true → KOk (jnL (l.take k)) ∧ (jnL (l.take k)).1.sz ≤ 4000 ∧ (jnL (l.take k)).2.length ≤ 20000) := fun k hk => by
    have h1 := jaK_iff.1 hk
    have h2 := foldl_sz (l.take k) kn0 kn0_ok h1
    have h3 := sum_take (fun x : Kn => x.1.sz) l k
    have h4 := sum_take (fun x : Kn => x.2.length) l k
    have e1 : kn0.1.sz = 0 := rfl
    have e2 : kn0.2.length = 0 := rfl
    exact ⟨jnL_ok h1, by unfold jnL; omega, by unfold jnL; omega⟩
  have HSM : Hid (∀ x ∈ l, x.1.sz ≤ 4000 ∧ x.2.length ≤ 20000) := fun x hx => by
    have h3 := sum_mem (fun x : Kn => x.1.sz) hx
    have h4 := sum_mem (fun x : Kn => x.2.length) hx
    omega
  go_enter Tryz.func30, Tryz.ntmps30
  go_wp2_with fail
  go_loopw [11] (fun i wr => ∃ k : Nat, k ≤ l.length ∧ i = .int .i64 k ∧ Hid (jaK (l.take k) = true) ∧ JaIn w wr (jnL (l.take k)) ∧ wr.heap[w.heap.size]? = some (.cells #[.slice none 0 0, .slice none 0 0, .slice none 0 0] 31 (0, 0)) ∧ Below w.heap.size w wr) (fun i _ => l.length - (intOf i).toNat)
  case atStart =>
    refine ⟨0, Nat.zero_le _, rfl, by unfold Hid; simp [jaK], ⟨_, _, _, heap_new (by simp), rda_nil _ _, SlA.nil⟩, (heap_old (by simp)).trans (heap_new rfl), hb0⟩
  case round =>
    obtain ⟨k, hk, rfl, hall, ⟨ve, vk, vc, hG1, hrd, hsl⟩, hG0, hb⟩ := hrel
    have hsz := hb.size
    have hlt1 := lt_of_block hG1
    obtain ⟨hX, hX1, hX2⟩ := HSZ.out k hall.out
    obtain ⟨A3, n3, A4, n4, rfl, rfl⟩ := rda_shape hrd
    obtain ⟨A5, n5, rfl⟩ := hsl.shape
    have q0 := cell_cells (i := 0) hG1
    have q1 := cell_cells (i := 1) hG1
    have q2 := cell_cells (i := 2) hG1
    simp only [List.getElem?_toArray, List.getElem?_cons_zero, List.getElem?_cons_succ] at q0 q1 q2
    by_cases hlt : k < l.length
    · obtain ⟨⟨t, c⟩, hx⟩ : ∃ x, l[k]? = some x := ⟨_, List.getElem?_eq_getElem hlt⟩
      obtain ⟨b, off, rfl, hbB, hc⟩ := c3 (by rintro rfl; simp at hlt)
      obtain ⟨cs, ⟨xe, xk, xc, rfl, hrx, hsx⟩, _, hu⟩ := hc k _ hx
      simp only at hrx hsx
      obtain ⟨A6, n6, A7, n7, rfl, rfl⟩ := rd_shape hrx
      obtain ⟨A8, n8, rfl, _⟩ := id hsx
      have e0 : wr.cell? ⟨b, off + k * 3, none⟩ = some (.slice A6 t.es.length n6) := (hb.cell hbB).trans (hu 0 _ rfl)
      have e1 : wr.cell? ⟨b, off + k * 3 + 1, none⟩ = some (.slice A7 t.ks.length n7) := (hb.cell hbB).trans (hu 1 _ rfl)
      have e2 : wr.cell? ⟨b, off + k * 3 + 2, none⟩ = some (.slice A8 c.length n8) := (hb.cell hbB).trans (hu 2 _ rfl)
      have hmem := List.mem_of_getElem? hx
      obtain ⟨hs1, hs2⟩ := HSM.out _ hmem
      simp only at hs1 hs2
      have HTK := hid (jnL_take hx)
      have HJK := hid (jaK_take hx hall.out)
      have HBAD : Hid (caK (t, c) = false → jaE l = 1 ∧ jaR l = kn0) := fun h => by unfold jaE jaR; rw [jaK_bad hmem h]; exact ⟨rfl, rfl⟩
      have HXO := hid hX
      generalize hXe : jnL (l.take k) = X at *
      obtain ⟨XT, XC⟩ := X
      simp only at hX1 hX2 hrd hsl q0 q1 q2
      have hbA : Below wr.heap.size wr (wr.alloc (.cells #[.slice A6 t.es.length n6, .slice A7 t.ks.length n7, .slice A8 c.length n8] 31)) := (Below.refl _ wr).alloc (Nat.le_refl _) _
      have hbB' := hb.trans (hbA.mono hsz)
      have HRX := hid (rd_below hbB' hbB'.size _ _ _ hrx)
      have HSX : Hid (SlP (wr.alloc (.cells #[.slice A6 t.es.length n6, .slice A7 t.ks.length n7, .slice A8 c.length n8] 31)) (wr.alloc (.cells #[.slice A6 t.es.length n6, .slice A7 t.ks.length n7, .slice A8 c.length n8] 31)).heap.size 3 SpE (.slice A8 c.length n8) c) := hsx.imp hbB' hbB'.size fun _ _ _ h => h
      have HRD := hid (rda_rd hrd (fun b hb => hb.2) hbA)
      have HSL := hid (hsl.slp (fun b hb => hb.2) hbA)
      have hneb : b ≠ wr.heap.size := by omega
      have hne1 : w.heap.size + 1 ≠ wr.heap.size := by omega
      have hltb : b < wr.heap.size := by omega
      have HG0 := hid hG0
      have HG1 := hid hG1
      have HBW := hid hbB'
      clear hu hc c3 hx hmem hXe hrd hsl hrx hsx hG0 hG1 hbA hbB' hX
      have hjE : jnE XT t XC c = if caK (t, c) then 0 else 1 := by unfold jnE caK; rw [caR_iff.2 HXO.out]; rfl
      have HJE := hid hjE
      clear hjE
      go_wp2_with fail
      refine (cJoin_any XC c XT t _ _ _ _ _ _ _ HRD.out HRX.out HSL.out HSX.out hX1 hs1 hX2 hs2).mono ?_
      rw [HJE.out]
      cases hca : caK (t, c)
      · rintro e w1 ⟨ve1, vk1, vc1, rfl, hrd1, hsl1, hb1⟩
        obtain ⟨Av, nv, Aw, nw, rfl, rfl⟩ := rda_shape hrd1
        obtain ⟨Ac, nc, rfl⟩ := hsl1.shape
        obtain ⟨hE1, hE2⟩ := HBAD.out hca
        have HE1 := hid hE1
        have HE2 := hid hE2
        simp only [World.size_alloc] at hb1
        have hsz1 := hb1.size
        simp only [World.size_alloc] at hsz1
        have hG0' : w1.heap[w.heap.size]? = some (.cells #[.slice none 0 0, .slice none 0 0, .slice none 0 0] 31 (0, 0)) := (hb1.block _ (by omega)).trans ((heap_old (by omega)).trans HG0.out)
        have HG := hid hG0'
        have HBW2 := hid (HBW.out.trans (hb1.mono (by omega)))
        have k0 := cell_cells (i := 0) hG0'
        have k1 := cell_cells (i := 1) hG0'
        have k2 := cell_cells (i := 2) hG0'
        simp only [List.getElem?_toArray, List.getElem?_cons_zero, List.getElem?_cons_succ] at k0 k1 k2
        have z0 := cells_frz (i := 0) hG0'
        have z1 := cells_frz (i := 1) hG0'
        have z2 := cells_frz (i := 2) hG0'
        have hl0 : w.heap.size < w1.heap.size := by omega
        have hl0' : w.heap.size ≠ w1.heap.size := by omega
        clear hE1 hE2 hrd1 hsl1 hb1 hG0' hca
        go_wp2_with fail
        obtain ⟨r0, r1, r2, _⟩ := box3a HG.out (.slice none 0 0) (.slice none 0 0) (.slice none 0 0) (.cells #[.slice Av (jnT XT t XC c).es.length nv, .slice Aw (jnT XT t XC c).ks.length nw, .slice Ac (jnC XT t XC c).length nc] 31)
        have hBW := below_box3 HBW2.out (Nat.le_refl _) (by omega) (.slice none 0 0) (.slice none 0 0) (.slice none 0 0) (.cells #[.slice Av (jnT XT t XC c).es.length nv, .slice Aw (jnT XT t XC c).ks.length nw, .slice Ac (jnC XT t XC c).length nc] 31)
        refine bodyPost_ret (v := .tuple #[.agg #[.slice none 0 0, .slice none 0 0, .slice none 0 0], .int .i64 1]) (by simp [results, Tryz.results30, go_sem, r0, r1, r2]) rfl ⟨_, _, _, by rw [HE1.out], ?_, ?_, hBW⟩
        · rw [HE2.out]; exact rda_nil _ _
        · rw [HE2.out]; exact SlA.nil
      · have HCA := hid hca
        have hjj := jn_ok HXO.out (caK_iff.1 hca)
        simp only at hjj
        rw [hjj.2.1, hjj.2.2]
        rintro e w1 ⟨ve1, vk1, vc1, rfl, hrd1, hsl1, hb1⟩
        clear hjj hca
        have HTK' : Hid (jnL (l.take (k + 1)) = (jT XT t XC c, jC XC c)) := HTK.out
        have HJK' : Hid (jaK (l.take (k + 1)) = true) := HJK.out.trans HCA.out
        clear HTK HJK
        generalize jT XT t XC c = YT at *
        generalize jC XC c = YC at *
        obtain ⟨Av, nv, Aw, nw, rfl, rfl⟩ := rda_shape hrd1
        obtain ⟨Ac, nc, rfl⟩ := hsl1.shape
        simp only [World.size_alloc] at hb1 hrd1 hsl1
        have hsz1 := hb1.size
        simp only [World.size_alloc] at hsz1
        have hG1' : w1.heap[w.heap.size + 1]? = some (.cells #[.slice A3 XT.es.length n3, .slice A4 XT.ks.length n4, .slice A5 XC.length n5] 31 (0, 0)) := (hb1.block _ (by omega)).trans ((heap_old (by omega)).trans HG1.out)
        have hG0' : w1.heap[w.heap.size]? = some (.cells #[.slice none 0 0, .slice none 0 0, .slice none 0 0] 31 (0, 0)) := (hb1.block _ (by omega)).trans ((heap_old (by omega)).trans HG0.out)
        have HGX := hid hG1'
        have HGZ := hid hG0'
        have HBW2 := hid (HBW.out.trans (hb1.mono (by omega)))
        have HR1 := hid hrd1
        have HS1 := hid hsl1
        have k0 := cell_cells (i := 0) hG1'
        have k1 := cell_cells (i := 1) hG1'
        have k2 := cell_cells (i := 2) hG1'
        simp only [List.getElem?_toArray, List.getElem?_cons_zero, List.getElem?_cons_succ] at k0 k1 k2
        have z0 := cells_frz (i := 0) hG1'
        have z1 := cells_frz (i := 1) hG1'
        have z2 := cells_frz (i := 2) hG1'
        have hl0 : w.heap.size + 1 < w1.heap.size := by omega
        have hl0' : w.heap.size + 1 ≠ w1.heap.size := by omega
        have hl1' : w1.heap.size ≠ w.heap.size + 1 := by omega
        clear hrd1 hsl1 hb1 hG1' hG0' q0 q1 q2
        go_wp2_with fail
        obtain ⟨r0, r1, r2, hK, hS, hWW⟩ := box3a HGX.out (.slice Av YT.es.length nv) (.slice Aw YT.ks.length nw) (.slice Ac YC.length nc) (.cells #[.slice Av YT.es.length nv, .slice Aw YT.ks.length nw, .slice Ac YC.length nc] 31)
        go_roundw
        case rel =>
          refine ⟨k + 1, by omega, by go_num, HJK', ⟨.slice Av YT.es.length nv, .slice Aw YT.ks.length nw, .slice Ac YC.length nc, hWW, ?_, ?_⟩, (hK _ (by omega) (by omega)).trans HGZ.out, below_box3 HBW2.out (by omega) (by omega) _ _ _ _⟩
          · rw [HTK'.out]
            exact rda_up (fun b hb => hK b (by omega) hb.2) (fun b hb => ⟨by omega, by rw [hS]; omega⟩) _ _ _ HR1.out
          · rw [HTK'.out]
            exact HS1.out.up (fun b hb => hK b (by omega) hb.2) (fun b hb => ⟨by omega, by rw [hS]; omega⟩) (fun _ _ _ h => h)
        case measure => simp [intOf]; omega
    · obtain rfl : k = l.length := by omega
      rw [List.take_of_length_le (Nat.le_refl _)] at hrd hsl hall
      have HE : Hid (jaE l = 0) := by unfold Hid jaE; rw [hall.out]; rfl
      have HR : Hid (jaR l = jnL l) := by unfold Hid jaR; rw [hall.out]; rfl
      rw [List.take_of_length_le (Nat.le_refl _)] at q0 q1 q2 hG1
      have HRD := hid hrd
      have HSL := hid hsl
      have HG0 := hid hG0
      have HBW := hid hb
      have k0 := cell_cells (i := 0) hG0
      have k1 := cell_cells (i := 1) hG0
      have k2 := cell_cells (i := 2) hG0
      simp only [List.getElem?_toArray, List.getElem?_cons_zero, List.getElem?_cons_succ] at k0 k1 k2
      have z0 := cells_frz (i := 0) hG0
      have z1 := cells_frz (i := 1) hG0
      have z2 := cells_frz (i := 2) hG0
      generalize jnL l = X at *
      obtain ⟨XT, XC⟩ := X
      simp only at HRD HSL q0 q1 q2
      clear hrd hsl hG0 hG1 hX hX1 hX2
      go_wp2_with fail
      obtain ⟨r0, r1, r2, hK, hS⟩ := box3 HG0.out (.slice A3 XT.es.length n3) (.slice A4 XT.ks.length n4) (.slice A5 XC.length n5)
      have hBW := ((HBW.out.setCell (p := ⟨w.heap.size, 0, none⟩) (by simp) (.slice A3 XT.es.length n3)).setCell (p := ⟨w.heap.size, 1, none⟩) (by simp) (.slice A4 XT.ks.length n4)).setCell (p := ⟨w.heap.size, 2, none⟩) (by simp) (.slice A5 XC.length n5)
      refine bodyPost_ret (v := .tuple #[.agg #[.slice A3 XT.es.length n3, .slice A4 XT.ks.length n4, .slice A5 XC.length n5], .int .i64 0]) (by simp [results, Tryz.results30, go_sem, r0, r1, r2]) rfl ⟨_, _, _, by rw [HE.out], ?_, ?_, hBW⟩
      · rw [HR.out]
        exact rda_up (fun b hb => hK b (by omega)) (fun b hb => ⟨by omega, by rw [hS]; omega⟩) _ _ _ HRD.out
      · rw [HR.out]
        exact HSL.out.up (fun b hb => hK b (by omega)) (fun b hb => ⟨by omega, by rw [hS]; omega⟩) (fun _ _ _ h => h)
end Go.Proofs.YtmphgnjodangcaaGreat
