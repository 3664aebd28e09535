/- What the laws need, part 5: register.Write. No condition but that there are not too many entries. What a change is, as plain data: kinds, right paths, right changes, what is made of a tree. No condition. Plain law: what tributaryref08.Wrap tells of a right tree at one key is what tree.Wrap tells. No condition. causal.trees. No condition but that trees are in order, and not too big. Plain law: the leaves of two trees joined. No condition. Plain law: what tributaryref09.Join tells of two trees in order, with right contexts, is joinT. No condition. span.Minus: the walk. No condition but that there are not too many. span.Minus at two sets. No condition but that there are not too many. context.Minus, context.Right, context.Leq. No condition but that there are not too many. causal.Right. No condition but that there is not too much. tributaryref06.Right, tributaryref07.Right, Leq, tributaryref09.Right, Small. No condition but that there is not too much. causal.join. Condition: both right (trees in order, contexts apart), and not too big. causal.Join. Condition: not too big. Plain law: trees and contexts joined, by leaves and dots. No condition. Plain law: joining is idempotent, commutative and associative, and has a least one. No condition. Plain law: what is known of a tree, joined to a change of it. No condition. Plain law: how big trees and contexts joined may be. No condition. Plain law: what is known, joined, as a lattice; many joined, in whatever order. No condition. Plain law: many changes of a tree, joined. No condition. Plain facts on trees of one key, on the elements of a tree, and on trees in which no dot stands twice. -/
import Derived.Test.YtlapdmgjfdelnaaGreatRt4
namespace Go.Proofs.YtlapdmgjfdelnaaGreat
open Go.RowKit
set_option maxRecDepth 100000

theorem OwnP.single {α : Type} {w : World} {base n sz : Nat} {e : TypeId} {E : α → List Value → Prop} {x : α} {cs : List Value} (hE : E x cs) (hl : cs.length = sz) (h : w.heap[n]? = some (.cells cs.toArray e (0, 0))) (hb : base ≤ n) : OwnP w base e sz E (.slice (some ⟨n, 0, none⟩) 1 1) [x] := by
  refine ⟨[cs], ⟨rfl, fun j y hy => ?_⟩, by simp [hl], .inr ⟨n, 1, cs.toArray, rfl, hb, h, Nat.le_refl _, by simp [maxLen], by simp [hl], by simp [List.take_of_length_le (Nat.le_of_eq hl)]⟩⟩
  match j, hy with
  | 0, hy => simp at hy; subst hy; exact ⟨cs, rfl, hE, hl⟩
/-- Entries' own dots. -/
def ownD (t : Tr) : List Dt := t.es.map En.dot
theorem ownD_right {t : Tr} (h : t.right 5 = true) : ∀ d ∈ ownD t, d.right = true := fun d hd => right_dots t 5 h d (by
  obtain ⟨es, ks⟩ := t
  rw [Tr.dots]; exact List.mem_append_left _ hd)
theorem ownD_len (t : Tr) : (ownD t).length ≤ t.sz := by
  obtain ⟨es, ks⟩ := t
  unfold ownD; rw [List.length_map, Tr.sz]; simp only [Tr.es]; omega
/-- May the text be written? -/
def wrtB (t : Tr) (s : ByteArray) (d : Dt) : Bool := chkT t d && decide (s.size ≤ 30)
def wrtE (t : Tr) (s : ByteArray) (d : Dt) : Int := if wrtB t s d then 0 else 1
def wrtT (t : Tr) (s : ByteArray) (d : Dt) : Tr := if wrtB t s d then .mk [⟨d.dc, d.n, s, 0⟩] [] else .mk [] []
def wrtC (t : Tr) (s : ByteArray) (d : Dt) : List Sp := if wrtB t s d then ctxOf (d :: ownD t) else []
theorem wrtEn {d : Dt} {s : ByteArray} (hd : d.Ok) (hs : s.size ≤ Big) : EnE (⟨d.dc, d.n, s, 0⟩ : En) [.int .i64 d.dc, .int .i64 d.n, .string s, .int .i64 0] := ⟨rfl, hd.dc, hd.n, ⟨by show (_ : Int) ≤ 0; decide, by show (0 : Int) ≤ _; decide⟩, hs⟩

set_option maxHeartbeats 4000000 in
theorem rwrite_any (t : Tr) (s : ByteArray) (d : Dt) (ve vk : Value) (w : World) (h : t.rd w w.heap.size ve vk) (hs : s.size ≤ Big) (hN : t.sz ≤ 4000) (hd : d.Ok) :
    Calls Tryz.prog 188 #[.agg #[ve, vk], .string s, .agg #[.int .i64 d.dc, .int .i64 d.n]] w (RetCE w (wrtT t s d) (wrtC t s d) (wrtE t s d)) := by
  have hsb : s.size ≤ 140737488355328 := hs
  have hol := ownD_len t
  have HSL : Hid (SlP w w.heap.size 4 EnE ve t.es) := by obtain ⟨es, ks⟩ := t; exact (rd_iff.1 h).1
  have HC : Hid (∀ w', Below w.heap.size w w' → t.rd w' w'.heap.size ve vk) := fun w' hb => rd_below hb hb.size _ _ _ h
  obtain ⟨A3, n3, A4, n4, rfl, rfl⟩ := rd_shape h
  have hb0 := (((Below.refl w.heap.size w).alloc (Nat.le_refl _) (.cells #[.slice A3 t.es.length n3, .slice A4 t.ks.length n4] 25)).alloc (by simp) (.cells #[.int .i64 d.dc, .int .i64 d.n] 52)).alloc (by simp; omega) (.cells #[.slice none 0 0, .slice none 0 0, .slice none 0 0] 29)
  clear h
  go_enter Tryz.func188, Tryz.ntmps188
  go_wp2_with fail
  refine (fcheck_any t d _ _ _ (HC.out _ hb0) (by omega)).mono ?_
  rintro e w1 ⟨rfl, hb1⟩
  have hs1 := hb1.size
  simp only [World.size_alloc] at hs1
  have hB1 : Below w.heap.size w w1 := hb0.trans (hb1.mono (by simp; omega))
  have c0 : w1.cell? ⟨w.heap.size, 0, none⟩ = some (.slice A3 t.es.length n3) := by
    rw [hb1.cell (p := ⟨w.heap.size, 0, none⟩) (by simp; omega)]
    rw [World.cell?_alloc_lt _ _ _ (by simp; omega), World.cell?_alloc_lt _ _ _ (by simp)]; simp
  have c1 : w1.cell? ⟨w.heap.size, 1, none⟩ = some (.slice A4 t.ks.length n4) := by
    rw [hb1.cell (p := ⟨w.heap.size, 1, none⟩) (by simp; omega)]
    rw [World.cell?_alloc_lt _ _ _ (by simp; omega), World.cell?_alloc_lt _ _ _ (by simp)]; simp
  have d0 : w1.cell? ⟨w.heap.size + 1, 0, none⟩ = some (.int .i64 d.dc) := by rw [hb1.cell (p := ⟨w.heap.size + 1, 0, none⟩) (by simp), World.cell?_alloc_lt _ _ _ (by simp)]; simp
  have d1 : w1.cell? ⟨w.heap.size + 1, 1, none⟩ = some (.int .i64 d.n) := by rw [hb1.cell (p := ⟨w.heap.size + 1, 1, none⟩) (by simp), World.cell?_alloc_lt _ _ _ (by simp)]; simp
  have hg : w1.heap[w.heap.size + 2]? = some (.cells #[.slice none 0 0, .slice none 0 0, .slice none 0 0] 29 (0, 0)) := (hb1.block (w.heap.size + 2) (by simp)).trans (heap_new (by simp))
  have HG := hid hg
  have k0 : w1.cell? ⟨w.heap.size + 2, 0, none⟩ = some (.slice none 0 0) := cell_cells (i := 0) hg
  have k1 : w1.cell? ⟨w.heap.size + 2, 1, none⟩ = some (.slice none 0 0) := cell_cells (i := 1) hg
  have k2 : w1.cell? ⟨w.heap.size + 2, 2, none⟩ = some (.slice none 0 0) := cell_cells (i := 2) hg
  have z0 := cells_frz (i := 0) hg
  have z1 := cells_frz (i := 1) hg
  have z2 := cells_frz (i := 2) hg
  clear hg hb1
  cases hc : chkT t d
  · have HI : Hid (chkI t d = 1) := by unfold Hid chkI; rw [hc]; rfl
    have HE : Hid (wrtE t s d = 1) := by unfold Hid wrtE wrtB; rw [hc]; rfl
    have HTT : Hid (wrtT t s d = .mk [] []) := by unfold Hid wrtT wrtB; rw [hc]; rfl
    have HCC : Hid (wrtC t s d = []) := by unfold Hid wrtC wrtB; rw [hc]; rfl
    rw [HI.out]
    clear hc
    go_wp2_with fail
    obtain ⟨r0, r1, r2, hK, hS⟩ := box3 HG.out (.slice none 0 0) (.slice none 0 0) (.slice none 0 0)
    have hBW := ((hB1.setCell (p := ⟨w.heap.size + 2, 0, none⟩) (by simp) (.slice none 0 0)).setCell (p := ⟨w.heap.size + 2, 1, none⟩) (by simp) (.slice none 0 0)).setCell (p := ⟨w.heap.size + 2, 2, none⟩) (by simp) (.slice none 0 0)
    refine bodyPost_ret (v := .tuple #[.agg #[.slice none 0 0, .slice none 0 0, .slice none 0 0], .int .i64 1]) (by simp [results, Tryz.results188, go_sem, r0, r1, r2]) rfl ⟨_, _, _, by rw [HE.out], by rw [HTT.out]; exact rda_nil _ _, by rw [HCC.out]; exact SlA.nil, hBW⟩
  have HI : Hid (chkI t d = 0) := by unfold Hid chkI; rw [hc]; rfl
  rw [HI.out]
  have h30 : decide ((30 : Int) < (s.size : Int)) = !decide (s.size ≤ 30) := by rw [Bool.eq_iff_iff]; simp; omega
  cases hz : decide (s.size ≤ 30)
  · have HE : Hid (wrtE t s d = 1) := by unfold Hid wrtE wrtB; rw [hc, hz]; rfl
    have HTT : Hid (wrtT t s d = .mk [] []) := by unfold Hid wrtT wrtB; rw [hc, hz]; rfl
    have HCC : Hid (wrtC t s d = []) := by unfold Hid wrtC wrtB; rw [hc, hz]; rfl
    rw [hz] at h30
    simp only [Bool.not_false] at h30
    clear hc hz
    go_wp2_with fail
    obtain ⟨r0, r1, r2, hK, hS⟩ := box3 HG.out (.slice none 0 0) (.slice none 0 0) (.slice none 0 0)
    have hBW := ((hB1.setCell (p := ⟨w.heap.size + 2, 0, none⟩) (by simp) (.slice none 0 0)).setCell (p := ⟨w.heap.size + 2, 1, none⟩) (by simp) (.slice none 0 0)).setCell (p := ⟨w.heap.size + 2, 2, none⟩) (by simp) (.slice none 0 0)
    refine bodyPost_ret (v := .tuple #[.agg #[.slice none 0 0, .slice none 0 0, .slice none 0 0], .int .i64 1]) (by simp [results, Tryz.results188, go_sem, r0, r1, r2]) rfl ⟨_, _, _, by rw [HE.out], by rw [HTT.out]; exact rda_nil _ _, by rw [HCC.out]; exact SlA.nil, hBW⟩
  rw [hz] at h30
  simp only [Bool.not_true] at h30
  have HE : Hid (wrtE t s d = 0) := by unfold Hid wrtE wrtB; rw [hc, hz]; rfl
  have HTT : Hid (wrtT t s d = .mk [⟨d.dc, d.n, s, 0⟩] []) := by unfold Hid wrtT wrtB; rw [hc, hz]; rfl
  have HCC : Hid (wrtC t s d = ctxOf (d :: ownD t)) := by unfold Hid wrtC wrtB; rw [hc, hz]; rfl
  have hdr := chkT_right hc
  have htr := chkT_tree hc
  have HRA : Hid (∀ x ∈ d :: ownD t, x.right = true) := fun x hx => by
    rcases List.mem_cons.1 hx with rfl | hx
    · exact hdr
    · exact ownD_right htr x hx
  clear hc hz hdr htr
  have HGB : Hid (∀ w', Below w1.heap.size w1 w' → w'.cell? ⟨w.heap.size + 1, 0, none⟩ = some (.int .i64 d.dc) ∧ w'.cell? ⟨w.heap.size + 1, 1, none⟩ = some (.int .i64 d.n) ∧ w'.heap[w.heap.size + 2]? = some (.cells #[.slice none 0 0, .slice none 0 0, .slice none 0 0] 29 (0, 0))) := fun w' hb =>
    ⟨(hb.cell (p := ⟨w.heap.size + 1, 0, none⟩) (by show w.heap.size + 1 < _; omega)).trans d0, (hb.cell (p := ⟨w.heap.size + 1, 1, none⟩) (by show w.heap.size + 1 < _; omega)).trans d1, (hb.block _ (by omega)).trans HG.out⟩
  have hlt0 : w.heap.size < w1.heap.size := by omega
  have hne0 : w.heap.size ≠ w1.heap.size := by omega
  have hne1 : w.heap.size + 1 ≠ w1.heap.size := by omega
  clear k0 k1 k2 z0 z1 z2
  have HW0 : Hid (OwnP (w1.alloc (.cells #[.int .i64 d.dc, .int .i64 d.n] 52)) w1.heap.size 52 2 DtE (.slice (some ⟨w1.heap.size, 0, none⟩) 1 1) [d]) := OwnP.single (x := d) (cs := [.int .i64 d.dc, .int .i64 d.n]) ⟨rfl, hd⟩ rfl (heap_new rfl) (Nat.le_refl _)
  have hel : t.es.length ≤ 4000 := by unfold ownD at hol; rw [List.length_map] at hol; omega
  go_wp2_with fail
  go_loopw [9, 30] (fun v i wr => ∃ k : Nat, k ≤ t.es.length ∧ i = .int .i64 k ∧ OwnP wr w1.heap.size 52 2 DtE v (d :: (t.es.take k).map En.dot) ∧ Below w1.heap.size w1 wr) (fun _ i _ => t.es.length - (intOf i).toNat)
  case atStart => exact ⟨0, Nat.zero_le _, rfl, HW0.out, (Below.refl _ w1).alloc (Nat.le_refl _) _⟩
  case round =>
    obtain ⟨k, hk, rfl, hown, hb⟩ := hrel
    have hsz := hb.size
    have hB0 : Below w.heap.size w wr := hB1.trans (hb.mono (by omega))
    by_cases hlt : k < t.es.length
    · obtain ⟨x, hx⟩ : ∃ x, t.es[k]? = some x := ⟨_, List.getElem?_eq_getElem hlt⟩
      obtain ⟨Ae, ne, hve, _, _, b3⟩ := HSL.out
      cases hve
      obtain ⟨b, off, rfl, hbB, hcc⟩ := b3 (by intro h0; rw [h0] at hlt; simp at hlt)
      obtain ⟨cs, ⟨rfl, hok⟩, _, hu⟩ := hcc k _ hx
      have e0 : wr.cell? ⟨b, off + k * 4, none⟩ = some (.int .i64 x.dc) := (hB0.cell hbB).trans (hu 0 _ rfl)
      have e1 : wr.cell? ⟨b, off + k * 4 + 1, none⟩ = some (.int .i64 x.n) := (hB0.cell hbB).trans (hu 1 _ rfl)
      have e2 : wr.cell? ⟨b, off + k * 4 + 2, none⟩ = some (.string x.s) := (hB0.cell hbB).trans (hu 2 _ rfl)
      have e3 : wr.cell? ⟨b, off + k * 4 + 3, none⟩ = some (.int .i64 x.v) := (hB0.cell hbB).trans (hu 3 _ rfl)
      have hdx : x.dot.Ok := ⟨hok.dc, hok.n⟩
      have HX : Hid (d :: (t.es.take (k + 1)).map En.dot = d :: (t.es.take k).map En.dot ++ [x.dot]) := by
        unfold Hid; rw [List.take_add_one, hx]; simp
      have HL : Hid ((d :: (t.es.take k).map En.dot).length + [x.dot].length ≤ Few) := by unfold Hid Few; simp; omega
      have HBW : Hid (w1.heap.size ≤ wr.heap.size + 1 + 1) := by unfold Hid; omega
      clear hu hcc b3 hx hok c0 c1 d0 d1
      go_wp2_with (at_builtin; go_loud (refine wpList_few rfl (.tmp 34) (.tmp 37) _ rfl eiDot (by decide) (by decide) (fun _ _ h => h.one) rfl ((hown.alloc _).alloc _) rfl (SlP.one (x := x.dot) (cs := [.int .i64 x.dc, .int .i64 x.n]) ⟨rfl, hdx⟩ rfl _ (World.size_alloc _ _).symm) HL.out (by rw [World.size_alloc, World.size_alloc]; exact HBW.out) ?_); intro v1 w2 hown1 hb1 _)
      go_roundw
      case rel =>
        refine ⟨k + 1, by omega, by go_num, by rw [HX.out]; exact hown1, ((hb.alloc (by omega) _).alloc (by simp; omega) _).trans hb1⟩
      case measure => simp [intOf]; omega
    · obtain rfl : k = t.es.length := by omega
      rw [List.take_of_length_le (Nat.le_refl _)] at hown
      have hown : OwnP wr w1.heap.size 52 2 DtE _ (d :: ownD t) := hown
      have HO := hid (hown.sl (by unfold Big; simp; omega))
      clear hown c0 c1 d0 d1
      go_wp2_with fail
      refine (cof_any (d :: ownD t) _ wr HO.out HRA.out (by simp; omega)).mono ?_
      rintro e w2 ⟨v2, rfl, ho2, hb2⟩
      obtain ⟨A5, c5, rfl⟩ := ho2.shape
      have hs2 := hb2.size
      have hB2 : Below w1.heap.size w1 w2 := hb.trans (hb2.mono (by omega))
      obtain ⟨d0, d1, g6⟩ := HGB.out w2 hB2
      have HG2 := hid g6
      have k0 : w2.cell? ⟨w.heap.size + 2, 0, none⟩ = some (.slice none 0 0) := cell_cells (i := 0) g6
      have k1 : w2.cell? ⟨w.heap.size + 2, 1, none⟩ = some (.slice none 0 0) := cell_cells (i := 1) g6
      have k2 : w2.cell? ⟨w.heap.size + 2, 2, none⟩ = some (.slice none 0 0) := cell_cells (i := 2) g6
      have z0 := cells_frz (i := 0) g6
      have z1 := cells_frz (i := 1) g6
      have z2 := cells_frz (i := 2) g6
      have HO2 := hid ho2
      have hcl := ctxOf_len (d :: ownD t)
      have hlt2 : w.heap.size + 2 < w2.heap.size := by omega
      have hne2 : w.heap.size + 2 ≠ w2.heap.size := by omega
      clear g6 ho2
      generalize ctxOf (d :: ownD t) = C at *
      go_wp2_with fail
      obtain ⟨r0, r1, r2, hK, hS⟩ := box3 HG2.out (.slice (some ⟨w2.heap.size, 0, none⟩) 1 1) (.slice none 0 0) (.slice A5 C.length c5)
      have hBW : Below w.heap.size w (((w2.setCell ⟨w.heap.size + 2, 0, none⟩ (.slice (some ⟨w2.heap.size, 0, none⟩) 1 1)).setCell ⟨w.heap.size + 2, 1, none⟩ (.slice none 0 0)).setCell ⟨w.heap.size + 2, 2, none⟩ (.slice A5 C.length c5)) := (((hB1.trans (hB2.mono (by omega))).setCell (by simp) _).setCell (by simp) _).setCell (by simp) _
      clear k0 k1 k2 z0 z1 z2
      generalize (((w2.setCell ⟨w.heap.size + 2, 0, none⟩ (.slice (some ⟨w2.heap.size, 0, none⟩) 1 1)).setCell ⟨w.heap.size + 2, 1, none⟩ (.slice none 0 0)).setCell ⟨w.heap.size + 2, 2, none⟩ (.slice A5 C.length c5)) = W at *
      have q0 : (W.alloc (.cells #[.int .i64 d.dc, .int .i64 d.n, .string s, .int .i64 0] 113)).cell? ⟨w.heap.size + 1 + 1, 0, none⟩ = some (.slice (some ⟨w2.heap.size, 0, none⟩) 1 1) := by rw [World.cell?_alloc_lt _ _ _ (by show w.heap.size + 2 < _; omega)]; exact r0
      have q1 : (W.alloc (.cells #[.int .i64 d.dc, .int .i64 d.n, .string s, .int .i64 0] 113)).cell? ⟨w.heap.size + 1 + 1, 1, none⟩ = some (.slice none 0 0) := by rw [World.cell?_alloc_lt _ _ _ (by show w.heap.size + 2 < _; omega)]; exact r1
      have q2 : (W.alloc (.cells #[.int .i64 d.dc, .int .i64 d.n, .string s, .int .i64 0] 113)).cell? ⟨w.heap.size + 1 + 1, 2, none⟩ = some (.slice A5 C.length c5) := by rw [World.cell?_alloc_lt _ _ _ (by show w.heap.size + 2 < _; omega)]; exact r2
      refine bodyPost_ret (v := .tuple #[.agg #[.slice (some ⟨w2.heap.size, 0, none⟩) 1 1, .slice none 0 0, .slice A5 C.length c5], .int .i64 0]) (by simp [results, Tryz.results188, go_sem, q0, q1, q2]) rfl ⟨_, _, _, by rw [HE.out], ?_, ?_, hBW.alloc (by omega) _⟩
      · rw [HTT.out, rda_iff]
        refine ⟨?_, SlA.nil⟩
        exact SlA.one (x := (⟨d.dc, d.n, s, 0⟩ : En)) (cs := [.int .i64 d.dc, .int .i64 d.n, .string s, .int .i64 0]) (e := 113) (z := (0, 0)) (wrtEn hd hs) rfl (heap_new hS.symm) ⟨by omega, by rw [World.size_alloc]; omega⟩
      · rw [HCC.out]
        refine (HO2.out.sla (by unfold Big; simp at hcl; omega)).up (fun b hb => (heap_old (by have := hb.2.1; omega)).trans (hK b (by have := hb.1; omega))) (fun b hb => ⟨by have := hb.1; omega, by rw [World.size_alloc]; have := hb.2.1; omega⟩) (fun _ _ _ h => h)
end Go.Proofs.YtlapdmgjfdelnaaGreat

namespace Go.Proofs.YtlapdmgjfdelnaaGreat
open Go.RowKit
set_option maxRecDepth 100000

/-- A key's kind. -/
def kindB (k : ByteArray) : Int := match k.data.toList with
  | [] => 0
  | b :: _ => if b = 102 then 1 else if b = 115 then 2 else if b = 99 then 3 else if b = 114 then 4 else if b = 109 then 5 else 0
def badKey (k : ByteArray) : Bool := decide (30 < k.size) || decide (kindB k = 0)
def noMap (k : ByteArray) : Bool := !decide (kindB k = 5)
/-- Why a path can't be. -/
def pathI (p : List ByteArray) : Int := if p.length < 1 ∨ 3 < p.length ∨ p.any badKey = true then 1 else if p.dropLast.any noMap then 6 else 0
def lastK (p : List ByteArray) : ByteArray := (p[p.length - 1]?).getD ByteArray.empty
/-- May an act be of a kind? -/
def actB (a k : Int) : Bool := if a = 1 ∨ a = 2 then decide (k = 1) else if a = 3 ∨ a = 4 then decide (k = 2) else if a = 5 then decide (k = 3) else if a = 6 then decide (k = 4) else decide (a = 7)
def opTxt (o : Opr) : Bool := if o.act = 3 ∨ o.act = 4 then keyB o.s else if o.act = 6 then decide (o.s.size ≤ 30) else decide (o.s.size = 0)
def opNum (o : Opr) : Bool := if o.act = 5 then decide (-1099511627776 ≤ o.n ∧ o.n ≤ 1099511627776) else decide (o.n = 0)
/-- Why a change can't be. -/
def opI (o : Opr) : Int := if pathI o.path ≠ 0 then pathI o.path else if !actB o.act (kindB (lastK o.path)) then 6 else if opTxt o && opNum o then 0 else 1
def entryB (a : Int) : Bool := decide (a = 1 ∨ a = 3 ∨ a = 5 ∨ a = 6)
def endP (o : Opr) : List ByteArray := o.path ++ (if o.act = 3 then [o.s] else [])
/-- Is there no room at a key of a path? -/
def fullAt (t : Tr) (p : List ByteArray) (k : Nat) : Bool := decide (24 ≤ (getK t (p.take k)).ks.length) && !hasK (getK t (p.take k)) ((p[k]?).getD ByteArray.empty)
def fullP (t : Tr) (p : List ByteArray) : Bool := (List.range p.length).any (fullAt t p)
def fullB (t : Tr) (o : Opr) : Bool := entryB o.act && (fullP t (endP o) || decide (o.act = 5) && decide (24 ≤ (getK t (endP o)).es.length))
/-- The dots that a change has seen. -/
def seesD (t : Tr) (o : Opr) : List Dt := if o.act = 3 ∨ o.act = 4 then (getK t (o.path ++ [o.s])).dots else if o.act = 5 then [] else if o.act = 6 then ownD (getK t o.path) else (getK t o.path).dots
def entE (o : Opr) (d : Dt) : En := ⟨d.dc, d.n, if o.act = 6 then o.s else ByteArray.empty, o.n⟩
/-- A tree of one entry below keys. -/
def pathT : List ByteArray → En → Tr
  | [], e => .mk [e] []
  | k :: p, e => .mk [] [(k, pathT p e)]
def appI (t : Tr) (o : Opr) (d : Dt) : Int := if !t.right 5 then 1 else if opI o ≠ 0 then opI o else if !chkT t d then 1 else if fullB t o then 4 else 0
def appT (t : Tr) (o : Opr) (d : Dt) : Tr := if appI t o d = 0 ∧ entryB o.act = true then pathT (endP o) (entE o d) else .mk [] []
def appC (t : Tr) (o : Opr) (d : Dt) : List Sp := if appI t o d = 0 then ctxOf (d :: seesD t o) else []
end Go.Proofs.YtlapdmgjfdelnaaGreat

namespace Go.Proofs.YtlapdmgjfdelnaaGreat
open Go.RowKit
set_option maxRecDepth 100000

/-- How deep leaves stand. -/
def deepLv : List Lf → Nat
  | [] => 0
  | x :: l => max (1 + x.1.length) (deepLv l)
theorem empB_empty (t : Tr) : empB t.es.length t.ks.length = t.empty := by
  obtain ⟨es, ks⟩ := t
  rw [Bool.eq_iff_iff]; simp [empB, Tr.empty, Tr.es, Tr.ks]
/-- What tributaryref08.Wrap tells: the error's number, the tree. -/
def wrapRE (t : Tr) (p : List ByteArray) : Int := if !(p.all keyB) then 1 else if decide (5 < p.length) || !(t.lvs []).isEmpty && decide (5 < deepLv (t.lvs []) + p.length) then 10 else 0
def wrapRT (t : Tr) (p : List ByteArray) : Tr := if wrapRE t p = 0 then buildL ((t.lvs []).map fun x => (p ++ x.1, x.2)) else .mk [] []
end Go.Proofs.YtlapdmgjfdelnaaGreat

namespace Go.Proofs.YtlapdmgjfdelnaaGreat
open Go.RowKit
set_option maxRecDepth 100000

/-- The keys of two trees. -/
def joinK (a b : Tr) : List ByteArray := cmpL (srtL ((a.ks ++ b.ks).map (·.1)))
def joinF (f : ByteArray → Tr) (k : ByteArray) : List Kd := if (f k).empty then [] else [(k, f k)]
/-- Two trees joined. -/
def joinT : Nat → List Sp → List Sp → Tr → Tr → Tr
  | 0, _, _, _, _ => .mk [] []
  | n + 1, ca, cb, a, b => .mk (entL ca cb a.es b.es) ((joinK a b).flatMap (joinF fun k => joinT n ca cb (kidT a k) (kidT b k)))
theorem joinF_len (f : ByteArray → Tr) (k : ByteArray) : (joinF f k).length ≤ 1 := by unfold joinF; split <;> simp
theorem joinF_lens (f : ByteArray → Tr) : ∀ l : List ByteArray, (l.flatMap (joinF f)).length ≤ l.length
  | [] => by simp
  | k :: l => by
    have h1 := joinF_len f k
    have h2 := joinF_lens f l
    rw [List.flatMap_cons, List.length_append, List.length_cons]; omega
theorem joinF_take {l : List ByteArray} {k : Nat} {x : ByteArray} (h : l[k]? = some x) (f : ByteArray → Tr) : (l.take (k + 1)).flatMap (joinF f) = (l.take k).flatMap (joinF f) ++ joinF f x := by
  rw [List.take_add_one, h, List.flatMap_append]; simp
theorem cmpL_len (l : List ByteArray) : (cmpL l).length ≤ l.length := by
  unfold cmpL
  have := Lib.compact_length_le (l.map toBy)
  rw [List.length_map] at this ⊢; exact this
theorem cmpL_mem {l : List ByteArray} {x : ByteArray} (h : x ∈ cmpL l) : x ∈ l := by
  unfold cmpL at h
  obtain ⟨y, hy, rfl⟩ := List.mem_map.1 h
  unfold Lib.compact Lib.compactUpTo at hy
  obtain ⟨j, hj, rfl⟩ := List.mem_map.1 hy
  have hj' : j < (l.map toBy).length := List.mem_range.1 (List.mem_filter.1 hj).1
  rw [getElem!_pos _ j (by simpa using hj')]
  simp [ofBy_toBy]
theorem srtL_mem {l : List ByteArray} {x : ByteArray} (h : x ∈ srtL l) : x ∈ l := by
  unfold srtL at h
  obtain ⟨y, hy, rfl⟩ := List.mem_map.1 h
  obtain ⟨z, hz, rfl⟩ := List.mem_map.1 ((List.mergeSort_perm _ _).subset hy)
  exact hz
theorem joinK_mem {a b : Tr} {x : ByteArray} (h : x ∈ joinK a b) : ∃ t, (x, t) ∈ a.ks ∨ (x, t) ∈ b.ks := by
  have := srtL_mem (cmpL_mem h)
  obtain ⟨⟨k, t⟩, hm, rfl⟩ := List.mem_map.1 this
  rcases List.mem_append.1 hm with h | h
  · exact ⟨t, .inl h⟩
  · exact ⟨t, .inr h⟩
theorem joinK_len (a b : Tr) : (joinK a b).length ≤ a.ks.length + b.ks.length := by
  unfold joinK
  have h1 := cmpL_len (srtL ((a.ks ++ b.ks).map (·.1)))
  rw [srtL_len, List.length_map, List.length_append] at h1
  exact h1
theorem dep_pos (t : Tr) : 1 ≤ t.dep := by obtain ⟨es, ks⟩ := t; rw [Tr.dep]; omega
theorem kid_dep_of {t u : Tr} {k : ByteArray} (h : (k, u) ∈ t.ks) : u.dep + 1 ≤ t.dep := by
  obtain ⟨es, ks⟩ := t
  rw [Tr.dep]; have := depL_le (show (k, u) ∈ ks from h); omega
theorem kidT_dep {t : Tr} (ho : t.Ord) {n : Nat} (h : t.dep ≤ n + 1) (hn : 1 ≤ n) (k : ByteArray) : (kidT t k).dep ≤ n := by
  by_cases hm : ∃ u, (k, u) ∈ t.ks
  · obtain ⟨u, hm⟩ := hm
    rw [kidT_mem ho hm]; have := kid_dep_of hm; omega
  · rw [kidT_none fun u hu => hm ⟨u, hu⟩]; simp [Tr.dep, Tr.depL]; omega
theorem joinK_dep {a b : Tr} {n : Nat} (ha : a.dep ≤ n + 1) (hb : b.dep ≤ n + 1) {x : ByteArray} (h : x ∈ joinK a b) : 1 ≤ n := by
  obtain ⟨t, h | h⟩ := joinK_mem h
  · have := kid_dep_of h; have := dep_pos t; omega
  · have := kid_dep_of h; have := dep_pos t; omega
theorem es_sz (t : Tr) : t.es.length + t.ks.length ≤ t.sz := by
  obtain ⟨es, ks⟩ := t
  have := szL_len ks
  rw [Tr.sz]; simp only [Tr.es, Tr.ks]; omega
theorem es_slp {t : Tr} {w : World} {B : Nat} {ve vk : Value} (h : t.rd w B ve vk) : SlP w B 4 EnE ve t.es := by
  obtain ⟨es, ks⟩ := t; exact (rd_iff.1 h).1

theorem below_via {w w' : World} {o : Obj} (h : Below (w.alloc o).heap.size (w.alloc o) w') : Below w.heap.size w w' := ((Below.refl _ w).alloc (Nat.le_refl _) o).trans (h.mono (by simp))
theorem fin_set {wr w7 : World} {n N : Nat} {x y u v : Value} {e : TypeId} {t : Tr} (hbox : w7.heap[n]? = some (.cells #[x, y] e (0, 0))) (hn : wr.heap.size ≤ n) (hb : Below wr.heap.size wr w7) (hr : t.rda w7 (fun b => N ≤ b ∧ b < w7.heap.size) u v) (hnN : n < N) :
    ∀ W, Below ((w7.setCell ⟨n, 0, none⟩ u).setCell ⟨n, 1, none⟩ v).heap.size ((w7.setCell ⟨n, 0, none⟩ u).setCell ⟨n, 1, none⟩ v) W → W.cell? ⟨n, 0, none⟩ = some u ∧ W.cell? ⟨n, 1, none⟩ = some v ∧ Below wr.heap.size wr W ∧ t.rda W (fun b => wr.heap.size ≤ b ∧ b < W.heap.size) u v := by
  intro W hW
  have hsz : ((w7.setCell ⟨n, 0, none⟩ u).setCell ⟨n, 1, none⟩ v).heap.size = w7.heap.size := by simp [World.setCell]
  rw [hsz] at hW
  have hlt := lt_of_block hbox
  have hg : W.heap[n]? = some (.cells #[u, v] e (0, 0)) := (hW.block n hlt).trans (by simpa using cells_set (i := 1) (cells_set (i := 0) hbox u) v)
  have hs := hW.size
  rw [hsz] at hs
  refine ⟨cell_cells (i := 0) hg, cell_cells (i := 1) hg, ((hb.setCell hn _).setCell hn _).trans (hW.mono hb.size), rda_up (fun b hb' => ?_) (fun b hb' => ⟨by omega, by omega⟩) _ _ _ hr⟩
  rw [hW.block b hb'.2]
  exact (Below.heap_setCell _ _ _ _ (by simp; omega)).trans (Below.heap_setCell _ _ _ _ (by simp; omega))
theorem fin_new {wr w7 : World} {N : Nat} {u v : Value} {e : TypeId} {t : Tr} (hb : Below wr.heap.size wr w7) (hr : t.rda w7 (fun b => N ≤ b ∧ b < w7.heap.size) u v) (hN : wr.heap.size ≤ N) :
    ∀ W, Below (w7.alloc (.cells #[u, v] e)).heap.size (w7.alloc (.cells #[u, v] e)) W → W.cell? ⟨w7.heap.size, 0, none⟩ = some u ∧ W.cell? ⟨w7.heap.size, 1, none⟩ = some v ∧ Below wr.heap.size wr W ∧ t.rda W (fun b => wr.heap.size ≤ b ∧ b < W.heap.size) u v := by
  intro W hW
  have hg : W.heap[w7.heap.size]? = some (.cells #[u, v] e (0, 0)) := (hW.block _ (by simp)).trans (heap_new rfl)
  have hs := hW.size
  rw [World.size_alloc] at hs
  refine ⟨cell_cells (i := 0) hg, cell_cells (i := 1) hg, (hb.alloc hb.size _).trans (hW.mono (by have := hb.size; simp; omega)), rda_up (fun b hb' => ?_) (fun b hb' => ⟨by omega, by omega⟩) _ _ _ hr⟩
  rw [hW.block b (by rw [World.size_alloc]; omega)]
  exact heap_old hb'.2
set_option maxHeartbeats 4000000 in
theorem ctrees_any (ca cb : List Sp) (hN1 : ca.length ≤ 900000) (hN2 : cb.length ≤ 900000) : ∀ (n : Nat) (a b : Tr) (va ka vb kb vca vcb : Value) (w : World), a.rd w w.heap.size va ka → b.rd w w.heap.size vb kb → SlP w w.heap.size 3 SpE vca ca → SlP w w.heap.size 3 SpE vcb cb → a.Ord → b.Ord → a.dep ≤ n → b.dep ≤ n → a.sz ≤ 100000 → b.sz ≤ 100000 →
    Calls Tryz.prog 131 #[.agg #[va, ka], .agg #[vb, kb], vca, vcb] w (RetT w (joinT n ca cb a b)) := by
  intro n
  induction n with
  | zero => intro a b _ _ _ _ _ _ w _ _ _ _ _ _ h _ _ _; have := dep_pos a; omega
  | succ n ih =>
  intro a b va ka vb kb vca vcb w ha hb hca hcb hoa hob hda hdb hza hzb
  have HA := hid ha
  have HB := hid hb
  have HCA : Hid (∀ w', Below w.heap.size w w' → SlP w' w'.heap.size 3 SpE vca ca) := fun w' hb => hca.imp hb hb.size fun _ _ _ h => h
  have HCB : Hid (∀ w', Below w.heap.size w w' → SlP w' w'.heap.size 3 SpE vcb cb) := fun w' hb => hcb.imp hb hb.size fun _ _ _ h => h
  have hea := es_sz a
  have heb := es_sz b
  have hel := entL_len ca cb _ a.es b.es (Nat.le_refl _)
  obtain ⟨A1, n1, A2, n2, rfl, rfl⟩ := rd_shape ha
  obtain ⟨A3, n3, A4, n4, rfl, rfl⟩ := rd_shape hb
  obtain ⟨A5, n5, rfl, _⟩ := hca
  obtain ⟨A6, n6, rfl, _⟩ := hcb
  have hb0 : Below w.heap.size w (((w.alloc (.cells #[.slice A1 a.es.length n1, .slice A2 a.ks.length n2] 25)).alloc (.cells #[.slice A3 b.es.length n3, .slice A4 b.ks.length n4] 25)).alloc (.cells #[.slice none 0 0, .slice none 0 0] 25)) := (((Below.refl _ w).alloc (Nat.le_refl _) _).alloc (by simp) _).alloc (by simp; omega) _
  have HW : Hid (∀ w', Below (w.heap.size + 3) (((w.alloc (.cells #[.slice A1 a.es.length n1, .slice A2 a.ks.length n2] 25)).alloc (.cells #[.slice A3 b.es.length n3, .slice A4 b.ks.length n4] 25)).alloc (.cells #[.slice none 0 0, .slice none 0 0] 25)) w' → Below w.heap.size w w' ∧ w.heap.size + 3 ≤ w'.heap.size ∧ w'.heap[w.heap.size]? = some (.cells #[.slice A1 a.es.length n1, .slice A2 a.ks.length n2] 25 (0, 0)) ∧ w'.heap[w.heap.size + 1]? = some (.cells #[.slice A3 b.es.length n3, .slice A4 b.ks.length n4] 25 (0, 0)) ∧ w'.heap[w.heap.size + 2]? = some (.cells #[.slice none 0 0, .slice none 0 0] 25 (0, 0))) := fun w' hb =>
    ⟨hb0.trans (hb.mono (by omega)), by have := hb.size; simpa using this, (hb.block _ (by omega)).trans ((heap_old (by simp <;> omega)).trans ((heap_old (by simp)).trans (heap_new rfl))), (hb.block _ (by omega)).trans ((heap_old (by simp)).trans (heap_new (by simp))), (hb.block _ (by omega)).trans (heap_new (by simp))⟩
  have HOA := hid hoa
  have HOB := hid hob
  clear ha hb hoa hob
  go_enter Tryz.func131, Tryz.ntmps131
  go_wp2_with fail
  refine (centries_any a.es b.es ca cb _ _ _ _ _ ((es_slp HA.out).imp hb0 hb0.size fun _ _ _ h => h) ((es_slp HB.out).imp hb0 hb0.size fun _ _ _ h => h) (HCA.out _ hb0) (HCB.out _ hb0) (by omega) hN1 hN2).mono ?_
  rintro e w1 ⟨v1, rfl, ho1, hb1⟩
  obtain ⟨Ae, ce, rfl⟩ := OwnP.shape ho1
  have HO1 := hid ho1
  have hJ : joinT (n + 1) ca cb a b = .mk (entL ca cb a.es b.es) ((joinK a b).flatMap (joinF fun k => joinT n ca cb (kidT a k) (kidT b k))) := rfl
  have HJ := hid hJ
  generalize entL ca cb a.es b.es = E at *
  have hb1' := hid (hb1.mono (show w.heap.size + 3 ≤ _ by simp))
  obtain ⟨hB1, hs1, g0, g1, g2⟩ := HW.out _ hb1'.out
  have a1 : w1.cell? ⟨w.heap.size, 1, none⟩ = some (.slice A2 a.ks.length n2) := cell_cells (i := 1) g0
  have b1 : w1.cell? ⟨w.heap.size + 1, 1, none⟩ = some (.slice A4 b.ks.length n4) := cell_cells (i := 1) g1
  have hlt0 : w.heap.size < w1.heap.size := by omega
  have hlt1 : w.heap.size + 1 < w1.heap.size := by omega
  have hne0 : w.heap.size ≠ w1.heap.size := by omega
  have hne1 : w.heap.size + 1 ≠ w1.heap.size := by omega
  clear ho1 hJ g0 g1 g2 hb1
  have hb2 : Below w.heap.size w ((w1.alloc (.cells #[.slice Ae E.length ce, .slice none 0 0] 25)).alloc (.cells #[.slice A2 a.ks.length n2, .slice A4 b.ks.length n4] 23)) := (hB1.alloc (by omega) _).alloc (by simp; omega) _
  go_wp2_with fail
  refine (concatK_any w w.heap.size a.ks b.ks _ _ (w1.heap.size + 1) _ (by simp) (by simp) (by simp) ((kids_slp HA.out).imp hb2 hb2.size fun _ _ _ h => h) ((kids_slp HB.out).imp hb2 hb2.size fun _ _ _ h => h) (by omega) (by omega)).mono ?_
  rintro e w2 ⟨v2, rfl, ho2, hb3⟩
  have hs2 := hb3.size
  simp only [World.size_alloc] at hs2
  have hb12 : Below (w1.heap.size + 1) (w1.alloc (.cells #[.slice Ae E.length ce, .slice none 0 0] 25)) w2 := ((Below.refl _ _).alloc (by simp) _).trans (hb3.mono (by simp))
  obtain ⟨Ac, cc, rfl⟩ := OwnP.shape ho2
  have HSL := hid (ho2.sl (by unfold Big; simp; omega))
  have HB12 := hid hb12
  clear ho2 hb3 hb12 a1 b1 hb2
  obtain ⟨KS, hKS⟩ : ∃ KS, KS = a.ks ++ b.ks := ⟨_, rfl⟩
  have hKl : KS.length ≤ 200000 := by rw [hKS, List.length_append]; omega
  rw [← hKS] at HSL ⊢
  have HKS := hid hKS
  clear hKS
  go_wp2_with fail
  go_loopw [10, 31] (fun v i wr => ∃ k : Nat, k ≤ KS.length ∧ i = .int .i64 k ∧ OwnP wr w2.heap.size 9 1 StE v ((KS.take k).map (·.1)) ∧ Below w2.heap.size w2 wr) (fun _ i _ => KS.length - (intOf i).toNat)
  case atStart => exact ⟨0, Nat.zero_le _, rfl, OwnP.nil, Below.refl _ _⟩
  case round =>
    obtain ⟨k, hk, rfl, hown, hb⟩ := hrel
    have hsz := hb.size
    by_cases hlt : k < KS.length
    · obtain ⟨⟨key, t⟩, hx⟩ : ∃ x, KS[k]? = some x := ⟨_, List.getElem?_eq_getElem hlt⟩
      obtain ⟨A, m, hv, c1, c2, c3⟩ := HSL.out
      cases hv
      obtain ⟨b, off, rfl, hbB, hc⟩ := c3 (by rintro rfl; simp at hlt)
      obtain ⟨cs, ⟨ve', vk', rfl, hkb, hrd⟩, _, hu⟩ := hc k _ hx
      obtain ⟨A5, n5, A6, n6, rfl, rfl⟩ := rd_shape hrd
      have e0 : wr.cell? ⟨b, off + k * 3, none⟩ = some (.string key) := (hb.cell hbB).trans (hu 0 _ rfl)
      have e1 : wr.cell? ⟨b, off + k * 3 + 1, none⟩ = some (.slice A5 t.es.length n5) := (hb.cell hbB).trans (hu 1 _ rfl)
      have e2 : wr.cell? ⟨b, off + k * 3 + 2, none⟩ = some (.slice A6 t.ks.length n6) := (hb.cell hbB).trans (hu 2 _ rfl)
      have HX : Hid ((KS.take (k + 1)).map (·.1) = (KS.take k).map (·.1) ++ [key]) := by unfold Hid; rw [List.take_add_one, hx]; simp
      have HL : Hid (((KS.take k).map (·.1)).length + [key].length ≤ Few) := by unfold Hid Few; simp; omega
      have HKY : Hid (StE key [.string key]) := ⟨rfl, hkb⟩
      clear hu hc c3 hx hrd
      go_wp2_with (at_builtin; go_loud ((with_reducible refine wpList_few rfl (.tmp 35) (.tmp 38) _ rfl eiStr (by decide) (by decide) (fun _ _ h => StE.one h) rfl ((hown.alloc _).alloc _) rfl (SlP.oneN (x := key) HKY.out rfl _ rfl) HL.out (by simp only [World.size_alloc]; omega) ?_); intro v1 w3 hown1 hb2 _; have hb3 := (((Below.refl w2.heap.size wr).alloc (by omega) _).alloc (by simp only [World.size_alloc]; omega) _).trans hb2))
      go_roundw
      case rel => exact ⟨k + 1, by omega, by go_num, by rw [HX.out]; exact hown1, hb.trans hb3⟩
      case measure => simp [intOf]; omega
    · obtain rfl : k = KS.length := by omega
      rw [List.take_of_length_le (Nat.le_refl _)] at hown
      go_wp2_with fail
      refine (sortStr_any _ _ _ _ hown (by simp; omega) hsz).mono ?_
      rintro e w3 ⟨rfl, ho3, hb3⟩
      have hs3 : w2.heap.size ≤ w3.heap.size := Nat.le_trans hsz hb3.size
      go_wp2_with fail
      refine (compactStr_any _ _ _ _ ho3 (by rw [srtL_len]; simp; omega) hs3).mono ?_
      rintro e w4 ⟨v4, rfl, ho4, hb4⟩
      have hs4 : w2.heap.size ≤ w4.heap.size := Nat.le_trans hs3 hb4.size
      have hKK : cmpL (srtL (KS.map (·.1))) = joinK a b := by unfold joinK; rw [HKS.out]
      rw [hKK] at ho4
      have hkl := joinK_len a b
      have hB24 : Below w2.heap.size w2 w4 := (hb.trans hb3).trans hb4
      have HKM : Hid (∀ x ∈ joinK a b, 1 ≤ n) := fun x hx => joinK_dep hda hdb hx
      clear hKK hown ho3 hb hb3 hb4 hsz hs3 hlt hk
      have hB14 : Below (w1.heap.size + 1) (w1.alloc (.cells #[.slice Ae E.length ce, .slice none 0 0] 25)) w4 := HB12.out.trans (hB24.mono (by omega))
      have HG4 : Hid (w4.heap[w1.heap.size]? = some (.cells #[.slice Ae E.length ce, .slice none 0 0] 25 (0, 0))) := (hB14.block _ (by omega)).trans (heap_new rfl)
      have HB14 : Hid (Below w1.heap.size w1 w4) := ((Below.refl _ w1).alloc (Nat.le_refl _) _).trans (hB14.mono (by omega))
      have HSLA := hid (ho4.sla (by unfold Big; omega))
      obtain ⟨A9, c9, hv4⟩ := OwnP.shape ho4
      subst hv4
      clear ho4 hB14 hB24 wr
      have hJK : Hid ((joinK a b).flatMap (joinF fun k => joinT n ca cb (kidT a k) (kidT b k)) = (joinK a b).flatMap (joinF fun k => joinT n ca cb (kidT a k) (kidT b k))) := rfl
      generalize hKKe : joinK a b = KK at *
      have HKKe := hid hKKe
      clear hKKe
      generalize hFF : (fun k => joinT n ca cb (kidT a k) (kidT b k)) = F at *
      have HF : Hid (∀ k, F k = joinT n ca cb (kidT a k) (kidT b k)) := fun k => by rw [← hFF]
      clear hFF hJK
      have hlt4 : w1.heap.size < w4.heap.size := by omega
      go_wp2_with fail
      go_loopw [46] (fun i wr => ∃ k : Nat, k ≤ KK.length ∧ i = .int .i64 k ∧ ∃ Ak ck, wr.heap[w1.heap.size]? = some (.cells #[.slice Ae E.length ce, .slice Ak ((KK.take k).flatMap (joinF F)).length ck] 25 (0, 0)) ∧
          OwnD wr w4.heap.size 126 3 KdA (fun b => w4.heap.size ≤ b) (.slice Ak ((KK.take k).flatMap (joinF F)).length ck) ((KK.take k).flatMap (joinF F)) ∧ w4.heap.size ≤ wr.heap.size ∧ Below w1.heap.size w1 wr ∧ ∀ b, w1.heap.size < b → b < w4.heap.size → wr.heap[b]? = w4.heap[b]?) (fun i _ => KK.length - (intOf i).toNat)
      case atStart => exact ⟨0, Nat.zero_le _, rfl, none, 0, HG4.out, OwnP.nil, Nat.le_refl _, HB14.out, fun _ _ _ => rfl⟩
      case round =>
        obtain ⟨k, hk, rfl, Ak, ck, hg, hown, hsz, hb, hkp⟩ := hrel
        have hB0 : Below w.heap.size w wr := hB1.trans (hb.mono (by omega))
        have hszk := hown.lt
        by_cases hlt : k < KK.length
        · obtain ⟨key, hx⟩ : ∃ x, KK[k]? = some x := ⟨_, List.getElem?_eq_getElem hlt⟩
          obtain ⟨A, m, hv, c1, c2, c3⟩ := HSLA.out
          cases hv
          obtain ⟨b', off, rfl, hbB, hc⟩ := c3 (by rintro rfl; simp at hlt)
          obtain ⟨cs, ⟨rfl, hkb⟩, _, hu⟩ := hc k _ hx
          have e0 : wr.cell? ⟨b', off + k, none⟩ = some (.string key) := (by unfold World.cell?; rw [hkp b' (by have := hbB.1; omega) hbB.2.1] : wr.cell? ⟨b', off + k, none⟩ = w4.cell? ⟨b', off + k, none⟩).trans (by simpa using hu 0 _ rfl)
          have hn1 := HKM.out key (List.mem_of_getElem? hx)
          have HX := hid (joinF_take hx F)
          have HJL := joinF_lens F (KK.take k)
          rw [List.length_take] at HJL
          generalize (KK.take k).flatMap (joinF F) = js at *
          have HL : Hid (js.length + [(key, F key)].length ≤ Few) := by unfold Hid Few; simp; omega
          have HKB := hid hkb
          have HC8 : Hid (∀ W, Below wr.heap.size wr W → (W.cell? ⟨w.heap.size, 0, none⟩ = some (.slice A1 a.es.length n1) ∧ W.cell? ⟨w.heap.size, 1, none⟩ = some (.slice A2 a.ks.length n2) ∧ W.cell? ⟨w.heap.size + 1, 0, none⟩ = some (.slice A3 b.es.length n3) ∧ W.cell? ⟨w.heap.size + 1, 1, none⟩ = some (.slice A4 b.ks.length n4)) ∧ Below w.heap.size w W) := fun W hW => by
            obtain ⟨q0, _, q1, q2, _⟩ := HW.out W (hb1'.out.trans ((hb.mono (by omega)).trans (hW.mono (by omega))))
            exact ⟨⟨cell_cells (i := 0) q1, cell_cells (i := 1) q1, cell_cells (i := 0) q2, cell_cells (i := 1) q2⟩, q0⟩
          have HRA : Hid (∀ W, Below wr.heap.size wr W → a.rd W W.heap.size (.slice A1 a.es.length n1) (.slice A2 a.ks.length n2)) := fun W hW => rd_below (HC8.out W hW).2 (HC8.out W hW).2.size _ _ _ HA.out
          have HRB : Hid (∀ W, Below wr.heap.size wr W → b.rd W W.heap.size (.slice A3 b.es.length n3) (.slice A4 b.ks.length n4)) := fun W hW => rd_below (HC8.out W hW).2 (HC8.out W hW).2.size _ _ _ HB.out
          obtain ⟨⟨q0, q1, q2, q3⟩, _⟩ := HC8.out wr (Below.refl _ _)
          have HIH := hid (ih (kidT a key) (kidT b key))
          have HDA := hid (kidT_dep HOA.out hda hn1 key)
          have HDB := hid (kidT_dep HOB.out hdb hn1 key)
          have HZA := hid (Nat.le_trans (kidT_sz a key) hza)
          have HZB := hid (Nat.le_trans (kidT_sz b key) hzb)
          have hFk := HF.out key
          have HFK := hid hFk
          clear hu hc c3 hx hkb hn1 hFk ih
          go_upto_region 12 with (fail)
          go_region_held3 (fun w' => w'.cell? ⟨w.heap.size, 0, none⟩ = some (.slice A1 a.es.length n1) ∧ w'.cell? ⟨w.heap.size, 1, none⟩ = some (.slice A2 a.ks.length n2) ∧ w'.cell? ⟨w.heap.size + 1, 0, none⟩ = some (.slice A3 b.es.length n3) ∧ w'.cell? ⟨w.heap.size + 1, 1, none⟩ = some (.slice A4 b.ks.length n4))
            (first | go_keep | exact (HC8.out _ hbk3.out).1 | exact (HC8.out _ (hbk3.out.alloc hbk3.out.size _)).1 | exact (HC8.out _ hbk2.out).1 | exact (HC8.out _ (hbk2.out.alloc hbk2.out.size _)).1 | exact (HC8.out _ hbk1.out).1 | exact (HC8.out _ (hbk1.out.alloc hbk1.out.size _)).1 | exact (HC8.out _ ((hbk3.out.setCell hge.out _).setCell hge.out _)).1)
            (first | (have hq := hbk2; go_at_call 131; go_loud ((refine (HIH.out _ _ _ _ _ _ _ (by first | exact HQA2.out | exact rd_below (below_via (Below.refl _ _)) (by simp) _ _ _ HQA2.out) (by first | exact HQB.out | exact rd_below (below_via (Below.refl _ _)) (by simp) _ _ _ HQB.out) (HCA.out _ (HC8.out _ (by first | exact hbk2.out | exact hbk2.out.alloc hbk2.out.size _)).2) (HCB.out _ (HC8.out _ (by first | exact hbk2.out | exact hbk2.out.alloc hbk2.out.size _)).2) (kidT_ord HOA.out key) (kidT_ord HOB.out key) HDA.out HDB.out HZA.out HZB.out).mono ?_); rw [← HFK.out]; rintro e w7 ⟨ve7, vk7, rfl, hrd7, hb⟩; obtain ⟨Av, nv, Aw, nw, rfl, rfl⟩ := rda_shape hrd7; have HR7 := hid hrd7; have hb' : Below w6.heap.size w6 w7 := (by first | exact hb | exact below_via hb); have hbk3 : Hid (Below wr.heap.size wr w7) := hbk2.out.trans (hb'.mono (by have := hbk2.out.size; simpa using this)); (try (have hnN := hid (lt_of_block hbox.out); have hbox := hid ((hb.block _ hnN.out).trans hbox.out))); (try (have hbox : Hid (w7.heap[w6.heap.size]? = some (.cells #[.slice none 0 0, .slice none 0 0] 25 (0, 0))) := (hb.block _ (by simp; done)).trans (heap_new rfl); have hnN : Hid (w6.heap.size < (w6.alloc (.cells #[.slice none 0 0, .slice none 0 0] 25)).heap.size) := (by unfold Hid; simp); have hge := hid hs6)); (try (have z0 := cells_frz (i := 0) hbox.out; have z1 := cells_frz (i := 1) hbox.out; have y0 := cell_cells (i := 0) hbox.out; have y1 := cell_cells (i := 1) hbox.out)); clear hrd7 hb hb'))
                   | (have hq := hbk1; go_at_call 175; go_loud ((refine (ckid_any b key _ _ _ (HRB.out _ (by first | exact hbk1.out | exact hbk1.out.alloc hbk1.out.size _)) HOB.out).mono ?_); rintro e w6 ⟨ve6, vk6, rfl, hrd6, hb⟩; have hb' : Below w5.heap.size w5 w6 := (by first | exact hb | exact below_via hb); have HQB := hid (rd_below hb hb.size _ _ _ hrd6); have HQA2 := hid (rd_below hb' hb'.size _ _ _ HQA.out); have hbk2 : Hid (Below wr.heap.size wr w6) := hbk1.out.trans (hb'.mono (by have := hbk1.out.size; simpa using this)); have hs6 := hbk2.out.size; (try (have hbox := hid ((hb.block _ (lt_of_block hbox.out)).trans hbox.out))); (try (have hbox : Hid (w6.heap[w5.heap.size]? = some (.cells #[.slice none 0 0, .slice none 0 0] 25 (0, 0))) := (hb.block _ (by simp; done)).trans (heap_new rfl); have hge := hid hs5)); clear hrd6 hb hb'))
                   | (go_at_call 175; go_loud ((refine (ckid_any a key _ _ _ (HRA.out _ (by go_grown)) HOA.out).mono ?_); rintro e w5 ⟨ve5, vk5, rfl, hrd5, hb⟩; have HQA := hid (rd_below hb hb.size _ _ _ hrd5); have hbk1 : Hid (Below wr.heap.size wr w5) := (Below.trans (by go_grown) (hb.mono (by simp))); have hs5 := hbk1.out.size; (try (have hbox : Hid (w5.heap[wr.heap.size]? = some (.cells #[.slice none 0 0, .slice none 0 0] 25 (0, 0))) := (hb.block _ (by simp; done)).trans (heap_new (by simp)); have hge := hid (Nat.le_refl wr.heap.size))); clear hrd5 hb)))
          all_goals (
            first
              | have hFIN := hid (fin_set hbox.out hge.out hbk3.out HR7.out hnN.out)
              | have hFIN := hid (fin_new (e := 25) hbk3.out HR7.out (by have := hbk2.out.size; simp; omega))
            have hge4 := hbk3.out.size
            obtain ⟨q4, q5, _, _⟩ := hFIN.out _ (Below.refl _ _)
            go_wp2_with fail
            refine (tempty_any _ _ _ _ _ _ _).mono ?_
            rintro e w8 ⟨rfl, hb8⟩
            obtain ⟨q6, q7, hb9, hrd9⟩ := hFIN.out _ hb8
            have hs9 := hb9.size
            have hg8 := (hb9.block w1.heap.size (by omega)).trans hg
            have hkp8 : ∀ b, w1.heap.size < b → b < w4.heap.size → w8.heap[b]? = w4.heap[b]? := fun b h1 h2 => (hb9.block b (by omega)).trans (hkp b h1 h2)
            have hown8 := hown.grow KdA.mon hb9
            clear q0 q1 q2 q3 q4 q5
            cases he : empB (F key).es.length (F key).ks.length
            · have HX2 : Hid ((KK.take (k + 1)).flatMap (joinF F) = js ++ [(key, F key)]) := by
                unfold Hid; rw [HX.out]; unfold joinF; rw [← empB_empty, he]; rfl
              have c9 : w8.cell? ⟨w1.heap.size, 1, none⟩ = some (.slice Ak js.length ck) := cell_cells (i := 1) hg8
              have hlt8 : w1.heap.size < w8.heap.size := by omega
              clear he
              go_wp2_with (at_builtin; go_loud ((with_reducible refine wpList_d (v := .slice Ak js.length ck) rfl (.tmp 63) (.tmp 67) _ rfl KdA.mon eiKid (by decide) (by decide) rfl (hown8.grow KdA.mon ((Below.refl _ w8).alloc (Nat.le_refl _) (.cells #[.string key, .slice Av (F key).es.length nv, .slice Aw (F key).ks.length nw] 126))) rfl (kid_one hrd9 HKB.out (fun b hb => ⟨hb.2, by have := hb.1; omega, by rw [World.size_alloc]; have := hb.2; omega, fun e => by have := hszk b e; have := hb.1; omega⟩) _ (by rw [World.size_alloc]; omega)) HL.out (by rw [World.size_alloc]; omega) ?_); intro v1 w9 hown9 hb10 _ _; have hsh9 : ∃ A c, v1 = .slice A (js ++ [(key, F key)]).length c := OwnP.shape hown9; obtain ⟨A1', c1', hv1⟩ := hsh9; subst hv1; have hg9 := hid ((hb10.block _ hlt4).trans ((heap_old hlt8).trans hg8)); have hc9 : w9.cell? ⟨w1.heap.size, 1, none⟩ = some (.slice Ak js.length ck) := cell_cells (i := 1) hg9.out; have hf9 := cells_frz (i := 1) hg9.out))
              have hb11 := ((hb9.mono (show w4.heap.size ≤ _ from hsz)).alloc (show w4.heap.size ≤ w8.heap.size by omega) _).trans hb10
              have hs11 := hb11.size
              go_roundw
              case rel =>
                refine ⟨k + 1, by omega, by go_num, A1', c1', ?_, ?_, ?_, ?_, ?_⟩
                · rw [HX2.out]; simpa using cells_set (i := 1) hg9.out (.slice A1' (js.length + 1) c1')
                · rw [HX2.out]; exact OwnD.setOther hown9 KdA.mon hlt4 (by simp; omega) _
                · simp [World.setCell]; omega
                · exact (hb.trans (hb11.mono (by omega))).setCell (by simp) _
                · intro b h1 h2
                  exact (Below.heap_setCell _ _ _ _ (by simp; omega)).trans ((hb11.block b h2).trans (hkp b h1 h2))
              case measure => simp [intOf]; omega
            · have HX2 : Hid ((KK.take (k + 1)).flatMap (joinF F) = js) := by
                unfold Hid; rw [HX.out]; unfold joinF; rw [← empB_empty, he]; simp
              clear he
              go_wp2_with fail
              go_roundw
              case rel => exact ⟨k + 1, by omega, by go_num, Ak, ck, by rw [HX2.out]; exact hg8, by rw [HX2.out]; exact hown8, by omega, hb.trans (hb9.mono (by omega)), hkp8⟩
              case measure => simp [intOf]; omega)
        · obtain rfl : k = KK.length := by omega
          rw [List.take_of_length_le (Nat.le_refl _)] at hg hown hszk
          have hJe : joinT (n + 1) ca cb a b = .mk E (KK.flatMap (joinF F)) := by
            rw [HJ.out, ← HKKe.out]
          have hjl := joinF_lens F KK
          generalize KK.flatMap (joinF F) = JS at *
          have c0 : wr.cell? ⟨w1.heap.size, 0, none⟩ = some (.slice Ae E.length ce) := cell_cells (i := 0) hg
          have c1 : wr.cell? ⟨w1.heap.size, 1, none⟩ = some (.slice Ak JS.length ck) := cell_cells (i := 1) hg
          have hg2 := (HW.out wr (hb1'.out.trans (hb.mono (by omega)))).2.2.2.2
          have d0 : wr.cell? ⟨w.heap.size + 2, 0, none⟩ = some (.slice none 0 0) := cell_cells (i := 0) hg2
          have d1 : wr.cell? ⟨w.heap.size + 2, 1, none⟩ = some (.slice none 0 0) := cell_cells (i := 1) hg2
          have z0 := cells_frz (i := 0) hg2
          have z1 := cells_frz (i := 1) hg2
          go_wp2_with fail
          have hW0 := cells_set (i := 1) (cells_set (i := 0) hg2 (.slice Ae E.length ce)) (.slice Ak JS.length ck)
          have hKW : ∀ b, w.heap.size + 3 ≤ b → ((wr.setCell ⟨w.heap.size + 2, 0, none⟩ (.slice Ae E.length ce)).setCell ⟨w.heap.size + 2, 1, none⟩ (.slice Ak JS.length ck)).heap[b]? = wr.heap[b]? := fun b hb => (Below.heap_setCell _ _ _ _ (by simp; omega)).trans (Below.heap_setCell _ _ _ _ (by simp; omega))
          have hSW : ((wr.setCell ⟨w.heap.size + 2, 0, none⟩ (.slice Ae E.length ce)).setCell ⟨w.heap.size + 2, 1, none⟩ (.slice Ak JS.length ck)).heap.size = wr.heap.size := by simp [World.setCell]
          have hBW : Below w.heap.size w ((wr.setCell ⟨w.heap.size + 2, 0, none⟩ (.slice Ae E.length ce)).setCell ⟨w.heap.size + 2, 1, none⟩ (.slice Ak JS.length ck)) := (hB0.setCell (by simp) _).setCell (by simp) _
          clear c0 c1 d0 d1 z0 z1
          generalize ((wr.setCell ⟨w.heap.size + 2, 0, none⟩ (.slice Ae E.length ce)).setCell ⟨w.heap.size + 2, 1, none⟩ (.slice Ak JS.length ck)) = W at *
          have r0 : W.cell? ⟨w.heap.size + 2, 0, none⟩ = some (.slice Ae E.length ce) := (cell_cells (i := 0) hW0).trans (by simp)
          have r1 : W.cell? ⟨w.heap.size + 2, 1, none⟩ = some (.slice Ak JS.length ck) := (cell_cells (i := 1) hW0).trans (by simp)
          refine bodyPost_ret (v := .agg #[.slice Ae E.length ce, .slice Ak JS.length ck]) (by simp [results, Tryz.results131, go_sem, r0, r1]) rfl ⟨_, _, rfl, ?_, hBW⟩
          rw [hJe, rda_iff]
          refine ⟨(HO1.out.sla (by unfold Big; omega)).up (fun b hb' => (hKW b (by have := hb'.1; simp only [World.size_alloc] at this; omega)).trans (hb.block b hb'.2.1)) (fun b hb' => ⟨by have := hb'.1; simp only [World.size_alloc] at this; omega, by have := hb'.2.1; omega⟩) (fun _ _ _ h => h), (OwnP.sla hown (by unfold Big; omega)).up (fun b hb' => hKW b (by have := hb'.1; omega)) (fun b hb' => ⟨by have := hb'.1; omega, by have := hb'.2.1; omega⟩) ?_⟩
          intro x _ cs hx
          exact KdA.mon.up (fun b hb' => hKW b (by have := hb'.1; omega)) (fun b hb' => ⟨by have := hb'.1; omega, by have := hb'.2.1; omega⟩) hx
end Go.Proofs.YtlapdmgjfdelnaaGreat

namespace Go.Proofs.YtlapdmgjfdelnaaGreat
open Go.RowKit
set_option maxRecDepth 100000

theorem ltD_irrefl (a : Dt) : a.lt a = false := by unfold Dt.lt; simp
theorem ltD_tr {a b c : Dt} (h : a.lt b = true) (k : b.lt c = true) : a.lt c = true := by
  unfold Dt.lt at *; split at h <;> split at k <;> split <;> simp at * <;> omega
theorem ltD_ne {a b : Dt} (h : a.lt b = true) : a ≠ b := fun e => by rw [e, ltD_irrefl] at h; cases h
theorem grtE_dot {x y : En} (h : x.dot = y.dot) : (grtE x y).dot = x.dot := by unfold grtE; split <;> simp [h]
theorem stayL_mem {c : List Sp} {x e : En} : e ∈ stayL c x ↔ e = x ∧ cHas c x.dot = false := by
  unfold stayL; cases cHas c x.dot <;> simp
/-- One entry of two lists joined. -/
def EntJ (ca cb : List Sp) (a b : En → Prop) (e : En) : Prop :=
  (∃ x y, a x ∧ b y ∧ x.dot = y.dot ∧ e = grtE x y) ∨ (a e ∧ (∀ y, b y → y.dot ≠ e.dot) ∧ cHas cb e.dot = false) ∨ (b e ∧ (∀ x, a x → x.dot ≠ e.dot) ∧ cHas ca e.dot = false)
theorem entL_mem (ca cb : List Sp) : ∀ (n : Nat) (a b : List En), a.length + b.length ≤ n → (a.Pairwise fun x y => x.dot.lt y.dot = true) → (b.Pairwise fun x y => x.dot.lt y.dot = true) → ∀ e, e ∈ entL ca cb a b ↔ EntJ ca cb (· ∈ a) (· ∈ b) e
  | n, [], [], _, _, _, e => by rw [entL]; simp [EntJ]
  | 0, x :: a, _, h, _, _, _ => by simp at h
  | 0, [], y :: b, h, _, _, _ => by simp at h
  | n + 1, x :: a, [], h, ha, hb, e => by
    have h2 := entL_mem ca cb n a [] (by simp at h ⊢; omega) ha.of_cons hb e
    rw [entL, List.mem_append, stayL_mem, h2]
    unfold EntJ
    simp only [List.not_mem_nil, List.mem_cons]
    grind
  | n + 1, [], y :: b, h, ha, hb, e => by
    have h2 := entL_mem ca cb n [] b (by simp at h ⊢; omega) ha hb.of_cons e
    rw [entL, List.mem_append, stayL_mem, h2]
    unfold EntJ
    simp only [List.not_mem_nil, List.mem_cons]
    grind
  | n + 1, x :: a, y :: b, h, ha, hb, e => by
    have hxa := (List.pairwise_cons.1 ha).1
    have hyb := (List.pairwise_cons.1 hb).1
    rw [entL]
    cases h1 : x.dot.lt y.dot
    · cases h2 : y.dot.lt x.dot
      · have hxy := ltD_total h1 h2
        have h3 := entL_mem ca cb n a b (by simp at h ⊢; omega) ha.of_cons hb.of_cons e
        have n1 : ∀ z ∈ a, z.dot ≠ x.dot := fun z hz => (ltD_ne (hxa z hz)).symm
        have n2 : ∀ z ∈ b, z.dot ≠ y.dot := fun z hz => (ltD_ne (hyb z hz)).symm
        have hg := grtE_dot hxy
        rw [if_neg (by simp), if_neg (by simp), List.mem_cons, h3]
        unfold EntJ
        simp only [List.mem_cons]
        grind
      · have h3 := entL_mem ca cb n (x :: a) b (by simp at h ⊢; omega) ha hb.of_cons e
        have n1 : ∀ z ∈ a, z.dot ≠ y.dot := fun z hz => (ltD_ne (ltD_tr h2 (hxa z hz))).symm
        have n2 : ∀ z ∈ b, z.dot ≠ y.dot := fun z hz => (ltD_ne (hyb z hz)).symm
        have n3 : x.dot ≠ y.dot := (ltD_ne h2).symm
        rw [if_neg (by simp), if_pos rfl, List.mem_append, stayL_mem, h3]
        unfold EntJ
        simp only [List.mem_cons]
        grind
    · have h3 := entL_mem ca cb n a (y :: b) (by simp at h ⊢; omega) ha.of_cons hb e
      have n1 : ∀ z ∈ a, z.dot ≠ x.dot := fun z hz => (ltD_ne (hxa z hz)).symm
      have n2 : ∀ z ∈ b, z.dot ≠ x.dot := fun z hz => (ltD_ne (ltD_tr h1 (hyb z hz))).symm
      have n3 : x.dot ≠ y.dot := ltD_ne h1
      rw [if_pos rfl, List.mem_append, stayL_mem, h3]
      unfold EntJ
      simp only [List.mem_cons]
      grind
theorem EntJ.dot {ca cb : List Sp} {a b : En → Prop} {e : En} (h : EntJ ca cb a b e) : ∃ z, (a z ∨ b z) ∧ z.dot = e.dot := by
  rcases h with ⟨x, y, hx, hy, hd, rfl⟩ | ⟨hx, _, _⟩ | ⟨hx, _, _⟩
  · exact ⟨x, .inl hx, (grtE_dot hd).symm⟩
  · exact ⟨e, .inl hx, rfl⟩
  · exact ⟨e, .inr hx, rfl⟩
theorem EntJ.congr {ca cb : List Sp} {a b a' b' : En → Prop} (ha : ∀ e, a e ↔ a' e) (hb : ∀ e, b e ↔ b' e) (e : En) : EntJ ca cb a b e ↔ EntJ ca cb a' b' e := by
  have h1 : a = a' := funext fun e => propext (ha e)
  have h2 : b = b' := funext fun e => propext (hb e)
  rw [h1, h2]
theorem entL_ord (ca cb : List Sp) : ∀ (n : Nat) (a b : List En), a.length + b.length ≤ n → (a.Pairwise fun x y => x.dot.lt y.dot = true) → (b.Pairwise fun x y => x.dot.lt y.dot = true) → (entL ca cb a b).Pairwise fun x y => x.dot.lt y.dot = true
  | n, [], [], _, _, _ => by rw [entL]; exact .nil
  | 0, x :: a, _, h, _, _ => by simp at h
  | 0, [], y :: b, h, _, _ => by simp at h
  | n + 1, x :: a, [], h, ha, hb => by
    have h2 := entL_ord ca cb n a [] (by simp at h ⊢; omega) ha.of_cons hb
    have hm := entL_mem ca cb _ a [] (Nat.le_refl _) ha.of_cons hb
    have hxa := (List.pairwise_cons.1 ha).1
    rw [entL, List.pairwise_append]
    refine ⟨by unfold stayL; split <;> simp, h2, fun u hu v hv => ?_⟩
    obtain ⟨z, hz, hd⟩ := ((hm v).1 hv).dot
    rw [(stayL_mem.1 hu).1, ← hd]
    simp at hz
    exact hxa z hz
  | n + 1, [], y :: b, h, ha, hb => by
    have h2 := entL_ord ca cb n [] b (by simp at h ⊢; omega) ha hb.of_cons
    have hm := entL_mem ca cb _ [] b (Nat.le_refl _) ha hb.of_cons
    have hxa := (List.pairwise_cons.1 hb).1
    rw [entL, List.pairwise_append]
    refine ⟨by unfold stayL; split <;> simp, h2, fun u hu v hv => ?_⟩
    obtain ⟨z, hz, hd⟩ := ((hm v).1 hv).dot
    rw [(stayL_mem.1 hu).1, ← hd]
    simp at hz
    exact hxa z hz
  | n + 1, x :: a, y :: b, h, ha, hb => by
    have hxa := (List.pairwise_cons.1 ha).1
    have hyb := (List.pairwise_cons.1 hb).1
    rw [entL]
    cases h1 : x.dot.lt y.dot
    · cases h2 : y.dot.lt x.dot
      · have hxy := ltD_total h1 h2
        have h3 := entL_ord ca cb n a b (by simp at h ⊢; omega) ha.of_cons hb.of_cons
        have hm := entL_mem ca cb _ a b (Nat.le_refl _) ha.of_cons hb.of_cons
        rw [if_neg (by simp), if_neg (by simp), List.pairwise_cons]
        refine ⟨fun v hv => ?_, h3⟩
        obtain ⟨z, hz, hd⟩ := ((hm v).1 hv).dot
        rw [grtE_dot hxy, ← hd]
        rcases hz with hz | hz
        · exact hxa z hz
        · rw [hxy]; exact hyb z hz
      · have h3 := entL_ord ca cb n (x :: a) b (by simp at h ⊢; omega) ha hb.of_cons
        have hm := entL_mem ca cb _ (x :: a) b (Nat.le_refl _) ha hb.of_cons
        rw [if_neg (by simp), if_pos rfl, List.pairwise_append]
        refine ⟨by unfold stayL; split <;> simp, h3, fun u hu v hv => ?_⟩
        obtain ⟨z, hz, hd⟩ := ((hm v).1 hv).dot
        rw [(stayL_mem.1 hu).1, ← hd]
        rcases hz with hz | hz
        · rcases List.mem_cons.1 hz with rfl | hz
          · exact h2
          · exact ltD_tr h2 (hxa z hz)
        · exact hyb z hz
    · have h3 := entL_ord ca cb n a (y :: b) (by simp at h ⊢; omega) ha.of_cons hb
      have hm := entL_mem ca cb _ a (y :: b) (Nat.le_refl _) ha.of_cons hb
      rw [if_pos rfl, List.pairwise_append]
      refine ⟨by unfold stayL; split <;> simp, h3, fun u hu v hv => ?_⟩
      obtain ⟨z, hz, hd⟩ := ((hm v).1 hv).dot
      rw [(stayL_mem.1 hu).1, ← hd]
      rcases hz with hz | hz
      · exact hxa z hz
      · rcases List.mem_cons.1 hz with rfl | hz
        · exact h1
        · exact ltD_tr h1 (hyb z hz)
theorem joinF_mem {f : ByteArray → Tr} {l : List ByteArray} {k : ByteArray} {t : Tr} : (k, t) ∈ l.flatMap (joinF f) ↔ k ∈ l ∧ (f k).empty = false ∧ t = f k := by
  rw [List.mem_flatMap]
  constructor
  · rintro ⟨q, hq, h⟩
    unfold joinF at h
    split at h
    · cases h
    · rename_i hn
      simp at h
      obtain ⟨rfl, rfl⟩ := h
      exact ⟨hq, by simpa using hn, rfl⟩
  · rintro ⟨hk, he, rfl⟩
    exact ⟨k, hk, by unfold joinF; rw [he]; simp⟩
theorem joinF_pair {f : ByteArray → Tr} : ∀ {l : List ByteArray}, (l.Pairwise fun a b => ltS a b = true) → (l.flatMap (joinF f)).Pairwise fun a b => ltS a.1 b.1 = true
  | [], _ => .nil
  | k :: l, h => by
    obtain ⟨h1, h2⟩ := List.pairwise_cons.1 h
    rw [List.flatMap_cons, List.pairwise_append]
    refine ⟨by unfold joinF; split <;> simp, joinF_pair h2, fun u hu v hv => ?_⟩
    have hu1 : u.1 = k := by unfold joinF at hu; split at hu <;> simp at hu; rw [hu]
    rw [hu1]
    obtain ⟨v1, v2⟩ := v
    exact h1 v1 (joinF_mem.1 hv).1
theorem joinK_spec (a b : Tr) : ((joinK a b).Pairwise fun x y => ltS x y = true) ∧ ∀ k, k ∈ joinK a b ↔ ∃ t, (k, t) ∈ a.ks ∨ (k, t) ∈ b.ks := by
  unfold joinK
  rw [sd_eq]
  obtain ⟨h1, h2⟩ := sdL_spec ((a.ks ++ b.ks).map (·.1))
  refine ⟨h1, fun k => (h2 k).trans ?_⟩
  rw [List.mem_map]
  constructor
  · rintro ⟨⟨q, t⟩, hm, rfl⟩; exact ⟨t, List.mem_append.1 hm⟩
  · rintro ⟨t, hm⟩; exact ⟨(k, t), List.mem_append.2 hm, rfl⟩
theorem lvs_key {t : Tr} {k : ByteArray} {qs : List ByteArray} {e : En} (h : ((k :: qs, e) : Lf) ∈ t.lvs []) : ∃ u, (k, u) ∈ t.ks := by
  obtain ⟨es, ks⟩ := t
  obtain ⟨u, hu, _⟩ := mem_cons'.1 h
  exact ⟨u, hu⟩
theorem lvs_full {t : Tr} {x : Lf} (h : x ∈ t.lvs []) : t.empty = false := by
  obtain ⟨es, ks⟩ := t
  cases he : (Tr.mk es ks).empty
  · rfl
  · simp [Tr.empty] at he
    obtain ⟨rfl, rfl⟩ := he
    simp [Tr.lvs, Tr.lvsL] at h
theorem mem_es {t : Tr} {e : En} : (([], e) : Lf) ∈ t.lvs [] ↔ e ∈ t.es := by obtain ⟨es, ks⟩ := t; exact mem_nil
theorem joinT_spec (ca cb : List Sp) : ∀ (n : Nat) (a b : Tr), a.Ord → b.Ord → a.dep ≤ n → b.dep ≤ n → (joinT n ca cb a b).Ord ∧ ∀ p e, ((p, e) : Lf) ∈ (joinT n ca cb a b).lvs [] ↔ EntJ ca cb (fun x => ((p, x) : Lf) ∈ a.lvs []) (fun y => ((p, y) : Lf) ∈ b.lvs []) e := by
  intro n
  induction n with
  | zero => intro a b _ _ h _; have := dep_pos a; omega
  | succ n ih =>
  intro a b ha hb hda hdb
  have hih : ∀ k ∈ joinK a b, _ := fun k hk => ih (kidT a k) (kidT b k) (kidT_ord ha k) (kidT_ord hb k) (kidT_dep ha hda (joinK_dep hda hdb hk) k) (kidT_dep hb hdb (joinK_dep hda hdb hk) k)
  obtain ⟨hk1, hk2⟩ := joinK_spec a b
  have hsa : a.es.Pairwise fun x y => x.dot.lt y.dot = true := by obtain ⟨es, ks⟩ := a; exact (ord_iff.1 ha).1
  have hsb : b.es.Pairwise fun x y => x.dot.lt y.dot = true := by obtain ⟨es, ks⟩ := b; exact (ord_iff.1 hb).1
  rw [joinT]
  refine ⟨Ord.mk' (entL_ord ca cb _ _ _ (Nat.le_refl _) hsa hsb) (joinF_pair hk1) fun k t hm => ?_, ?_⟩
  · obtain ⟨hk, he, rfl⟩ := joinF_mem.1 hm
    refine ⟨?_, he, (hih k hk).1⟩
    obtain ⟨u, h | h⟩ := (hk2 k).1 hk
    · obtain ⟨es, ks⟩ := a; exact ((ord_iff.1 ha).2.2 k u h).1
    · obtain ⟨es, ks⟩ := b; exact ((ord_iff.1 hb).2.2 k u h).1
  · intro p e
    match p with
    | [] =>
      rw [mem_nil, entL_mem ca cb _ _ _ (Nat.le_refl _) hsa hsb]
      exact EntJ.congr (fun x => mem_es.symm) (fun x => mem_es.symm) e
    | k :: qs =>
      rw [mem_cons']
      have hc : EntJ ca cb (fun x => ((k :: qs, x) : Lf) ∈ a.lvs []) (fun y => ((k :: qs, y) : Lf) ∈ b.lvs []) e ↔ EntJ ca cb (fun x => ((qs, x) : Lf) ∈ (kidT a k).lvs []) (fun y => ((qs, y) : Lf) ∈ (kidT b k).lvs []) e := EntJ.congr (fun x => (mem_kidT ha).symm) (fun x => (mem_kidT hb).symm) e
      constructor
      · rintro ⟨t, hm, hx⟩
        obtain ⟨hk, he, rfl⟩ := joinF_mem.1 hm
        exact hc.2 (((hih k hk).2 qs e).1 hx)
      · intro hx
        have hk : k ∈ joinK a b := by
          obtain ⟨z, hz, _⟩ := hx.dot
          rcases hz with hz | hz
          · obtain ⟨u, hu⟩ := lvs_key hz; exact (hk2 k).2 ⟨u, .inl hu⟩
          · obtain ⟨u, hu⟩ := lvs_key hz; exact (hk2 k).2 ⟨u, .inr hu⟩
        have hy := ((hih k hk).2 qs e).2 (hc.1 hx)
        exact ⟨_, joinF_mem.2 ⟨hk, lvs_full hy, rfl⟩, hy⟩
end Go.Proofs.YtlapdmgjfdelnaaGreat

namespace Go.Proofs.YtlapdmgjfdelnaaGreat
open Go.RowKit
set_option maxRecDepth 100000

/-- Are two leaves of one dot, at one place? -/
def placeB (a b : Lf) : Bool := decide (a.2.dot = b.2.dot) && decide (a.1 = b.1)
def findL (l : List Lf) (x : Lf) : Option Lf := l.find? fun y => placeB y x
def gtE (y x : En) : Bool := decide (x.v < y.v) || (decide (y.v = x.v) && ltS x.s y.s)
def outP (q : List Lf) (cb : List Sp) (x : Lf) : List Lf := match findL q x with | some y => if gtE y.2 x.2 then [y] else [x] | none => if hasC cb x.2.dot then [] else [x]
def outQ (p : List Lf) (ca : List Sp) (y : Lf) : List Lf := match findL p y with | some _ => [] | none => if hasC ca y.2.dot then [] else [y]
/-- The leaves that the reference's Join builds its tree of. -/
def r9L (p q : List Lf) (ca cb : List Sp) : List Lf := p.flatMap (outP q cb) ++ q.flatMap (outQ p ca)
theorem grtE_gt (x y : En) : grtE x y = if gtE y x then y else x := by
  unfold grtE gtE
  rcases Int.lt_trichotomy x.v y.v with h | h | h
  · have e1 : cmpI x.v y.v = -1 := if_pos h
    rw [e1]; simp [orI, h]
  · have e1 : cmpI x.v y.v = 0 := by unfold cmpI; rw [if_neg (by omega), if_neg (by omega)]
    rw [e1]
    unfold orI cmpS
    cases h1 : ltS x.s y.s
    · cases h2 : ltS y.s x.s <;> simp [h]
    · simp [h]
  · have e1 : cmpI x.v y.v = 1 := by unfold cmpI; rw [if_neg (by omega), if_pos h]
    rw [e1]
    have h1 : ¬ x.v < y.v := by omega
    have h3 : ¬ y.v = x.v := by omega
    simp [orI, h1, h3]
theorem cHas_hasC {c : List Sp} (h : apartB c = true) (d : Dt) : cHas c d = hasC c d := by
  unfold cHas hasC sHas
  rw [h, Bool.true_and]
  cases hd : d.right
  · rfl
  · have hdc : 0 ≤ d.dc ∧ d.dc < 4 := by unfold Dt.right at hd; simp at hd; omega
    obtain ⟨i, hi⟩ : ∃ i : Nat, (i : Int) = d.dc := ⟨d.dc.toNat, by omega⟩
    have := apart_part h (i := i) (by omega)
    rw [hi] at this
    rw [this]; rfl
end Go.Proofs.YtlapdmgjfdelnaaGreat

namespace Go.Proofs.YtlapdmgjfdelnaaGreat
open Go.RowKit
set_option maxRecDepth 100000

/-- What of the numbers lo to hi is in none of the runs. -/
def cutL : List (Int × Int) → Int → Int → List (Int × Int)
  | [], lo, hi => if lo ≤ hi then [(lo, hi)] else []
  | x :: b, lo, hi => if x.2 < lo ∨ hi < x.1 then cutL b lo hi else if lo < x.1 then (lo, x.1 - 1) :: cutL b (x.2 + 1) hi else cutL b (x.2 + 1) hi
def minusL (a b : List (Int × Int)) : List (Int × Int) := a.flatMap fun r => cutL b r.1 r.2
theorem minusL_take {a b : List (Int × Int)} {k : Nat} {r : Int × Int} (h : a[k]? = some r) : minusL (a.take (k + 1)) b = minusL (a.take k) b ++ cutL b r.1 r.2 := by
  unfold minusL; rw [List.take_add_one, h]; simp
theorem cutL_drop {b : List (Int × Int)} {k : Nat} {x : Int × Int} (h : b[k]? = some x) (lo hi : Int) : cutL (b.drop k) lo hi = (if x.2 < lo ∨ hi < x.1 then cutL (b.drop (k + 1)) lo hi else if lo < x.1 then (lo, x.1 - 1) :: cutL (b.drop (k + 1)) (x.2 + 1) hi else cutL (b.drop (k + 1)) (x.2 + 1) hi) := by
  have hlt := (List.getElem?_eq_some_iff.1 h).1
  rw [List.drop_eq_getElem_cons hlt, (List.getElem?_eq_some_iff.1 h).2, cutL]

theorem hasL_cons (x : Int × Int) (l : List (Int × Int)) (n : Int) : hasL (x :: l) n = (inR x n || hasL l n) := rfl
theorem runs_gt' : ∀ (l : List (Int × Int)) (q n : Int), runsR (some q) l = true → hasL l n = true → q + 1 < n
  | x :: l, q, n, h, hn => by
    rw [runsR_iff] at h
    obtain ⟨h1, h2, h3⟩ := h
    unfold runOk at h1
    simp only [okR, decide_eq_true_eq] at h2
    rw [hasL_cons, Bool.or_eq_true] at hn
    rcases hn with hn | hn
    · simp [inR] at hn; omega
    · have := runs_gt' l x.2 n h3 hn; omega
  | [], q, n, _, hn => by simp [hasL] at hn
theorem runs_wk {l : List (Int × Int)} {q : Int} (h : runsR (some q) l = true) : ∀ p : Option Int, (∀ q', p = some q' → q' ≤ q) → runsR p l = true := by
  intro p hp
  cases l with
  | nil => cases p <;> rfl
  | cons x l =>
    rw [runsR_iff] at h ⊢
    refine ⟨h.1, ?_, h.2.2⟩
    cases p with
    | none => rfl
    | some q' =>
      have := hp q' rfl
      have h2 := h.2.1
      simp only [okR, decide_eq_true_eq] at h2 ⊢
      omega
theorem cut_runs : ∀ (b : List (Int × Int)) (p0 p : Option Int) (lo hi : Int) (rest : List (Int × Int)), runsR p0 b = true → okR p lo = true → 1 ≤ lo → hi ≤ 1099511627776 → (∀ q, p = some q → q ≤ hi) → runsR (some hi) rest = true → runsR p (cutL b lo hi ++ rest) = true
  | [], p0, p, lo, hi, rest, _, hp, h1, h2, hq, hr => by
    rw [cutL]
    split
    · rename_i hle
      rw [List.singleton_append, runsR_iff]
      exact ⟨⟨h1, hle, h2⟩, hp, hr⟩
    · exact runs_wk hr p hq
  | x :: b, p0, p, lo, hi, rest, h, hp, h1, h2, hq, hr => by
    rw [runsR_iff] at h
    obtain ⟨hx, _, hb⟩ := h
    unfold runOk at hx
    rw [cutL]
    split
    · exact cut_runs b _ p lo hi rest hb hp h1 h2 hq hr
    · rename_i hc
      split
      · rename_i hl
        rw [List.cons_append, runsR_iff]
        exact ⟨⟨h1, by show lo ≤ x.1 - 1; omega, by show x.1 - 1 ≤ _; omega⟩, hp, cut_runs b _ _ (x.2 + 1) hi rest hb (by simp only [okR, decide_eq_true_eq]; omega) (by omega) h2 (fun q e => by cases e; omega) hr⟩
      · refine cut_runs b _ p (x.2 + 1) hi rest hb ?_ (by omega) h2 hq hr
        cases p with
        | none => rfl
        | some q => simp only [okR, decide_eq_true_eq] at hp ⊢; omega
theorem minus_runs (b : List (Int × Int)) (hb : runsR none b = true) : ∀ (a : List (Int × Int)) (p : Option Int), runsR p a = true → runsR p (minusL a b) = true
  | [], p, _ => by cases p <;> rfl
  | r :: a, p, h => by
    rw [runsR_iff] at h
    obtain ⟨h1, h2, h3⟩ := h
    unfold runOk at h1
    show runsR p (cutL b r.1 r.2 ++ minusL a b) = true
    refine cut_runs b none p r.1 r.2 _ hb h2 h1.1 h1.2.2 (fun q e => ?_) (minus_runs b hb a _ h3)
    subst e
    simp only [okR, decide_eq_true_eq] at h2
    omega
theorem has_cut : ∀ (b : List (Int × Int)) (p : Option Int) (lo hi n : Int), runsR p b = true → hasL (cutL b lo hi) n = (decide (lo ≤ n) && decide (n ≤ hi) && !hasL b n)
  | [], p, lo, hi, n, _ => by
    rw [cutL]
    split
    · simp [hasL, inR]
    · rw [Bool.eq_iff_iff]; simp [hasL]; omega
  | x :: b, p, lo, hi, n, h => by
    rw [runsR_iff] at h
    obtain ⟨hx, _, hb⟩ := h
    unfold runOk at hx
    have hgt := runs_gt' b x.2 n hb
    have e1 := has_cut b _ lo hi n hb
    have e2 := has_cut b _ (x.2 + 1) hi n hb
    rw [cutL, hasL_cons]
    have hin : inR x n = (decide (x.1 ≤ n) && decide (n ≤ x.2)) := rfl
    split
    · rw [e1, hin]
      cases hbn : hasL b n <;> rw [Bool.eq_iff_iff] <;> simp <;> omega
    · split
      · rw [hasL_cons, e2, Bool.eq_iff_iff]
        simp [inR]
        cases hbn : hasL b n <;> simp [hbn] at hgt ⊢ <;> omega
      · rw [e2, hin]
        cases hbn : hasL b n <;> simp [hbn] at hgt <;> rw [Bool.eq_iff_iff] <;> simp <;> omega
theorem hasL_app' (a b : List (Int × Int)) (n : Int) : hasL (a ++ b) n = (hasL a n || hasL b n) := by unfold hasL; rw [List.any_append]
theorem has_minus (b : List (Int × Int)) (hb : runsR none b = true) (n : Int) : ∀ (a : List (Int × Int)), hasL (minusL a b) n = (hasL a n && !hasL b n)
  | [] => by simp [minusL, hasL]
  | r :: a => by
    show hasL (cutL b r.1 r.2 ++ minusL a b) n = _
    rw [hasL_app', has_cut b none _ _ n hb, has_minus b hb n a, hasL_cons, Bool.and_or_distrib_right]; rfl
/-- Runs taken away, one behind the other: the reference's difference. -/
theorem minus_by {a b : List (Int × Int)} (ha : runsR none a = true) (hb : runsR none b = true) : minusL a b = byL a b 2 := by
  have h := byL_right (a := a) (b := b) 2 (runs_ok' a none ha) (runs_ok' b none hb)
  refine runs_eq _ _ none none (minus_runs b hb a none ha) h.1 fun n => ?_
  rw [has_minus b hb n a, h.2 n]
  simp [inn]
end Go.Proofs.YtlapdmgjfdelnaaGreat

namespace Go.Proofs.YtlapdmgjfdelnaaGreat
open Go.RowKit
set_option maxRecDepth 100000

theorem minusL_le (a b : List (Int × Int)) (k : Nat) : (minusL (a.take k) b).length ≤ (minusL a b).length := by
  have h : minusL a b = minusL (a.take k) b ++ minusL (a.drop k) b := by unfold minusL; rw [← List.flatMap_append, List.take_append_drop]
  rw [h]; simp

set_option maxHeartbeats 4000000 in
theorem sminus_any (a b : List (Int × Int)) (va vb : Value) (w : World) (ha : SlP w w.heap.size 2 RuE va a) (hb : SlP w w.heap.size 2 RuE vb b) (hra : runsR none a = true) (hrb : runsR none b = true) (hN : (minusL a b).length ≤ 900000) :
    Calls Tryz.prog 201 #[va, vb] w (RetO w 201 2 (fun _ => RuE) (minusL a b)) := by
  have HA := hid ha
  have HB := hid hb
  have HRA := hid hra
  have HRB := hid hrb
  obtain ⟨A1, c1, rfl, a1, a2, a3⟩ := ha
  obtain ⟨A2, c2, rfl, b1, b2, b3⟩ := hb
  unfold Big at a2 b2
  clear hra hrb
  go_enter Tryz.func201, Tryz.ntmps201
  go_wp2_with fail
  refine (sboth_any a b _ _ w HA.out HB.out).mono ?_
  rw [HRA.out, HRB.out]
  rintro e w1 ⟨rfl, hb1⟩
  have hs1 := hb1.size
  go_wp2_with fail
  go_loopw [5, 16] (fun v i wr => ∃ k : Nat, k ≤ a.length ∧ i = .int .i64 k ∧ OwnP wr w1.heap.size 201 2 RuE v (minusL (a.take k) b) ∧ Below w1.heap.size w1 wr) (fun _ i _ => a.length - (intOf i).toNat)
  case atStart => exact ⟨0, Nat.zero_le _, rfl, OwnP.nil, Below.refl _ _⟩
  case round =>
    obtain ⟨k, hk, rfl, hown, hbr⟩ := hrel
    have hsz := hbr.size
    have hB0 : Below w.heap.size w wr := hb1.trans (hbr.mono hs1)
    by_cases hlt : k < a.length
    · obtain ⟨r, hr⟩ : ∃ x, a[k]? = some x := ⟨_, List.getElem?_eq_getElem hlt⟩
      obtain ⟨bb, off, rfl, hbB, hc⟩ := a3 (by rintro rfl; simp at hlt)
      obtain ⟨cs, ⟨rfl, hok⟩, _, hu⟩ := hc k _ hr
      have e0 : wr.cell? ⟨bb, off + k * 2, none⟩ = some (.int .i64 r.1) := (hB0.cell hbB).trans (hu 0 _ rfl)
      have e1 : wr.cell? ⟨bb, off + k * 2 + 1, none⟩ = some (.int .i64 r.2) := (hB0.cell hbB).trans (hu 1 _ rfl)
      have hrok := runs_ok' a none HRA.out r (List.mem_of_getElem? hr)
      unfold runOk at hrok
      have HX := hid (minusL_take (b := b) hr)
      have HLE : Hid ((minusL (a.take (k + 1)) b).length ≤ 900000) := Nat.le_trans (minusL_le a b _) hN
      clear hu hc a3 hr
      go_wp2_with fail
      obtain ⟨wo, rfl⟩ : ∃ wo : World, wo = wr := ⟨_, rfl⟩
      go_loopw [5, 22] (fun v i wq => ∃ (j : Nat) (os : List (Int × Int)) (lo : Int), j ≤ b.length ∧ i = .int .i64 j ∧ OwnP wq w1.heap.size 201 2 RuE v os ∧ Hid (os ++ cutL (b.drop j) lo r.2 = minusL (a.take (k + 1)) b) ∧ (∀ g, v.ownBlock = some g → g ≠ wo.heap.size) ∧
          wq.heap[wo.heap.size]? = some (.cells #[.int .i64 lo, .int .i64 r.2] 201 (0, 0)) ∧ 1 ≤ lo ∧ lo ≤ 1099511627777 ∧ wo.heap.size < wq.heap.size ∧ Below w1.heap.size w1 wq) (fun _ i _ => b.length - (intOf i).toNat)
      case atStart => exact ⟨0, _, r.1, Nat.zero_le _, rfl, hown.alloc _, by unfold Hid; rw [HX.out]; simp, fun g hg => Nat.ne_of_lt (hown.lt g hg).2, heap_new rfl, by omega, by omega, by simp, hbr.alloc (by omega) _⟩
      case round =>
        obtain ⟨j, os, lo, hj, rfl, hown, HOS, hne, hg7, hl1, hl2, hsq, hbq⟩ := hrel
        have hBq : Below w.heap.size w wr := hb1.trans (hbq.mono hs1)
        have d0 : wr.cell? ⟨wo.heap.size, 0, none⟩ = some (.int .i64 lo) := cell_cells (i := 0) hg7
        have d1 : wr.cell? ⟨wo.heap.size, 1, none⟩ = some (.int .i64 r.2) := cell_cells (i := 1) hg7
        have hf := cells_frz (i := 0) hg7
        have hnq : wo.heap.size ≠ wr.heap.size := by omega
        by_cases hlj : j < b.length
        · obtain ⟨x, hx⟩ : ∃ x, b[j]? = some x := ⟨_, List.getElem?_eq_getElem hlj⟩
          obtain ⟨bb', off', rfl, hbB', hc⟩ := b3 (by rintro rfl; simp at hlj)
          obtain ⟨cs, ⟨rfl, hok'⟩, _, hu⟩ := hc j _ hx
          have f0 : wr.cell? ⟨bb', off' + j * 2, none⟩ = some (.int .i64 x.1) := (hBq.cell hbB').trans (hu 0 _ rfl)
          have f1 : wr.cell? ⟨bb', off' + j * 2 + 1, none⟩ = some (.int .i64 x.2) := (hBq.cell hbB').trans (hu 1 _ rfl)
          have hxok := runs_ok' b none HRB.out x (List.mem_of_getElem? hx)
          unfold runOk at hxok
          have hcut := cutL_drop hx lo r.2
          clear hu hc b3 hx
          rcases t1 : decide (x.2 < lo)
          · rcases t2 : decide (r.2 < x.1)
            · have hno : ¬ (x.2 < lo ∨ r.2 < x.1) := by simp at t1 t2; omega
              rw [if_neg hno] at hcut
              rcases t3 : decide (lo < x.1)
              · have HO2 : Hid (os ++ cutL (b.drop (j + 1)) (x.2 + 1) r.2 = minusL (a.take (k + 1)) b) := by
                  have h := HOS.out
                  rw [hcut, if_neg (by simpa using t3)] at h; exact h
                clear hcut
                go_wp2_with fail
                have hW := cells_set (i := 0) hg7 (.int .i64 (x.2 + 1))
                have hZ : (wr.setCell ⟨wo.heap.size, 0, none⟩ (.int .i64 (x.2 + 1))).heap.size = wr.heap.size := by simp [World.setCell]
                go_roundw
                case rel => exact ⟨j + 1, os, x.2 + 1, by omega, by go_num, (hown.keep fun g hg => Below.heap_setCell _ _ _ _ (hne g hg)).alloc _, HO2, hne, (heap_old (by omega)).trans (by simpa using hW), by omega, by omega, by rw [World.size_alloc]; omega, (hbq.setCell (p := ⟨wo.heap.size, 0, none⟩) (by show w1.heap.size ≤ wo.heap.size; omega) _).alloc (by omega) _⟩
                case measure => simp [intOf]; omega
              · have HO2 : Hid ((os ++ [(lo, x.1 - 1)]) ++ cutL (b.drop (j + 1)) (x.2 + 1) r.2 = minusL (a.take (k + 1)) b) := by
                  have h := HOS.out
                  rw [hcut, if_pos (by simpa using t3)] at h; unfold Hid; rw [← h]; simp
                have hll : os.length + 1 ≤ 900000 := by have h := congrArg List.length HO2.out; have := HLE.out; simp at h; omega
                have HRE : Hid (RuE (lo, x.1 - 1) [.int .i64 lo, .int .i64 (x.1 - 1)]) := ⟨rfl, ⟨by show _ ≤ lo; omega, by show lo ≤ _; omega⟩, ⟨by show _ ≤ x.1 - 1; omega, by show x.1 - 1 ≤ _; omega⟩⟩
                clear hcut
                go_wp2_with (at_builtin; go_loud (refine wpList_app rfl (.tmp 43) (.tmp 50) _ rfl eiRun (by decide) (fun _ _ h => h.one) rfl ((hown.alloc _).alloc _) rfl (SlP.one (x := (lo, x.1 - 1)) HRE.out rfl _ (by rw [World.size_alloc])) (by simp; omega) (by simp [Big]; omega) (by rw [World.size_alloc, World.size_alloc]; omega) ?_); intro v1 w4 hown4 hgr hob; go_loud (have hb4 : Hid (Below w1.heap.size ((wr.alloc (.cells #[.int .i64 x.1, .int .i64 x.2] 201)).alloc (.cells #[.int .i64 lo, .int .i64 (x.1 - 1)] 201)) w4) := ((Below.refl w1.heap.size _).grown hgr (by rw [World.size_alloc, World.size_alloc]; omega) fun g hg => (hown.lt g hg).1); have hg4 : w4.heap[wo.heap.size]? = some (.cells #[.int .i64 lo, .int .i64 r.2] 201 (0, 0)) := (hgr.block _ (by rw [World.size_alloc, World.size_alloc]; omega) (fun e => hne _ e.symm rfl)).trans ((heap_old (by rw [World.size_alloc]; omega)).trans ((heap_old hsq).trans hg7)); have g0 : w4.cell? ⟨wo.heap.size, 0, none⟩ = some (.int .i64 lo) := cell_cells (i := 0) hg4; have gf := cells_frz (i := 0) hg4; have hg5 : w4.heap[wr.heap.size]? = some (.cells #[.int .i64 x.1, .int .i64 x.2] 201 (0, 0)) := (hgr.block _ (by rw [World.size_alloc, World.size_alloc]; omega) (fun e => by have := (hown.lt _ e.symm).2; omega)).trans ((heap_old (by rw [World.size_alloc]; omega)).trans (heap_new rfl)); have g1 : w4.cell? ⟨wr.heap.size, 1, none⟩ = some (.int .i64 x.2) := cell_cells (i := 1) hg5))
                have hs4 := hb4.out.size
                have hz4 := hgr.size
                rw [World.size_alloc, World.size_alloc] at hz4
                have hne4 : ∀ g, v1.ownBlock = some g → g ≠ wo.heap.size := fun g hg => by
                  rcases hob with h | h
                  · exact hne g (h ▸ hg)
                  · rw [h, World.size_alloc, World.size_alloc] at hg; cases hg; omega
                have hW := cells_set (i := 0) hg4 (.int .i64 (x.2 + 1))
                go_roundw
                case rel => exact ⟨j + 1, _, x.2 + 1, by omega, by go_num, hown4.keep fun g hg => Below.heap_setCell _ _ _ _ (hne4 g hg), HO2, hne4, by simpa using hW, by omega, by omega, by simp [World.setCell]; omega, (((hbq.alloc (by omega) _).alloc (by rw [World.size_alloc]; omega) _).trans hb4.out).setCell (p := ⟨wo.heap.size, 0, none⟩) (by show w1.heap.size ≤ wo.heap.size; omega) _⟩
                case measure => simp [intOf]; omega
            · have HO2 : Hid (os ++ cutL (b.drop (j + 1)) lo r.2 = minusL (a.take (k + 1)) b) := by
                have h := HOS.out
                rw [hcut, if_pos (.inr (by simpa using t2))] at h; exact h
              clear hcut
              go_wp2_with fail
              go_roundw
              case rel => exact ⟨j + 1, os, lo, by omega, by go_num, hown.alloc _, HO2, hne, (heap_old hsq).trans hg7, hl1, hl2, by simp; omega, hbq.alloc (by omega) _⟩
              case measure => simp [intOf]; omega
          · have HO2 : Hid (os ++ cutL (b.drop (j + 1)) lo r.2 = minusL (a.take (k + 1)) b) := by
              have h := HOS.out
              rw [hcut, if_pos (.inl (by simpa using t1))] at h; exact h
            clear hcut
            go_wp2_with fail
            go_roundw
            case rel => exact ⟨j + 1, os, lo, by omega, by go_num, hown.alloc _, HO2, hne, (heap_old hsq).trans hg7, hl1, hl2, by simp; omega, hbq.alloc (by omega) _⟩
            case measure => simp [intOf]; omega
        · obtain rfl : j = b.length := by omega
          have hend := HOS.out
          rw [List.drop_length, cutL] at hend
          rcases t4 : decide (lo ≤ r.2)
          · rw [if_neg (by simpa using t4), List.append_nil] at hend
            have HEN := hid hend
            clear hend
            go_wp2_with fail
            go_roundw
            case rel => exact ⟨k + 1, by omega, by go_num, by rw [← HEN.out]; exact hown, hbq⟩
            case measure => simp [intOf]; omega
          · rw [if_pos (by simpa using t4)] at hend
            have HEN := hid hend
            have hll : os.length + 1 ≤ 900000 := by have h := congrArg List.length hend; have := HLE.out; simp at h; omega
            have HL : Hid (os.length + [(lo, r.2)].length ≤ Few) := by unfold Hid Few; simp; omega
            have HRE : Hid (RuE (lo, r.2) [.int .i64 lo, .int .i64 r.2]) := ⟨rfl, ⟨by show _ ≤ lo; omega, by show lo ≤ _; omega⟩, ⟨by show _ ≤ r.2; omega, by show r.2 ≤ _; omega⟩⟩
            clear hend
            go_wp2_with (at_builtin; go_loud (refine wpList_few rfl (.tmp 62) (.tmp 64) _ rfl eiRun (by decide) (by decide) (fun _ _ h => h.one) rfl (hown.alloc _) rfl (SlP.one (x := (lo, r.2)) HRE.out rfl _ rfl) HL.out (by rw [World.size_alloc]; omega) ?_); intro v1 w4 hown4 hb4 _)
            go_roundw
            case rel => exact ⟨k + 1, by omega, by go_num, by rw [← HEN.out]; exact hown4, (hbq.alloc (by omega) _).trans hb4⟩
            case measure => simp [intOf]; omega
    · obtain rfl : k = a.length := by omega
      rw [List.take_of_length_le (Nat.le_refl _)] at hown
      go_wp2_with fail
      go_ret
      exact ⟨_, rfl, hown.mono hs1, hB0⟩
end Go.Proofs.YtlapdmgjfdelnaaGreat

namespace Go.Proofs.YtlapdmgjfdelnaaGreat
open Go.RowKit
set_option maxRecDepth 100000

theorem minus_rule : RuleRun 201 2 :=
  ⟨enters_of Tryz.func201 (by kernel_rfl) rfl, fun a b va vb W ha hb hra hrb hN hN' => minus_by hra hrb ▸ sminus_any a b va vb W ha hb hra hrb (by rw [minus_by hra hrb]; have := byL_len a b 2; omega)⟩
theorem cminus_any (a b : List Sp) (va vb : Value) (w : World) (ha : SlP w w.heap.size 3 SpE va a) (hb : SlP w w.heap.size 3 SpE vb b) (hra : apartB a = true) (hrb : apartB b = true) (hN : a.length ≤ 20000) (hN' : b.length ≤ 20000) :
    Calls Tryz.prog 159 #[va, vb] w (RetO w 45 3 (fun _ => SpE) (ctxBy a b 2)) := by
  go_enter Tryz.func159, Tryz.ntmps159
  go_wp2_with fail
  refine (cby_any a b 2 _ minus_rule va vb w ha hb hra hrb hN hN').mono ?_
  rintro e w1 ⟨v, rfl, h⟩
  go_wp2_with fail
  go_ret
  exact ⟨v, rfl, h⟩

theorem cright_any (c : List Sp) (vc : Value) (w : World) (h : SlP w w.heap.size 3 SpE vc c) (hN : c.length ≤ 900000) :
    Calls Tryz.prog 135 #[vc] w fun e w' => e = .returned (.bool (apartB c)) ∧ Below w.heap.size w w' := by
  have HC := hid h
  obtain ⟨A, n, rfl, _⟩ := h
  go_enter Tryz.func135, Tryz.ntmps135
  go_wp2_with fail
  refine (apart_any c _ _ HC.out hN).mono ?_
  rintro e w1 ⟨vs, rfl, hsl, hb1⟩
  have hs1 := hb1.size
  obtain ⟨A0, m0, g0, _⟩ := hsl 0 (by omega)
  obtain ⟨A1, m1, g1, _⟩ := hsl 1 (by omega)
  obtain ⟨A2, m2, g2, _⟩ := hsl 2 (by omega)
  obtain ⟨A3, m3, g3, _⟩ := hsl 3 (by omega)
  simp only [g0, g1, g2, g3]
  clear hsl g0 g1 g2 g3
  go_wp2_with fail
  all_goals (go_ret; exact ⟨rfl, hb1.alloc hs1 _⟩)

/-- What context.Leq tells. -/
def cLeq (a b : List Sp) : Bool := apartB a && (apartB b && decide ((ctxBy a b 2).length = 0))
set_option maxHeartbeats 2000000 in
theorem cleq_any (a b : List Sp) (va vb : Value) (w : World) (ha : SlP w w.heap.size 3 SpE va a) (hb : SlP w w.heap.size 3 SpE vb b) (hN : a.length ≤ 20000) (hN' : b.length ≤ 20000) :
    Calls Tryz.prog 112 #[va, vb] w fun e w' => e = .returned (.bool (cLeq a b)) ∧ Below w.heap.size w w' := by
  have HA := hid ha
  have HB := hid hb
  obtain ⟨A1, c1, rfl, _⟩ := ha
  obtain ⟨A2, c2, rfl, _⟩ := hb
  go_enter Tryz.func112, Tryz.ntmps112
  go_wp2_with fail
  refine (cright_any a _ w HA.out (by omega)).mono ?_
  rintro e w1 ⟨rfl, hb1⟩
  have hs1 := hb1.size
  cases ra : apartB a
  · have HR : Hid (cLeq a b = false) := by unfold Hid cLeq; rw [ra]; rfl
    clear ra
    go_wp2_with fail
    go_ret
    exact ⟨ret_bool HR.out.symm, hb1⟩
  have RA := hid ra
  go_wp2_with fail
  refine (cright_any b _ w1 (HB.out.imp hb1 hs1 fun _ _ _ h => h) (by omega)).mono ?_
  rintro e w2 ⟨rfl, hb2⟩
  have hs2 := hb2.size
  have hB2 : Below w.heap.size w w2 := hb1.trans (hb2.mono hs1)
  cases rb : apartB b
  · have HR : Hid (cLeq a b = false) := by unfold Hid cLeq; rw [ra, rb]; rfl
    clear ra rb
    go_wp2_with fail
    go_ret
    exact ⟨ret_bool HR.out.symm, hB2⟩
  have RB := hid rb
  have HR : Hid (cLeq a b = decide ((ctxBy a b 2).length = 0)) := by unfold Hid cLeq; rw [ra, rb]; rfl
  clear ra rb
  go_wp2_with fail
  refine (cminus_any a b _ _ w2 (HA.out.imp hB2 (by omega) fun _ _ _ h => h) (HB.out.imp hB2 (by omega) fun _ _ _ h => h) RA.out RB.out hN hN').mono ?_
  rintro e w3 ⟨v3, rfl, ho3, hb3⟩
  obtain ⟨A5, c5, rfl⟩ := ho3.shape
  have hl := ctxBy_len a b 2
  clear ho3
  generalize ctxBy a b 2 = C at *
  rcases hz : decide (C.length = 0)
  · have hz2 : C.length ≠ 0 := by simpa using hz
    have HZ := hid hz
    clear hz
    go_wp2_with fail
    go_ret
    exact ⟨ret_bool (by rw [HR.out, HZ.out]; simpa using hz2), hB2.trans (hb3.mono (by omega))⟩
  · have hz2 : C.length = 0 := by simpa using hz
    have HZ := hid hz
    clear hz
    go_wp2_with fail
    go_ret
    exact ⟨ret_bool (by rw [HR.out, HZ.out]), hB2.trans (hb3.mono (by omega))⟩
end Go.Proofs.YtlapdmgjfdelnaaGreat

namespace Go.Proofs.YtlapdmgjfdelnaaGreat
open Go.RowKit
set_option maxRecDepth 100000

/-- What causal.Right tells. -/
def caR (t : Tr) (c : List Sp) : Bool := t.right 5 && cLeq (ctxOf t.dots) c
set_option maxHeartbeats 2000000 in
theorem caright_any (t : Tr) (c : List Sp) (ve vk vc : Value) (w : World) (h : t.rd w w.heap.size ve vk) (hc : SlP w w.heap.size 3 SpE vc c) (hN : t.sz ≤ 4000) (hN' : c.length ≤ 20000) :
    Calls Tryz.prog 62 #[.agg #[ve, vk, vc]] w fun e w' => e = .returned (.bool (caR t c)) ∧ Below w.heap.size w w' := by
  have HC : Hid (∀ w', Below w.heap.size w w' → t.rd w' w'.heap.size ve vk) := fun w' hb => rd_below hb hb.size _ _ _ h
  have HS : Hid (∀ w', Below w.heap.size w w' → SlP w' w'.heap.size 3 SpE vc c) := fun w' hb => hc.imp hb hb.size fun _ _ _ h => h
  have hd1 := ctxOf_len t.dots
  have hd2 := dots_len t
  obtain ⟨A3, n3, A4, n4, rfl, rfl⟩ := rd_shape h
  obtain ⟨A5, n5, rfl, _⟩ := hc
  clear h
  have hb0 : Below w.heap.size w (w.alloc (.cells #[.slice A3 t.es.length n3, .slice A4 t.ks.length n4, .slice A5 c.length n5] 29)) := (Below.refl _ w).alloc (Nat.le_refl _) _
  go_enter Tryz.func62, Tryz.ntmps62
  go_wp2_with fail
  refine (tdots_any t _ _ _ (HC.out _ hb0) (by omega)).mono ?_
  rintro e w1 ⟨v1, n1, rfl, hn1, ho1, hb1⟩
  have hs1 := hb1.size
  simp only [World.size_alloc] at hs1
  have hB1 : Below w.heap.size w w1 := hb0.trans (hb1.mono (by simp))
  have b2 : w1.cell? ⟨w.heap.size, 2, none⟩ = some (.slice A5 c.length n5) := by rw [hb1.cell (p := ⟨w.heap.size, 2, none⟩) (by simp)]; simp
  cases hr : t.right 5
  · rw [hr] at hn1 ho1
    simp only [Bool.false_eq_true, if_false] at hn1 ho1
    subst hn1
    have HR : Hid (caR t c = false) := by unfold Hid caR; rw [hr]; rfl
    obtain ⟨A6, n6, rfl⟩ := ho1.shape
    clear hr ho1
    go_wp2_with fail
    go_ret
    exact ⟨ret_bool HR.out.symm, hB1⟩
  · rw [hr] at hn1 ho1
    simp only [if_true] at hn1 ho1
    subst hn1
    have HR : Hid (caR t c = cLeq (ctxOf t.dots) c) := by unfold Hid caR; rw [hr]; rfl
    have HSL := hid (ho1.sl (by unfold Big; omega))
    obtain ⟨A6, n6, rfl⟩ := ho1.shape
    clear hr ho1
    go_wp2_with fail
    refine (cleq_any (ctxOf t.dots) c _ _ w1 HSL.out (HS.out _ hB1) (by omega) hN').mono ?_
    rintro e w2 ⟨rfl, hb2⟩
    go_wp2_with fail
    go_ret
    exact ⟨ret_bool HR.out.symm, hB1.trans (hb2.mono (by omega))⟩
end Go.Proofs.YtlapdmgjfdelnaaGreat

namespace Go.Proofs.YtlapdmgjfdelnaaGreat
open Go.RowKit
set_option maxRecDepth 100000

/-- What tributaryref07.Leq tells. -/
def rLeq (a b : List Sp) : Bool := decide ((ctxBy a b 2).length = 0)
/-- What tributaryref09.Right tells. -/
def r9R (t : Tr) (c : List Sp) : Bool := t.right 5 && (apartB c && rLeq (ctxOf t.dots) c)
theorem caR_r9 (t : Tr) (c : List Sp) : caR t c = r9R t c := by
  unfold caR r9R cLeq rLeq
  cases h : t.right 5
  · rfl
  · rw [apart_ctxOf (right_dots t 5 h)]; rfl
/-- What tributaryref09.Small tells. -/
def sml9 (t : Tr) (c : List Sp) (n : Int) : Bool := smlB t n && decide ((c.length : Int) ≤ n)
end Go.Proofs.YtlapdmgjfdelnaaGreat

namespace Go.Proofs.YtlapdmgjfdelnaaGreat
open Go.RowKit
set_option maxRecDepth 100000

set_option maxHeartbeats 4000000 in
theorem cjoin_any (ca cb : List Sp) (n : Nat) (a b : Tr) (va ka vb kb vca vcb : Value) (w : World) (ha : a.rd w w.heap.size va ka) (hb : b.rd w w.heap.size vb kb) (hca : SlP w w.heap.size 3 SpE vca ca) (hcb : SlP w w.heap.size 3 SpE vcb cb) (hoa : a.Ord) (hob : b.Ord) (hda : a.dep ≤ n) (hdb : b.dep ≤ n) (hza : a.sz ≤ 100000) (hzb : b.sz ≤ 100000) (hra : apartB ca = true) (hrb : apartB cb = true) (hN1 : ca.length ≤ 20000) (hN2 : cb.length ≤ 20000) :
    Calls Tryz.prog 80 #[.agg #[va, ka, vca], .agg #[vb, kb, vcb]] w (RetC w (joinT n ca cb a b) (ctxBy ca cb 0)) := by
  have HA := hid ha
  have HB := hid hb
  have HCA : Hid (∀ w', Below w.heap.size w w' → SlP w' w'.heap.size 3 SpE vca ca) := fun w' hb => hca.imp hb hb.size fun _ _ _ h => h
  have HCB : Hid (∀ w', Below w.heap.size w w' → SlP w' w'.heap.size 3 SpE vcb cb) := fun w' hb => hcb.imp hb hb.size fun _ _ _ h => h
  have HR1 := hid hra
  have HR2 := hid hrb
  have hul := ctxByK_len ca cb 0 4
  have HUL : Hid ((ctxBy ca cb 0).length ≤ Big) := by unfold Hid ctxBy Big; omega
  obtain ⟨A1, n1, A2, n2, rfl, rfl⟩ := rd_shape ha
  obtain ⟨A3, n3, A4, n4, rfl, rfl⟩ := rd_shape hb
  obtain ⟨A5, n5, rfl, _⟩ := hca
  obtain ⟨A6, n6, rfl, _⟩ := hcb
  have HX : Hid (∀ W, Below (w.heap.size + 3) (((w.alloc (.cells #[.slice A1 a.es.length n1, .slice A2 a.ks.length n2, .slice A5 ca.length n5] 29)).alloc (.cells #[.slice A3 b.es.length n3, .slice A4 b.ks.length n4, .slice A6 cb.length n6] 29)).alloc (.cells #[.slice none 0 0, .slice none 0 0, .slice none 0 0] 29)) W → Below w.heap.size w W ∧ W.heap[w.heap.size + 2]? = some (.cells #[.slice none 0 0, .slice none 0 0, .slice none 0 0] 29 (0, 0)) ∧ w.heap.size + 3 ≤ W.heap.size ∧ (W.cell? ⟨w.heap.size, 0, none⟩ = some (.slice A1 a.es.length n1) ∧ W.cell? ⟨w.heap.size, 1, none⟩ = some (.slice A2 a.ks.length n2) ∧ W.cell? ⟨w.heap.size, 2, none⟩ = some (.slice A5 ca.length n5) ∧ W.cell? ⟨w.heap.size + 1, 0, none⟩ = some (.slice A3 b.es.length n3) ∧ W.cell? ⟨w.heap.size + 1, 1, none⟩ = some (.slice A4 b.ks.length n4) ∧ W.cell? ⟨w.heap.size + 1, 2, none⟩ = some (.slice A6 cb.length n6))) := fun W hW => by
    have g0 : W.heap[w.heap.size]? = some (.cells #[.slice A1 a.es.length n1, .slice A2 a.ks.length n2, .slice A5 ca.length n5] 29 (0, 0)) := (hW.block _ (by omega)).trans ((heap_old (by simp <;> omega)).trans ((heap_old (by simp)).trans (heap_new rfl)))
    have g1 : W.heap[w.heap.size + 1]? = some (.cells #[.slice A3 b.es.length n3, .slice A4 b.ks.length n4, .slice A6 cb.length n6] 29 (0, 0)) := (hW.block _ (by omega)).trans ((heap_old (by simp)).trans (heap_new (by simp)))
    have g2 : W.heap[w.heap.size + 2]? = some (.cells #[.slice none 0 0, .slice none 0 0, .slice none 0 0] 29 (0, 0)) := (hW.block _ (by omega)).trans (heap_new (by simp))
    exact ⟨((((Below.refl _ w).alloc (Nat.le_refl _) _).alloc (by simp) _).alloc (by simp; omega) _).trans (hW.mono (by omega)), g2, by have := hW.size; simpa using this, cell_cells (i := 0) g0, cell_cells (i := 1) g0, cell_cells (i := 2) g0, cell_cells (i := 0) g1, cell_cells (i := 1) g1, cell_cells (i := 2) g1⟩
  have hneA : w.heap.size + 1 + 1 ≠ w.heap.size := by omega
  have hneB : w.heap.size ≠ w.heap.size + 1 + 1 := by omega
  clear ha hb
  go_enter Tryz.func80, Tryz.ntmps80
  go_upto_region 1 with (fail)
  go_region_held3 (fun w' => w'.cell? ⟨w.heap.size, 0, none⟩ = some (.slice A1 a.es.length n1) ∧ w'.cell? ⟨w.heap.size, 1, none⟩ = some (.slice A2 a.ks.length n2) ∧ w'.cell? ⟨w.heap.size, 2, none⟩ = some (.slice A5 ca.length n5) ∧ w'.cell? ⟨w.heap.size + 1, 0, none⟩ = some (.slice A3 b.es.length n3) ∧ w'.cell? ⟨w.heap.size + 1, 1, none⟩ = some (.slice A4 b.ks.length n4) ∧ w'.cell? ⟨w.heap.size + 1, 2, none⟩ = some (.slice A6 cb.length n6))
    (first | go_keep | exact (HX.out _ hbk2.out).2.2.2 | exact (HX.out _ hbk1.out).2.2.2)
    (first | (go_at_call 131; go_loud ((refine (ctrees_any ca cb (by omega) (by omega) n a b _ _ _ _ _ _ _ (rd_below (HX.out _ (by go_grown)).1 (HX.out _ (by go_grown)).1.size _ _ _ HA.out) (rd_below (HX.out _ (by go_grown)).1 (HX.out _ (by go_grown)).1.size _ _ _ HB.out) (HCA.out _ (HX.out _ (by go_grown)).1) (HCB.out _ (HX.out _ (by go_grown)).1) hoa hob hda hdb hza hzb).mono ?_); rintro e w1 ⟨ve1, vk1, rfl, hrd1, hb⟩; obtain ⟨Av, nv, Aw, nw, rfl, rfl⟩ := rda_shape hrd1; have HR := hid hrd1; have hbk1 : Hid (Below (w.heap.size + 3) (((w.alloc (.cells #[.slice A1 a.es.length n1, .slice A2 a.ks.length n2, .slice A5 ca.length n5] 29)).alloc (.cells #[.slice A3 b.es.length n3, .slice A4 b.ks.length n4, .slice A6 cb.length n6] 29)).alloc (.cells #[.slice none 0 0, .slice none 0 0, .slice none 0 0] 29)) w1) := (Below.trans (by go_grown) (hb.mono (by simp))); clear hrd1 hb))
           | (go_at_call 132; go_loud ((refine (cunion_any ca cb _ _ w1 (HCA.out _ (HX.out _ hbk1.out).1) (HCB.out _ (HX.out _ hbk1.out).1) HR1.out HR2.out hN1 hN2).mono ?_); rintro e w2 ⟨v2, rfl, ho2, hb2⟩; obtain ⟨A7, c7, hv7⟩ := ho2.shape; subst hv7; have HO2 := hid ho2; have hbk2 := hid (hbk1.out.trans (hb2.mono (HX.out _ hbk1.out).2.2.1)); have HG2 := hid (HX.out _ hbk2.out).2.1; have k0 : w2.cell? ⟨w.heap.size + 2, 0, none⟩ = some (.slice none 0 0) := cell_cells (i := 0) HG2.out; have k1 : w2.cell? ⟨w.heap.size + 2, 1, none⟩ = some (.slice none 0 0) := cell_cells (i := 1) HG2.out; have k2 : w2.cell? ⟨w.heap.size + 2, 2, none⟩ = some (.slice none 0 0) := cell_cells (i := 2) HG2.out; have z0 := cells_frz (i := 0) HG2.out; have z1 := cells_frz (i := 1) HG2.out; have z2 := cells_frz (i := 2) HG2.out; have HB2 := hid hb2; clear ho2 hb2)))
  all_goals (
    go_wp2_with fail
    have hs2 : w.heap.size + 3 ≤ w2.heap.size := (HX.out _ hbk2.out).2.2.1
    have hs1 : w.heap.size + 3 ≤ w1.heap.size := (HX.out _ hbk1.out).2.2.1
    have hs12 := HB2.out.size
    obtain ⟨r0, r1, r2, hK, hS⟩ := box3 HG2.out (.slice Av (joinT n ca cb a b).es.length nv) (.slice Aw (joinT n ca cb a b).ks.length nw) (.slice A7 (ctxBy ca cb 0).length c7)
    have hBW : Below w.heap.size w (((w2.setCell ⟨w.heap.size + 2, 0, none⟩ (.slice Av (joinT n ca cb a b).es.length nv)).setCell ⟨w.heap.size + 2, 1, none⟩ (.slice Aw (joinT n ca cb a b).ks.length nw)).setCell ⟨w.heap.size + 2, 2, none⟩ (.slice A7 (ctxBy ca cb 0).length c7)) := (((HX.out _ hbk2.out).1.setCell (by simp) _).setCell (by simp) _).setCell (by simp) _
    clear k0 k1 k2 z0 z1 z2
    generalize (((w2.setCell ⟨w.heap.size + 2, 0, none⟩ (.slice Av (joinT n ca cb a b).es.length nv)).setCell ⟨w.heap.size + 2, 1, none⟩ (.slice Aw (joinT n ca cb a b).ks.length nw)).setCell ⟨w.heap.size + 2, 2, none⟩ (.slice A7 (ctxBy ca cb 0).length c7)) = W at *
    refine bodyPost_ret (v := .agg #[.slice Av (joinT n ca cb a b).es.length nv, .slice Aw (joinT n ca cb a b).ks.length nw, .slice A7 (ctxBy ca cb 0).length c7]) (by simp [results, Tryz.results80, go_sem, r0, r1, r2]) rfl ⟨_, _, _, rfl, ?_, ?_, hBW⟩
    · exact rda_up (fun b hb => (hK b (by have := hb.1; simp only [World.size_alloc, World.size_drew] at this; omega)).trans (HB2.out.block b hb.2)) (fun b hb => ⟨by have := hb.1; simp only [World.size_alloc, World.size_drew] at this; omega, by have := hb.2; omega⟩) _ _ _ HR.out
    · exact (HO2.out.sla HUL.out).up (fun b hb => hK b (by have := hb.1; omega)) (fun b hb => ⟨by have := hb.1; omega, by have := hb.2.1; omega⟩) (fun _ _ _ h => h))
end Go.Proofs.YtlapdmgjfdelnaaGreat

namespace Go.Proofs.YtlapdmgjfdelnaaGreat
open Go.RowKit
set_option maxRecDepth 100000

theorem caR_right {t : Tr} {c : List Sp} (h : caR t c = true) : t.right 5 = true := by unfold caR at h; simp at h; exact h.1
theorem caR_apart {t : Tr} {c : List Sp} (h : caR t c = true) : apartB c = true := by rw [caR_r9] at h; unfold r9R at h; simp at h; exact h.2.1
theorem caR_ord {t : Tr} {c : List Sp} (h : caR t c = true) : t.Ord := right_ord t 5 (caR_right h)
theorem caR_dep {t : Tr} {c : List Sp} (h : caR t c = true) : t.dep ≤ 6 := by have := right_dep t 5 (caR_right h); omega
/-- The error's number, the tree and the context of two joined. -/
def jnE (a b : Tr) (ca cb : List Sp) : Int := if caR a ca && caR b cb then 0 else 1
def jnT (a b : Tr) (ca cb : List Sp) : Tr := if caR a ca && caR b cb then joinT 6 ca cb a b else .mk [] []
def jnC (a b : Tr) (ca cb : List Sp) : List Sp := if caR a ca && caR b cb then ctxBy ca cb 0 else []
set_option maxHeartbeats 4000000 in
theorem cJoin_any (ca cb : List Sp) (a b : Tr) (va ka vb kb vca vcb : Value) (w : World) (ha : a.rd w w.heap.size va ka) (hb : b.rd w w.heap.size vb kb) (hca : SlP w w.heap.size 3 SpE vca ca) (hcb : SlP w w.heap.size 3 SpE vcb cb) (hza : a.sz ≤ 4000) (hzb : b.sz ≤ 4000) (hN1 : ca.length ≤ 20000) (hN2 : cb.length ≤ 20000) :
    Calls Tryz.prog 32 #[.agg #[va, ka, vca], .agg #[vb, kb, vcb]] w (RetCE w (jnT a b ca cb) (jnC a b ca cb) (jnE a b ca cb)) := by
  have HA := hid ha
  have HB := hid hb
  have HCA : Hid (∀ w', Below w.heap.size w w' → SlP w' w'.heap.size 3 SpE vca ca) := fun w' hb => hca.imp hb hb.size fun _ _ _ h => h
  have HCB : Hid (∀ w', Below w.heap.size w w' → SlP w' w'.heap.size 3 SpE vcb cb) := fun w' hb => hcb.imp hb hb.size fun _ _ _ h => h
  obtain ⟨A1, n1, A2, n2, rfl, rfl⟩ := rd_shape ha
  obtain ⟨A3, n3, A4, n4, rfl, rfl⟩ := rd_shape hb
  obtain ⟨A5, n5, rfl, _⟩ := hca
  obtain ⟨A6, n6, rfl, _⟩ := hcb
  have HX : Hid (∀ W, Below (w.heap.size + 3) (((w.alloc (.cells #[.slice A1 a.es.length n1, .slice A2 a.ks.length n2, .slice A5 ca.length n5] 29)).alloc (.cells #[.slice A3 b.es.length n3, .slice A4 b.ks.length n4, .slice A6 cb.length n6] 29)).alloc (.cells #[.slice none 0 0, .slice none 0 0, .slice none 0 0] 29)) W → Below w.heap.size w W ∧ W.heap[w.heap.size + 2]? = some (.cells #[.slice none 0 0, .slice none 0 0, .slice none 0 0] 29 (0, 0)) ∧ w.heap.size + 3 ≤ W.heap.size ∧ (W.cell? ⟨w.heap.size, 0, none⟩ = some (.slice A1 a.es.length n1) ∧ W.cell? ⟨w.heap.size, 1, none⟩ = some (.slice A2 a.ks.length n2) ∧ W.cell? ⟨w.heap.size, 2, none⟩ = some (.slice A5 ca.length n5) ∧ W.cell? ⟨w.heap.size + 1, 0, none⟩ = some (.slice A3 b.es.length n3) ∧ W.cell? ⟨w.heap.size + 1, 1, none⟩ = some (.slice A4 b.ks.length n4) ∧ W.cell? ⟨w.heap.size + 1, 2, none⟩ = some (.slice A6 cb.length n6))) := fun W hW => by
    have g0 : W.heap[w.heap.size]? = some (.cells #[.slice A1 a.es.length n1, .slice A2 a.ks.length n2, .slice A5 ca.length n5] 29 (0, 0)) := (hW.block _ (by omega)).trans ((heap_old (by simp <;> omega)).trans ((heap_old (by simp)).trans (heap_new rfl)))
    have g1 : W.heap[w.heap.size + 1]? = some (.cells #[.slice A3 b.es.length n3, .slice A4 b.ks.length n4, .slice A6 cb.length n6] 29 (0, 0)) := (hW.block _ (by omega)).trans ((heap_old (by simp)).trans (heap_new (by simp)))
    have g2 : W.heap[w.heap.size + 2]? = some (.cells #[.slice none 0 0, .slice none 0 0, .slice none 0 0] 29 (0, 0)) := (hW.block _ (by omega)).trans (heap_new (by simp))
    exact ⟨((((Below.refl _ w).alloc (Nat.le_refl _) _).alloc (by simp) _).alloc (by simp; omega) _).trans (hW.mono (by omega)), g2, by have := hW.size; simpa using this, cell_cells (i := 0) g0, cell_cells (i := 1) g0, cell_cells (i := 2) g0, cell_cells (i := 0) g1, cell_cells (i := 1) g1, cell_cells (i := 2) g1⟩
  clear ha hb
  go_enter Tryz.func32, Tryz.ntmps32
  cases hc1 : caR a ca
  · have HR1 := hid hc1
    have HR2 : Hid (caR b cb = caR b cb) := rfl
    have HE : Hid (jnE a b ca cb = 1) := by unfold Hid jnE; rw [hc1]; rfl
    have HTT : Hid (jnT a b ca cb = .mk [] []) := by unfold Hid jnT; rw [hc1]; rfl
    have HCC : Hid (jnC a b ca cb = []) := by unfold Hid jnC; rw [hc1]; rfl
    clear hc1
    have hB0 := (HX.out _ (Below.refl _ _)).1
    go_wp2_with fail
    refine (caright_any a ca _ _ _ _ (rd_below hB0 hB0.size _ _ _ HA.out) (HCA.out _ hB0) hza hN1).mono ?_
    rw [HR1.out]
    rintro e w1 ⟨rfl, hb1⟩
    have hbq1 := hid (hb1.mono (show w.heap.size + 3 ≤ _ by simp))
    clear hb1 hB0
    obtain ⟨hB1, hG, hsq, q0, q1, q2, q3, q4, q5⟩ := HX.out w1 hbq1.out
    have HG := hid hG
    have k0 : (w1).cell? ⟨w.heap.size + 2, 0, none⟩ = some (.slice none 0 0) := cell_cells (i := 0) HG.out
    have k1 : (w1).cell? ⟨w.heap.size + 2, 1, none⟩ = some (.slice none 0 0) := cell_cells (i := 1) HG.out
    have k2 : (w1).cell? ⟨w.heap.size + 2, 2, none⟩ = some (.slice none 0 0) := cell_cells (i := 2) HG.out
    have z0 := cells_frz (i := 0) HG.out
    have z1 := cells_frz (i := 1) HG.out
    have z2 := cells_frz (i := 2) HG.out
    clear hG
    go_wp2_with fail
    obtain ⟨r0, r1, r2, hK, hS⟩ := box3 HG.out (.slice none 0 0) (.slice none 0 0) (.slice none 0 0)
    have hBW := ((hB1.setCell (p := ⟨w.heap.size + 2, 0, none⟩) (by simp) (.slice none 0 0)).setCell (p := ⟨w.heap.size + 2, 1, none⟩) (by simp) (.slice none 0 0)).setCell (p := ⟨w.heap.size + 2, 2, none⟩) (by simp) (.slice none 0 0)
    refine bodyPost_ret (v := .tuple #[.agg #[.slice none 0 0, .slice none 0 0, .slice none 0 0], .int .i64 1]) (by simp [results, Tryz.results32, go_sem, r0, r1, r2]) rfl ⟨_, _, _, by rw [HE.out], ?_, ?_, hBW⟩
    · rw [HTT.out]; exact rda_nil _ _
    · rw [HCC.out]; exact SlA.nil
  cases hc2 : caR b cb
  · have HR1 := hid hc1
    have HR2 := hid hc2
    have HE : Hid (jnE a b ca cb = 1) := by unfold Hid jnE; rw [hc1, hc2]; rfl
    have HTT : Hid (jnT a b ca cb = .mk [] []) := by unfold Hid jnT; rw [hc1, hc2]; rfl
    have HCC : Hid (jnC a b ca cb = []) := by unfold Hid jnC; rw [hc1, hc2]; rfl
    clear hc1 hc2
    have hB0 := (HX.out _ (Below.refl _ _)).1
    go_wp2_with fail
    refine (caright_any a ca _ _ _ _ (rd_below hB0 hB0.size _ _ _ HA.out) (HCA.out _ hB0) hza hN1).mono ?_
    rw [HR1.out]
    rintro e w1 ⟨rfl, hb1⟩
    have hbq1 := hid (hb1.mono (show w.heap.size + 3 ≤ _ by simp))
    clear hb1 hB0
    obtain ⟨hB1, hG, hsq, q0, q1, q2, q3, q4, q5⟩ := HX.out w1 hbq1.out
    have HG := hid hG
    have k0 : (w1).cell? ⟨w.heap.size + 2, 0, none⟩ = some (.slice none 0 0) := cell_cells (i := 0) HG.out
    have k1 : (w1).cell? ⟨w.heap.size + 2, 1, none⟩ = some (.slice none 0 0) := cell_cells (i := 1) HG.out
    have k2 : (w1).cell? ⟨w.heap.size + 2, 2, none⟩ = some (.slice none 0 0) := cell_cells (i := 2) HG.out
    have z0 := cells_frz (i := 0) HG.out
    have z1 := cells_frz (i := 1) HG.out
    have z2 := cells_frz (i := 2) HG.out
    clear hG
    go_wp2_with fail
    refine (caright_any b cb _ _ _ w1 (rd_below hB1 hB1.size _ _ _ HB.out) (HCB.out _ hB1) hzb hN2).mono ?_
    rw [HR2.out]
    rintro e w2 ⟨rfl, hb2⟩
    have hbq2 := hid (hbq1.out.trans (hb2.mono hsq))
    clear hb2 hB1 k0 k1 k2 z0 z1 z2 q0 q1 q2 q3 q4 q5 hsq HG
    obtain ⟨hB1, hG, hsq, q0, q1, q2, q3, q4, q5⟩ := HX.out w2 hbq2.out
    have HG := hid hG
    have k0 : (w2).cell? ⟨w.heap.size + 2, 0, none⟩ = some (.slice none 0 0) := cell_cells (i := 0) HG.out
    have k1 : (w2).cell? ⟨w.heap.size + 2, 1, none⟩ = some (.slice none 0 0) := cell_cells (i := 1) HG.out
    have k2 : (w2).cell? ⟨w.heap.size + 2, 2, none⟩ = some (.slice none 0 0) := cell_cells (i := 2) HG.out
    have z0 := cells_frz (i := 0) HG.out
    have z1 := cells_frz (i := 1) HG.out
    have z2 := cells_frz (i := 2) HG.out
    clear hG
    go_wp2_with fail
    obtain ⟨r0, r1, r2, hK, hS⟩ := box3 HG.out (.slice none 0 0) (.slice none 0 0) (.slice none 0 0)
    have hBW := ((hB1.setCell (p := ⟨w.heap.size + 2, 0, none⟩) (by simp) (.slice none 0 0)).setCell (p := ⟨w.heap.size + 2, 1, none⟩) (by simp) (.slice none 0 0)).setCell (p := ⟨w.heap.size + 2, 2, none⟩) (by simp) (.slice none 0 0)
    refine bodyPost_ret (v := .tuple #[.agg #[.slice none 0 0, .slice none 0 0, .slice none 0 0], .int .i64 1]) (by simp [results, Tryz.results32, go_sem, r0, r1, r2]) rfl ⟨_, _, _, by rw [HE.out], ?_, ?_, hBW⟩
    · rw [HTT.out]; exact rda_nil _ _
    · rw [HCC.out]; exact SlA.nil
  · have HR1 := hid hc1
    have HR2 := hid hc2
    have HE : Hid (jnE a b ca cb = 0) := by unfold Hid jnE; rw [hc1, hc2]; rfl
    have HTT : Hid (jnT a b ca cb = joinT 6 ca cb a b) := by unfold Hid jnT; rw [hc1, hc2]; rfl
    have HCC : Hid (jnC a b ca cb = ctxBy ca cb 0) := by unfold Hid jnC; rw [hc1, hc2]; rfl
    have HOA := hid (caR_ord hc1)
    have HOB := hid (caR_ord hc2)
    have HDA := hid (caR_dep hc1)
    have HDB := hid (caR_dep hc2)
    have HPA := hid (caR_apart hc1)
    have HPB := hid (caR_apart hc2)
    clear hc1 hc2
    have hB0 := (HX.out _ (Below.refl _ _)).1
    go_wp2_with fail
    refine (caright_any a ca _ _ _ _ (rd_below hB0 hB0.size _ _ _ HA.out) (HCA.out _ hB0) hza hN1).mono ?_
    rw [HR1.out]
    rintro e w1 ⟨rfl, hb1⟩
    have hbq1 := hid (hb1.mono (show w.heap.size + 3 ≤ _ by simp))
    clear hb1 hB0
    obtain ⟨hB1, hG, hsq, q0, q1, q2, q3, q4, q5⟩ := HX.out w1 hbq1.out
    have HG := hid hG
    have k0 : (w1).cell? ⟨w.heap.size + 2, 0, none⟩ = some (.slice none 0 0) := cell_cells (i := 0) HG.out
    have k1 : (w1).cell? ⟨w.heap.size + 2, 1, none⟩ = some (.slice none 0 0) := cell_cells (i := 1) HG.out
    have k2 : (w1).cell? ⟨w.heap.size + 2, 2, none⟩ = some (.slice none 0 0) := cell_cells (i := 2) HG.out
    have z0 := cells_frz (i := 0) HG.out
    have z1 := cells_frz (i := 1) HG.out
    have z2 := cells_frz (i := 2) HG.out
    clear hG
    go_wp2_with fail
    refine (caright_any b cb _ _ _ w1 (rd_below hB1 hB1.size _ _ _ HB.out) (HCB.out _ hB1) hzb hN2).mono ?_
    rw [HR2.out]
    rintro e w2 ⟨rfl, hb2⟩
    have hbq2 := hid (hbq1.out.trans (hb2.mono hsq))
    clear hb2 hB1 k0 k1 k2 z0 z1 z2 q0 q1 q2 q3 q4 q5 hsq HG
    obtain ⟨hB1, hG, hsq, q0, q1, q2, q3, q4, q5⟩ := HX.out w2 hbq2.out
    have HG := hid hG
    have k0 : (w2).cell? ⟨w.heap.size + 2, 0, none⟩ = some (.slice none 0 0) := cell_cells (i := 0) HG.out
    have k1 : (w2).cell? ⟨w.heap.size + 2, 1, none⟩ = some (.slice none 0 0) := cell_cells (i := 1) HG.out
    have k2 : (w2).cell? ⟨w.heap.size + 2, 2, none⟩ = some (.slice none 0 0) := cell_cells (i := 2) HG.out
    have z0 := cells_frz (i := 0) HG.out
    have z1 := cells_frz (i := 1) HG.out
    have z2 := cells_frz (i := 2) HG.out
    clear hG
    go_wp2_with fail
    refine (cjoin_any ca cb 6 a b _ _ _ _ _ _ w2 (rd_below hB1 hB1.size _ _ _ HA.out) (rd_below hB1 hB1.size _ _ _ HB.out) (HCA.out _ hB1) (HCB.out _ hB1) HOA.out HOB.out HDA.out HDB.out (by omega) (by omega) HPA.out HPB.out hN1 hN2).mono ?_
    rintro e w5 ⟨ve, vk, vc, rfl, hrd5, hsl5, hb5⟩
    obtain ⟨A7, n7, A8, n8, rfl, rfl⟩ := rda_shape hrd5
    have HS5 := hid hsl5
    obtain ⟨A9, n9, hv9, _⟩ := hsl5
    subst hv9
    have HR5 := hid hrd5
    have hs25 := hb5.size
    have hs2 := hsq
    have hbq5 := hid (hbq2.out.trans (hb5.mono hsq))
    clear hrd5 hb5 hB1 k0 k1 k2 z0 z1 z2 q0 q1 q2 q3 q4 q5 hsq HG
    obtain ⟨hB1, hG, hsq, q0, q1, q2, q3, q4, q5⟩ := HX.out w5 hbq5.out
    have HG := hid hG
    have k0 : (w5).cell? ⟨w.heap.size + 2, 0, none⟩ = some (.slice none 0 0) := cell_cells (i := 0) HG.out
    have k1 : (w5).cell? ⟨w.heap.size + 2, 1, none⟩ = some (.slice none 0 0) := cell_cells (i := 1) HG.out
    have k2 : (w5).cell? ⟨w.heap.size + 2, 2, none⟩ = some (.slice none 0 0) := cell_cells (i := 2) HG.out
    have z0 := cells_frz (i := 0) HG.out
    have z1 := cells_frz (i := 1) HG.out
    have z2 := cells_frz (i := 2) HG.out
    clear hG
    go_wp2_with fail
    obtain ⟨r0, r1, r2, hK, hS⟩ := box3 HG.out (.slice A7 (joinT 6 ca cb a b).es.length n7) (.slice A8 (joinT 6 ca cb a b).ks.length n8) (.slice A9 (ctxBy ca cb 0).length n9)
    have hBW : Below w.heap.size w (((w5.setCell ⟨w.heap.size + 2, 0, none⟩ (.slice A7 (joinT 6 ca cb a b).es.length n7)).setCell ⟨w.heap.size + 2, 1, none⟩ (.slice A8 (joinT 6 ca cb a b).ks.length n8)).setCell ⟨w.heap.size + 2, 2, none⟩ (.slice A9 (ctxBy ca cb 0).length n9)) := ((hB1.setCell (by simp) _).setCell (by simp) _).setCell (by simp) _
    clear k0 k1 k2 z0 z1 z2
    generalize (((w5.setCell ⟨w.heap.size + 2, 0, none⟩ (.slice A7 (joinT 6 ca cb a b).es.length n7)).setCell ⟨w.heap.size + 2, 1, none⟩ (.slice A8 (joinT 6 ca cb a b).ks.length n8)).setCell ⟨w.heap.size + 2, 2, none⟩ (.slice A9 (ctxBy ca cb 0).length n9)) = W at *
    refine bodyPost_ret (v := .tuple #[.agg #[.slice A7 (joinT 6 ca cb a b).es.length n7, .slice A8 (joinT 6 ca cb a b).ks.length n8, .slice A9 (ctxBy ca cb 0).length n9], .int .i64 0]) (by simp [results, Tryz.results32, go_sem, r0, r1, r2]) rfl ⟨_, _, _, by rw [HE.out], ?_, ?_, hBW⟩
    · rw [HTT.out]
      exact rda_up (fun b hb => hK b (by have := hb.1; omega)) (fun b hb => ⟨by have := hb.1; omega, by have := hb.2; omega⟩) _ _ _ HR5.out
    · rw [HCC.out]
      exact HS5.out.up (fun b hb => hK b (by have := hb.1; omega)) (fun b hb => ⟨by have := hb.1; omega, by have := hb.2; omega⟩) (fun _ _ _ h => h)
end Go.Proofs.YtlapdmgjfdelnaaGreat

namespace Go.Proofs.YtlapdmgjfdelnaaGreat
open Go.RowKit
set_option maxRecDepth 100000

/-! contexts by their dots -/
theorem part_ctxBy (a b : List Sp) (how : Int) {i : Nat} (hi : i < 4) : partL (ctxBy a b how) i = byL (partL a i) (partL b i) how := by
  rw [ctxBy_whole, partL_whole, if_pos hi]
theorem apart_ok {c : List Sp} (h : apartB c = true) {i : Nat} (hi : i < 4) : ∀ r ∈ partL c i, runOk r := runs_ok _ none (apart_part h hi)
theorem apart_by {a b : List Sp} (ha : apartB a = true) (hb : apartB b = true) (how : Int) : apartB (ctxBy a b how) = true := by
  rw [ctxBy_whole]
  exact apart_whole fun i hi => (byL_right how (apart_ok ha hi) (apart_ok hb hi)).1
theorem hasC_by {a b : List Sp} (ha : apartB a = true) (hb : apartB b = true) (how : Int) {d : Dt} (hd : d.right = true) : hasC (ctxBy a b how) d = inn how (hasC a d) (hasC b d) := by
  have h1 := (right_bd hd).1
  obtain ⟨i, hi⟩ : ∃ i : Nat, (i : Int) = d.dc := ⟨d.dc.toNat, by omega⟩
  have h4 : i < 4 := by omega
  unfold hasC
  rw [hd, ← hi, part_ctxBy a b how h4, (byL_right how (apart_ok ha h4) (apart_ok hb h4)).2]
  simp
theorem hasC_right {c : List Sp} {d : Dt} (h : hasC c d = true) : d.right = true := by unfold hasC at h; rw [Bool.and_eq_true] at h; exact h.1
theorem hasC_union {a b : List Sp} (ha : apartB a = true) (hb : apartB b = true) (d : Dt) : hasC (ctxBy a b 0) d = (hasC a d || hasC b d) := by
  cases hd : d.right
  · unfold hasC; simp [hd]
  · rw [hasC_by ha hb 0 hd]; rfl
theorem hasC_minus {a b : List Sp} (ha : apartB a = true) (hb : apartB b = true) (d : Dt) : hasC (ctxBy a b 2) d = (hasC a d && !hasC b d) := by
  cases hd : d.right
  · unfold hasC; simp [hd]
  · rw [hasC_by ha hb 2 hd]; rfl
theorem hasL_bd {l : List (Int × Int)} (h : ∀ r ∈ l, runOk r) {n : Int} (hn : hasL l n = true) : 1 ≤ n ∧ n ≤ 1099511627776 := by
  unfold hasL at hn
  obtain ⟨r, hr, h1⟩ := List.any_eq_true.1 hn
  have := h r hr
  unfold runOk at this
  unfold inR at h1
  simp at h1
  omega
theorem dt_right {i : Nat} (hi : i < 4) {n : Int} (h : 1 ≤ n ∧ n ≤ 1099511627776) : (⟨i, n⟩ : Dt).right = true := by
  unfold Dt.right; simp; omega
theorem ctx_ext {a b : List Sp} (ha : apartB a = true) (hb : apartB b = true) (h : ∀ d, hasC a d = hasC b d) : a = b := by
  rw [← whole_part ha, ← whole_part hb]
  refine whole_eq fun i hi => runs_eq _ _ none none (apart_part ha hi) (apart_part hb hi) fun n => ?_
  by_cases hn : 1 ≤ n ∧ n ≤ 1099511627776
  · have := h ⟨i, n⟩
    unfold hasC at this
    rw [dt_right hi hn] at this
    simpa using this
  · have e1 : hasL (partL a i) n = false := by
      cases hc : hasL (partL a i) n
      · rfl
      · exact absurd (hasL_bd (apart_ok ha hi) hc) hn
    have e2 : hasL (partL b i) n = false := by
      cases hc : hasL (partL b i) n
      · rfl
      · exact absurd (hasL_bd (apart_ok hb hi) hc) hn
    rw [e1, e2]
theorem apart_nil : apartB [] = true := by kernel_rfl
theorem hasC_nil (d : Dt) : hasC [] d = false := by unfold hasC partL hasL; simp
theorem ctx_nil {c : List Sp} (hc : apartB c = true) : c = [] ↔ ∀ d, hasC c d = false := by
  constructor
  · rintro rfl; exact hasC_nil
  · intro h; exact ctx_ext hc apart_nil fun d => by rw [h, hasC_nil]
theorem cLeq_iff {a b : List Sp} (ha : apartB a = true) (hb : apartB b = true) : cLeq a b = true ↔ ∀ d, hasC a d = true → hasC b d = true := by
  unfold cLeq
  rw [ha, hb, Bool.true_and, Bool.true_and, decide_eq_true_eq, List.length_eq_zero_iff, ctx_nil (apart_by ha hb 2)]
  refine forall_congr' fun d => ?_
  rw [hasC_minus ha hb]
  cases hasC a d <;> cases hasC b d <;> simp

/-! right trees by their leaves -/
theorem ents_mk : ∀ (es : List En) (p : Option Dt), (es.Pairwise fun a b => a.dot.lt b.dot = true) → (∀ e ∈ es, okP p e.dot = true) → (∀ e ∈ es, e.right = true) → entsB p es = true
  | [], _, _, _, _ => by unfold entsB; rfl
  | e :: es, p, h, h1, h2 => by
    obtain ⟨h3, h4⟩ := List.pairwise_cons.1 h
    rw [entsB_cons, h2 e (by simp), h1 e (by simp), ents_mk es (some e.dot) h4 (fun a ha => h3 a ha) fun a ha => h2 a (by simp [ha])]; rfl
theorem kids_mk (d : Int) : ∀ (ks : List Kd) (p : Option ByteArray), (ks.Pairwise fun a b => ltS a.1 b.1 = true) → (∀ x ∈ ks, okK p x.1 = true) → (∀ k t, (k, t) ∈ ks → keyB k = true ∧ t.empty = false ∧ t.right (d - 1) = true) → Tr.rightL p ks d = true
  | [], p, _, _, _ => by cases p <;> rw [Tr.rightL]
  | (k, t) :: ks, p, h, h1, h2 => by
    obtain ⟨h3, h4⟩ := List.pairwise_cons.1 h
    obtain ⟨g1, g2, g3⟩ := h2 k t (by simp)
    rw [rightL_cons, g1, g2, g3, h1 (k, t) (by simp), kids_mk d ks (some k) h4 (fun a ha => h3 a ha) fun k' t' hm => h2 k' t' (by simp [hm])]; rfl
/-- What a right tree's leaves are. -/
def LfR (n : Int) (x : Lf) : Prop := (x.1.length : Int) + 1 ≤ n ∧ (∀ k ∈ x.1, keyB k = true) ∧ x.2.right = true
theorem right_leaf : ∀ (t : Tr) (n : Int), t.right n = true → ∀ x ∈ t.lvs [], LfR n x := by
  intro t
  induction t using Tr.ind with
  | h es ks ih =>
  intro n h x hx
  rw [Tr.right, Bool.and_eq_true, Bool.and_eq_true] at h
  have hn := of_decide_eq_true h.1.1
  obtain ⟨p, e⟩ := x
  match p with
  | [] =>
    have he := mem_nil.1 hx
    refine ⟨by simpa using hn, by simp, ?_⟩
    have : ∀ (es : List En) (p : Option Dt), entsB p es = true → ∀ e ∈ es, e.right = true := by
      intro es
      induction es with
      | nil => intro _ _ _ h; cases h
      | cons y es ih =>
        intro p h e he
        rw [entsB_cons, Bool.and_eq_true, Bool.and_eq_true] at h
        rcases List.mem_cons.1 he with rfl | he
        · exact h.1.1
        · exact ih _ h.2 e he
    exact this es none h.1.2 e he
  | k :: qs =>
    obtain ⟨t, hm, hx⟩ := mem_cons'.1 hx
    have hk : ∀ (ks : List Kd) (p : Option ByteArray), Tr.rightL p ks n = true → ∀ k t, (k, t) ∈ ks → keyB k = true ∧ t.right (n - 1) = true := by
      intro ks
      induction ks with
      | nil => intro _ _ _ _ h; cases h
      | cons y ks ih =>
        obtain ⟨y1, y2⟩ := y
        intro p h k t he
        rw [rightL_cons, Bool.and_eq_true, Bool.and_eq_true, Bool.and_eq_true, Bool.and_eq_true] at h
        obtain ⟨⟨⟨⟨a1, a2⟩, a3⟩, a4⟩, a5⟩ := h
        rcases List.mem_cons.1 he with he | he
        · cases he; exact ⟨a1, a4⟩
        · exact ih _ a5 k t he
    obtain ⟨h1, h2⟩ := hk ks none h.2 k t hm
    obtain ⟨g1, g2, g3⟩ := ih k t hm _ h2 _ hx
    exact ⟨by simp at g1 ⊢; omega, fun q hq => by
      rcases List.mem_cons.1 hq with rfl | hq
      · exact h1
      · exact g2 q hq, g3⟩
theorem right_of_leaf : ∀ (t : Tr) (n : Int), 1 ≤ n → t.Ord → (∀ x ∈ t.lvs [], LfR n x) → t.right n = true := by
  intro t
  induction t using Tr.ind with
  | h es ks ih =>
  intro n hn ho hl
  obtain ⟨h1, h2, h3⟩ := ord_iff.1 ho
  rw [Tr.right, Bool.and_eq_true, Bool.and_eq_true]
  refine ⟨⟨by simpa using hn, ents_mk es none h1 (fun _ _ => rfl) fun e he => (hl ([], e) (mem_nil.2 he)).2.2⟩, kids_mk n ks none h2 (fun _ _ => rfl) fun k t hm => ?_⟩
  obtain ⟨g1, g2, g3⟩ := h3 k t hm
  have hsub : ∀ x ∈ t.lvs [], LfR (n - 1) x ∧ keyB k = true := by
    rintro ⟨qs, e⟩ hx
    obtain ⟨f1, f2, f3⟩ := hl (k :: qs, e) (mem_cons'.2 ⟨t, hm, hx⟩)
    exact ⟨⟨by simp at f1 ⊢; omega, fun q hq => f2 q (by simp [hq]), f3⟩, f2 k (by simp)⟩
  obtain ⟨x, hx⟩ := ord_leaf t g3 g2
  have hd := (hsub x hx).1.1
  exact ⟨(hsub x hx).2, g2, ih k t hm (n - 1) (by omega) g3 fun x hx => (hsub x hx).1⟩
theorem right_iff {t : Tr} (h : t.Ord) : t.right 5 = true ↔ ∀ x ∈ t.lvs [], LfR 5 x := ⟨right_leaf t 5, right_of_leaf t 5 (by omega) h⟩

/-! the dots of a tree -/
theorem mem_dotsL {ks : List Kd} {d : Dt} : d ∈ Tr.dotsL ks ↔ ∃ k t, (k, t) ∈ ks ∧ d ∈ t.dots := by
  induction ks with
  | nil => simp [Tr.dotsL]
  | cons y ks ih =>
    obtain ⟨k, t⟩ := y
    rw [Tr.dotsL, List.mem_append, ih]
    constructor
    · rintro (h | ⟨k', t', hm, h⟩)
      · exact ⟨k, t, by simp, h⟩
      · exact ⟨k', t', by simp [hm], h⟩
    · rintro ⟨k', t', hm, h⟩
      rcases List.mem_cons.1 hm with e | hm
      · cases e; exact .inl h
      · exact .inr ⟨k', t', hm, h⟩
theorem mem_dots (t : Tr) : ∀ d, d ∈ t.dots ↔ ∃ p e, ((p, e) : Lf) ∈ t.lvs [] ∧ e.dot = d := by
  induction t using Tr.ind with
  | h es ks ih =>
  intro d
  rw [Tr.dots, List.mem_append, List.mem_map, mem_dotsL]
  constructor
  · rintro (⟨e, he, rfl⟩ | ⟨k, t, hm, hd⟩)
    · exact ⟨[], e, mem_nil.2 he, rfl⟩
    · obtain ⟨p, e, hp, rfl⟩ := (ih k t hm d).1 hd
      exact ⟨k :: p, e, mem_cons'.2 ⟨t, hm, hp⟩, rfl⟩
  · rintro ⟨p, e, hx, rfl⟩
    match p with
    | [] => exact .inl ⟨e, mem_nil.1 hx, rfl⟩
    | k :: qs =>
      obtain ⟨t, hm, hx⟩ := mem_cons'.1 hx
      exact .inr ⟨k, t, hm, (ih k t hm _).2 ⟨qs, e, hx, rfl⟩⟩
theorem en_dot_right {e : En} (h : e.right = true) : e.dot.right = true := by
  unfold En.right at h; simp at h; exact h.1
theorem dots_right {t : Tr} (h : t.right 5 = true) : ∀ d ∈ t.dots, d.right = true := fun d hd => by
  obtain ⟨p, e, hx, rfl⟩ := (mem_dots t d).1 hd
  exact en_dot_right (right_leaf t 5 h _ hx).2.2
theorem hasC_dots {t : Tr} (h : t.right 5 = true) {d : Dt} : hasC (ctxOf t.dots) d = true ↔ d ∈ t.dots := by
  constructor
  · intro hc; rw [hasC_ctxOf (dots_right h) (hasC_right hc)] at hc; simpa using hc
  · intro hm; rw [hasC_ctxOf (dots_right h) (dots_right h d hm)]; simpa using hm

/-! what is known, right -/
structure CaOk (t : Tr) (c : List Sp) : Prop where
  ord : t.Ord
  leaf : ∀ x ∈ t.lvs [], LfR 5 x
  ap : apartB c = true
  has : ∀ x ∈ t.lvs [], hasC c x.2.dot = true
theorem caR_iff {t : Tr} {c : List Sp} : caR t c = true ↔ CaOk t c := by
  unfold caR
  rw [Bool.and_eq_true]
  constructor
  · rintro ⟨h1, h2⟩
    have hc : apartB c = true := by unfold cLeq at h2; simp only [Bool.and_eq_true] at h2; exact h2.2.1
    refine ⟨right_ord t 5 h1, right_leaf t 5 h1, hc, fun x hx => ?_⟩
    have ha := apart_ctxOf (dots_right h1)
    exact (cLeq_iff ha hc).1 h2 _ ((hasC_dots h1).2 ((mem_dots t _).2 ⟨x.1, x.2, hx, rfl⟩))
  · rintro ⟨h1, h2, h3, h4⟩
    have hr := (right_iff h1).2 h2
    refine ⟨hr, (cLeq_iff (apart_ctxOf (dots_right hr)) h3).2 fun d hd => ?_⟩
    obtain ⟨p, e, hx, rfl⟩ := (mem_dots t d).1 ((hasC_dots hr).1 hd)
    exact h4 _ hx
theorem CaOk.dep {t : Tr} {c : List Sp} (h : CaOk t c) : t.dep ≤ 6 := caR_dep (caR_iff.2 h)
theorem CaOk.ext {s t : Tr} {c d : List Sp} (h : CaOk s c) (k : CaOk t d) (hl : ∀ p e, ((p, e) : Lf) ∈ s.lvs [] ↔ ((p, e) : Lf) ∈ t.lvs []) (hd : ∀ x, hasC c x = hasC d x) : s = t ∧ c = d :=
  ⟨ord_ext s t h.ord k.ord fun ⟨p, e⟩ => hl p e, ctx_ext h.ap k.ap hd⟩
abbrev jT (a b : Tr) (ca cb : List Sp) : Tr := joinT 6 ca cb a b
abbrev jC (ca cb : List Sp) : List Sp := ctxBy ca cb 0
theorem jT_mem {a b : Tr} {ca cb : List Sp} (ha : CaOk a ca) (hb : CaOk b cb) (p : List ByteArray) (e : En) : ((p, e) : Lf) ∈ (jT a b ca cb).lvs [] ↔ EntJ ca cb (fun x => ((p, x) : Lf) ∈ a.lvs []) (fun y => ((p, y) : Lf) ∈ b.lvs []) e :=
  (joinT_spec ca cb 6 a b ha.ord hb.ord ha.dep hb.dep).2 p e
theorem grtE_or (x y : En) : grtE x y = x ∨ grtE x y = y := by unfold grtE; split <;> simp
theorem EntJ.leaf {ca cb : List Sp} {a b : En → Prop} {e : En} (h : EntJ ca cb a b e) : a e ∨ b e := by
  rcases h with ⟨x, y, hx, hy, _, rfl⟩ | ⟨hx, _, _⟩ | ⟨hx, _, _⟩
  · rcases grtE_or x y with h | h <;> rw [h]
    · exact .inl hx
    · exact .inr hy
  · exact .inl hx
  · exact .inr hx
theorem jT_ok {a b : Tr} {ca cb : List Sp} (ha : CaOk a ca) (hb : CaOk b cb) : CaOk (jT a b ca cb) (jC ca cb) := by
  refine ⟨(joinT_spec ca cb 6 a b ha.ord hb.ord ha.dep hb.dep).1, fun x hx => ?_, apart_by ha.ap hb.ap 0, fun x hx => ?_⟩
  · obtain ⟨p, e⟩ := x
    rcases ((jT_mem ha hb p e).1 hx).leaf with h | h
    · exact ha.leaf _ h
    · exact hb.leaf _ h
  · obtain ⟨p, e⟩ := x
    rw [hasC_union ha.ap hb.ap]
    rcases ((jT_mem ha hb p e).1 hx).leaf with h | h
    · rw [ha.has _ h]; rfl
    · rw [hb.has _ h]; simp
theorem jn_ok {a b : Tr} {ca cb : List Sp} (ha : CaOk a ca) (hb : CaOk b cb) : jnE a b ca cb = 0 ∧ jnT a b ca cb = jT a b ca cb ∧ jnC a b ca cb = jC ca cb := by
  unfold jnE jnT jnC
  rw [caR_iff.2 ha, caR_iff.2 hb]
  exact ⟨rfl, rfl, rfl⟩
end Go.Proofs.YtlapdmgjfdelnaaGreat

namespace Go.Proofs.YtlapdmgjfdelnaaGreat
open Go.RowKit
set_option maxRecDepth 100000

theorem gtE_iff {y x : En} : gtE y x = true ↔ x.v < y.v ∨ (y.v = x.v ∧ ltS x.s y.s = true) := by unfold gtE; simp
theorem gtE_no {y x : En} : gtE y x = false ↔ y.v < x.v ∨ (y.v = x.v ∧ ltS x.s y.s = false) := by
  rw [← Bool.not_eq_true, gtE_iff]
  cases ltS x.s y.s <;> simp <;> omega
theorem gtE_tr {x y z : En} (h : gtE x y = true) (k : gtE y z = true) : gtE x z = true := by
  rw [gtE_iff] at *
  rcases h with h | ⟨h, h'⟩ <;> rcases k with k | ⟨k, k'⟩
  · exact .inl (by omega)
  · exact .inl (by omega)
  · exact .inl (by omega)
  · exact .inr ⟨by omega, ltS_trans k' h'⟩
theorem gtE_self (x : En) : gtE x x = false := by rw [gtE_no]; exact .inr ⟨rfl, ltS_irrefl _⟩
theorem gtE_tot {x y : En} (hd : x.dot = y.dot) (h : gtE x y = false) (k : gtE y x = false) : x = y := by
  rw [gtE_no] at *
  rcases h with h | ⟨h, h'⟩ <;> rcases k with k | ⟨k, k'⟩
  · omega
  · omega
  · omega
  · have := ltS_total h' k'
    obtain ⟨a, b, c, d⟩ := x
    obtain ⟨a', b', c', d'⟩ := y
    simp only [En.dot, Dt.mk.injEq] at hd
    simp only at this h
    obtain ⟨rfl, rfl⟩ := hd
    subst this; subst h; rfl
theorem grt_self (x : En) : grtE x x = x := by rw [grtE_gt, gtE_self]; rfl
theorem grt_comm {x y : En} (hd : x.dot = y.dot) : grtE x y = grtE y x := by
  rw [grtE_gt, grtE_gt]
  cases h1 : gtE y x <;> cases h2 : gtE x y <;> simp
  · exact gtE_tot hd h2 h1
  · have := gtE_tr h1 h2; rw [gtE_self] at this; cases this
theorem grt_assoc {x y z : En} (_ : x.dot = y.dot) (h2 : y.dot = z.dot) : grtE (grtE x y) z = grtE x (grtE y z) := by
  rw [grtE_gt x y, grtE_gt y z]
  cases a : gtE y x <;> cases b : gtE z y <;> simp only [if_true, if_false, Bool.false_eq_true]
  · rw [grtE_gt x z, grtE_gt x y, a]
    cases c : gtE z x
    · simp
    · simp
      -- z > x, not z > y, not y > x : then y ≥ z > x, so y > x
      exfalso
      cases d : gtE y z
      · have := gtE_tot h2 d b; subst this; rw [a] at c; cases c
      · have := gtE_tr d c; rw [a] at this; cases this
  · rw [grtE_gt y z, b, grtE_gt x y, a]; rfl
  · rw [grtE_gt y z, b, grtE_gt x z, gtE_tr b a]; rfl

/-- The entry of a dot at a place. -/
def stE (t : Tr) (p : List ByteArray) (d : Dt) : Option En := ((t.lvs []).find? fun x => decide (x.1 = p) && decide (x.2.dot = d)).map (·.2)
theorem stE_some {t : Tr} (h : t.Ord) {p : List ByteArray} {d : Dt} {e : En} : stE t p d = some e ↔ ((p, e) : Lf) ∈ t.lvs [] ∧ e.dot = d := by
  unfold stE
  constructor
  · intro hs
    obtain ⟨⟨q, f⟩, h1, h2⟩ := Option.map_eq_some_iff.1 hs
    have h3 := List.find?_some h1
    have h4 := List.mem_of_find?_eq_some h1
    simp at h2 h3
    obtain ⟨rfl, h3⟩ := h3
    subst h2
    exact ⟨h4, h3⟩
  · rintro ⟨hm, hd⟩
    cases hf : (t.lvs []).find? fun x => decide (x.1 = p) && decide (x.2.dot = d) with
    | none =>
      have := List.find?_eq_none.1 hf _ hm
      simp [hd] at this
    | some y =>
      have h3 := List.find?_some hf
      have h4 := List.mem_of_find?_eq_some hf
      simp at h3
      have := (ord_lvOk t h).one y h4 (p, e) hm h3.1 (h3.2.trans hd.symm)
      subst this; rfl
theorem stE_none {t : Tr} (h : t.Ord) {p : List ByteArray} {d : Dt} : stE t p d = none ↔ ∀ e, ((p, e) : Lf) ∈ t.lvs [] → e.dot ≠ d := by
  constructor
  · intro hs e hm hd
    rw [(stE_some h).2 ⟨hm, hd⟩] at hs; cases hs
  · intro hn
    cases hs : stE t p d with
    | none => rfl
    | some e => exact absurd ((stE_some h).1 hs).2 (hn e ((stE_some h).1 hs).1)
/-- An entry that may be there, of a dot that may be known, joined to another one. -/
def jnO (x : Option En) (k : Bool) (y : Option En) (l : Bool) : Option En :=
  match x, y with
  | some x, some y => some (grtE x y)
  | some x, none => if l then none else some x
  | none, some y => if k then none else some y
  | none, none => none
theorem EntJ_st {t s : Tr} {ca cb : List Sp} (ht : t.Ord) (hs : s.Ord) (hca : apartB ca = true) (hcb : apartB cb = true) (p : List ByteArray) (d : Dt) (e : En) :
    (EntJ ca cb (fun x => ((p, x) : Lf) ∈ t.lvs []) (fun y => ((p, y) : Lf) ∈ s.lvs []) e ∧ e.dot = d) ↔ jnO (stE t p d) (hasC ca d) (stE s p d) (hasC cb d) = some e := by
  unfold EntJ
  simp only [cHas_hasC hca, cHas_hasC hcb]
  cases h1 : stE t p d with
  | none =>
    have n1 := (stE_none ht).1 h1
    cases h2 : stE s p d with
    | none =>
      have n2 := (stE_none hs).1 h2
      constructor
      · rintro ⟨⟨x, y, hx, hy, hd, rfl⟩ | ⟨hx, _⟩ | ⟨hx, _⟩, hd'⟩
        · rw [grtE_dot hd] at hd'; exact absurd hd' (n1 x hx)
        · exact absurd hd' (n1 e hx)
        · exact absurd hd' (n2 e hx)
      · intro h; cases h
    | some y =>
      obtain ⟨hy, hyd⟩ := (stE_some hs).1 h2
      constructor
      · rintro ⟨⟨x, y, hx, hy, hd, rfl⟩ | ⟨hx, _⟩ | ⟨hx, hn, hh⟩, hd'⟩
        · rw [grtE_dot hd] at hd'; exact absurd hd' (n1 x hx)
        · exact absurd hd' (n1 e hx)
        · have := (stE_some hs).2 ⟨hx, hd'⟩
          rw [h2] at this
          cases this
          rw [hd'] at hh
          simp [jnO, hh]
      · intro h
        unfold jnO at h
        simp only at h
        split at h
        · cases h
        · rename_i hh
          cases h
          exact ⟨.inr (.inr ⟨hy, fun x hx hxd => n1 x hx (hxd.trans hyd), by rw [hyd]; simpa using hh⟩), hyd⟩
  | some x =>
    obtain ⟨hx, hxd⟩ := (stE_some ht).1 h1
    cases h2 : stE s p d with
    | none =>
      have n2 := (stE_none hs).1 h2
      constructor
      · rintro ⟨⟨x', y, hx', hy, hd, rfl⟩ | ⟨hx', hn, hh⟩ | ⟨hx', hn, hh⟩, hd'⟩
        · rw [grtE_dot hd] at hd'; exact absurd (hd.symm.trans hd') (n2 y hy)
        · have := (stE_some ht).2 ⟨hx', hd'⟩
          rw [h1] at this
          cases this
          rw [hd'] at hh
          simp [jnO, hh]
        · exact absurd hd' (n2 e hx')
      · intro h
        unfold jnO at h
        simp only at h
        split at h
        · cases h
        · rename_i hh
          cases h
          exact ⟨.inr (.inl ⟨hx, fun y hy hyd => n2 y hy (hyd.trans hxd), by rw [hxd]; simpa using hh⟩), hxd⟩
    | some y =>
      obtain ⟨hy, hyd⟩ := (stE_some hs).1 h2
      constructor
      · rintro ⟨⟨x', y', hx', hy', hd, rfl⟩ | ⟨hx', hn, hh⟩ | ⟨hx', hn, hh⟩, hd'⟩
        · rw [grtE_dot hd] at hd'
          have e1 := (stE_some ht).2 ⟨hx', hd'⟩
          have e2 := (stE_some hs).2 ⟨hy', hd.symm.trans hd'⟩
          rw [h1] at e1; rw [h2] at e2
          cases e1; cases e2
          rfl
        · exact absurd (hyd.trans hd'.symm) (hn y hy)
        · exact absurd (hxd.trans hd'.symm) (hn x hx)
      · intro h
        unfold jnO at h
        cases h
        exact ⟨.inl ⟨x, y, hx, hy, hxd.trans hyd.symm, rfl⟩, (grtE_dot (hxd.trans hyd.symm)).trans hxd⟩
theorem stE_join {a b : Tr} {ca cb : List Sp} (ha : CaOk a ca) (hb : CaOk b cb) (p : List ByteArray) (d : Dt) : stE (jT a b ca cb) p d = jnO (stE a p d) (hasC ca d) (stE b p d) (hasC cb d) := by
  refine Option.ext fun e => ?_
  rw [stE_some (jT_ok ha hb).ord, ← EntJ_st ha.ord hb.ord ha.ap hb.ap, jT_mem ha hb]
theorem stE_has {a : Tr} {ca : List Sp} (ha : CaOk a ca) {p : List ByteArray} {d : Dt} {e : En} (h : stE a p d = some e) : hasC ca d = true ∧ e.dot = d := by
  obtain ⟨h1, h2⟩ := (stE_some ha.ord).1 h
  exact ⟨by rw [← h2]; exact ha.has _ h1, h2⟩
theorem CaOk.ext2 {s t : Tr} {c d : List Sp} (h : CaOk s c) (k : CaOk t d) (hl : ∀ p x, stE s p x = stE t p x) (hd : ∀ x, hasC c x = hasC d x) : s = t ∧ c = d := by
  refine h.ext k (fun p e => ?_) hd
  have h1 := @stE_some s h.ord p e.dot e
  have h2 := @stE_some t k.ord p e.dot e
  rw [hl] at h1
  simp only [and_true] at h1 h2
  exact h1.symm.trans h2
theorem join_comm {a b : Tr} {ca cb : List Sp} (ha : CaOk a ca) (hb : CaOk b cb) : jT a b ca cb = jT b a cb ca ∧ jC ca cb = jC cb ca := by
  refine (jT_ok ha hb).ext2 (jT_ok hb ha) (fun p d => ?_) fun d => ?_
  · rw [stE_join ha hb, stE_join hb ha]
    cases h : stE a p d <;> cases k : stE b p d <;> simp [jnO]
    exact grt_comm ((stE_has ha h).2.trans (stE_has hb k).2.symm)
  · rw [hasC_union ha.ap hb.ap, hasC_union hb.ap ha.ap, Bool.or_comm]
theorem join_assoc {a b c : Tr} {ca cb cc : List Sp} (ha : CaOk a ca) (hb : CaOk b cb) (hc : CaOk c cc) : jT (jT a b ca cb) c (jC ca cb) cc = jT a (jT b c cb cc) ca (jC cb cc) ∧ jC (jC ca cb) cc = jC ca (jC cb cc) := by
  have hab := jT_ok ha hb
  have hbc := jT_ok hb hc
  refine (jT_ok hab hc).ext2 (jT_ok ha hbc) (fun p d => ?_) fun d => ?_
  · rw [stE_join hab hc, stE_join ha hbc, stE_join ha hb, stE_join hb hc, hasC_union ha.ap hb.ap, hasC_union hb.ap hc.ap]
    cases h1 : stE a p d with
    | none =>
      cases h2 : stE b p d with
      | none => cases h3 : stE c p d <;> cases hasC ca d <;> cases hasC cb d <;> cases hasC cc d <;> rfl
      | some y =>
        have g2 := (stE_has hb h2).1
        cases h3 : stE c p d with
        | none => rw [g2]; cases hasC ca d <;> cases hasC cc d <;> rfl
        | some z => rw [g2, (stE_has hc h3).1]; cases hasC ca d <;> rfl
    | some x =>
      have g1 := (stE_has ha h1).1
      cases h2 : stE b p d with
      | none =>
        cases h3 : stE c p d with
        | none => rw [g1]; cases hasC cb d <;> cases hasC cc d <;> rfl
        | some z => rw [g1, (stE_has hc h3).1]; cases hasC cb d <;> rfl
      | some y =>
        have g2 := (stE_has hb h2).1
        cases h3 : stE c p d with
        | none => rw [g1, g2]; cases hasC cc d <;> rfl
        | some z =>
          rw [g1, g2, (stE_has hc h3).1]
          simp only [jnO]
          rw [grt_assoc ((stE_has ha h1).2.trans (stE_has hb h2).2.symm) ((stE_has hb h2).2.trans (stE_has hc h3).2.symm)]
  · rw [hasC_union hab.ap hc.ap, hasC_union ha.ap hb.ap, hasC_union ha.ap hbc.ap, hasC_union hb.ap hc.ap, Bool.or_assoc]
theorem CaOk.nil : CaOk (.mk [] []) [] := ⟨ord_nil, fun x h => by simp [Tr.lvs, Tr.lvsL] at h, apart_nil, fun x h => by simp [Tr.lvs, Tr.lvsL] at h⟩
theorem join_nil {a : Tr} {ca : List Sp} (ha : CaOk a ca) : jT (.mk [] []) a [] ca = a ∧ jC [] ca = ca := by
  refine (jT_ok CaOk.nil ha).ext2 ha (fun p d => ?_) fun d => ?_
  · rw [stE_join CaOk.nil ha, hasC_nil]
    cases h : stE a p d <;> simp [jnO, stE, Tr.lvs, Tr.lvsL]
  · rw [hasC_union apart_nil ha.ap, hasC_nil, Bool.false_or]
end Go.Proofs.YtlapdmgjfdelnaaGreat

namespace Go.Proofs.YtlapdmgjfdelnaaGreat
open Go.RowKit
set_option maxRecDepth 100000

theorem chkT_dots {t : Tr} {d : Dt} (h : chkT t d = true) : t.right 5 = true ∧ d.right = true ∧ d ∉ t.dots := by
  unfold chkT at h
  rw [Bool.and_eq_true, Bool.and_eq_true] at h
  refine ⟨h.1.1, h.1.2, fun hm => ?_⟩
  rw [(hasC_dots h.1.1).2 hm] at h
  simp at h
/-- The context of a tree's dots. -/
abbrev knC (t : Tr) : List Sp := ctxOf t.dots
theorem seen_has {t : Tr} {d x : Dt} (h : t.right 5 = true) (hd : d.right = true) : hasC (seenC t d) x = true ↔ x ∈ t.dots ∨ x = d := by
  have hr : ∀ y ∈ [d], y.right = true := fun y hy => by simp at hy; subst hy; exact hd
  unfold seenC
  rw [hasC_union (apart_ctxOf (dots_right h)) (apart_ctxOf hr), Bool.or_eq_true, hasC_dots h]
  refine or_congr Iff.rfl ?_
  constructor
  · intro hc; rw [hasC_ctxOf hr (hasC_right hc)] at hc; simpa using hc
  · rintro rfl; rw [hasC_ctxOf hr hd]; simp
theorem seen_apart {t : Tr} {d : Dt} (h : t.right 5 = true) (hd : d.right = true) : apartB (seenC t d) = true :=
  apart_by (apart_ctxOf (dots_right h)) (apart_ctxOf fun y hy => by simp at hy; subst hy; exact hd) 0
/-- One entry alone. -/
abbrev tOne (e : En) : Tr := .mk [e] []
theorem nil_ok {c : List Sp} (hc : apartB c = true) : CaOk (.mk [] []) c := ⟨ord_nil, fun x h => by simp [Tr.lvs, Tr.lvsL] at h, hc, fun x h => by simp [Tr.lvs, Tr.lvsL] at h⟩
theorem stE_nil (p : List ByteArray) (d : Dt) : stE (.mk [] []) p d = none := by simp [stE, Tr.lvs, Tr.lvsL]
theorem seen_hasB {t : Tr} {d x : Dt} (h : t.right 5 = true) (hd : d.right = true) : hasC (seenC t d) x = (decide (x ∈ t.dots) || decide (x = d)) := by
  rw [Bool.eq_iff_iff, seen_has h hd]; simp
end Go.Proofs.YtlapdmgjfdelnaaGreat

namespace Go.Proofs.YtlapdmgjfdelnaaGreat
open Go.RowKit
set_option maxRecDepth 100000

/-- How big a kid of a key is, with its key. -/
def kz : List Kd → ByteArray → Nat
  | [], _ => 0
  | (k, t) :: ks, q => if k = q then 1 + t.sz else kz ks q
theorem nodup_lt {K : List ByteArray} (h : K.Pairwise fun a b => ltS a b = true) : K.Nodup :=
  h.imp fun {a b} hab e => by subst e; rw [ltS_irrefl] at hab; cases hab
end Go.Proofs.YtlapdmgjfdelnaaGreat

namespace Go.Proofs.YtlapdmgjfdelnaaGreat
open Go.RowKit
set_option maxRecDepth 100000

abbrev Kn := Tr × List Sp
abbrev KOk (x : Kn) : Prop := CaOk x.1 x.2
def jn (x y : Kn) : Kn := (jT x.1 y.1 x.2 y.2, jC x.2 y.2)
def kn0 : Kn := (.mk [] [], [])
theorem kn0_ok : KOk kn0 := CaOk.nil
theorem jn_okK {x y : Kn} (hx : KOk x) (hy : KOk y) : KOk (jn x y) := jT_ok hx hy
theorem jn_comm {x y : Kn} (hx : KOk x) (hy : KOk y) : jn x y = jn y x := Prod.ext (join_comm hx hy).1 (join_comm hx hy).2
theorem jn_assoc {x y z : Kn} (hx : KOk x) (hy : KOk y) (hz : KOk z) : jn (jn x y) z = jn x (jn y z) := Prod.ext (join_assoc hx hy hz).1 (join_assoc hx hy hz).2
theorem jn_nil {x : Kn} (hx : KOk x) : jn kn0 x = x := Prod.ext (join_nil hx).1 (join_nil hx).2
theorem jn_right {x y z : Kn} (hx : KOk x) (hy : KOk y) (hz : KOk z) : jn (jn x y) z = jn (jn x z) y := by
  rw [jn_assoc hx hy hz, jn_comm hy hz, jn_assoc hx hz hy]
def caK (x : Kn) : Bool := caR x.1 x.2
/-- All joined. -/
def jnL (l : List Kn) : Kn := l.foldl jn kn0
theorem foldl_perm {l m : List Kn} (hp : l.Perm m) : ∀ z, KOk z → (∀ x ∈ l, KOk x) → l.foldl jn z = m.foldl jn z := by
  induction hp with
  | nil => intro z _ _; rfl
  | cons x _ ih => intro z hz h; exact ih (jn z x) (jn_okK hz (h x (by simp))) fun y hy => h y (by simp [hy])
  | swap x y l => intro z hz h; simp only [List.foldl_cons]; rw [jn_right hz (h y (by simp)) (h x (by simp))]
  | trans h1 _ ih1 ih2 => intro z hz h; rw [ih1 z hz h, ih2 z hz fun x hx => h x (h1.symm.subset hx)]
theorem jnL_perm {l m : List Kn} (hp : l.Perm m) (h : ∀ x ∈ l, KOk x) : jnL l = jnL m := foldl_perm hp kn0 kn0_ok h
/-- What causal.JoinAll tells. -/
def jaK (l : List Kn) : Bool := l.all caK
def jaE (l : List Kn) : Int := if jaK l then 0 else 1
def jaR (l : List Kn) : Kn := if jaK l then jnL l else kn0
theorem jnL_three {x y z : Kn} (hx : KOk x) : jnL [x, y, z] = jn (jn x y) z := by show jn (jn (jn kn0 x) y) z = _; rw [jn_nil hx]
/-- At most. -/
def leK (x y : Kn) : Prop := jn x y = y
end Go.Proofs.YtlapdmgjfdelnaaGreat

namespace Go.Proofs.YtlapdmgjfdelnaaGreat
open Go.RowKit
set_option maxRecDepth 100000

theorem jn_st {x y : Kn} (hx : KOk x) (hy : KOk y) (p : List ByteArray) (d : Dt) : stE (jn x y).1 p d = jnO (stE x.1 p d) (hasC x.2 d) (stE y.1 p d) (hasC y.2 d) := stE_join hx hy p d
theorem jn_has {x y : Kn} (hx : KOk x) (hy : KOk y) (d : Dt) : hasC (jn x y).2 d = (hasC x.2 d || hasC y.2 d) := hasC_union hx.ap hy.ap d
end Go.Proofs.YtlapdmgjfdelnaaGreat

namespace Go.Proofs.YtlapdmgjfdelnaaGreat
open Go.RowKit
set_option maxRecDepth 100000

theorem kid_dots {t : Tr} (ho : t.Ord) {s : ByteArray} {x : Dt} (h : x ∈ (kidT t s).dots) : x ∈ t.dots := by
  obtain ⟨p, e, hx, rfl⟩ := (mem_dots _ _).1 h
  exact (mem_dots t _).2 ⟨s :: p, e, (mem_kidT ho).1 hx, rfl⟩
theorem kid_rightT {t : Tr} (h : t.right 5 = true) (s : ByteArray) : (kidT t s).right 5 = true := right_up _ 4 5 (kidT_right (n := 4) h (by omega) s) (by omega)
theorem elL_mem {t : Tr} {x : ByteArray} : x ∈ elL t.ks ↔ ∃ e, (([x], e) : Lf) ∈ t.lvs [] := by
  obtain ⟨es, ks⟩ := t
  unfold elL
  constructor
  · intro h
    obtain ⟨⟨k, u⟩, hu, rfl⟩ := List.mem_map.1 h
    obtain ⟨hu1, hu2⟩ := List.mem_filter.1 hu
    obtain ⟨es', ks'⟩ := u
    have hp : 0 < es'.length := of_decide_eq_true (show decide (0 < es'.length) = true from hu2)
    obtain ⟨e, he⟩ := List.exists_mem_of_length_pos hp
    exact ⟨e, mem_cons'.2 ⟨_, hu1, mem_nil.2 he⟩⟩
  · rintro ⟨e, he⟩
    obtain ⟨u, hu, hx⟩ := mem_cons'.1 he
    have h1 := mem_es.1 hx
    have h2 := List.length_pos_of_mem h1
    exact List.mem_map.2 ⟨(x, u), List.mem_filter.2 ⟨hu, by simpa [elP] using h2⟩, rfl⟩
theorem elL_sorted {t : Tr} (ho : t.Ord) : (elL t.ks).Pairwise fun a b => ltS a b = true := by
  obtain ⟨es, ks⟩ := t
  exact List.pairwise_map.2 ((ord_iff.1 ho).2.1.filter _)
theorem elems_right {t : Tr} (h : t.right 5 = true) : elemsOf t = elL t.ks := by unfold elemsOf; rw [h]; rfl
/-- Does no dot of leaves stand at two places? -/
def onceL (l : List Lf) : Bool := decide ((l.map fun x => x.2.dot).Nodup)
theorem nd_inj {α β : Type} {f : α → β} : ∀ {l : List α}, (l.map f).Nodup → ∀ x ∈ l, ∀ y ∈ l, f x = f y → x = y
  | a :: l, h, x, hx, y, hy, e => by
    rw [List.map_cons, List.nodup_cons] at h
    rcases List.mem_cons.1 hx with h1 | h1
    · rcases List.mem_cons.1 hy with h2 | h2
      · rw [h1, h2]
      · subst h1; exact absurd (List.mem_map.2 ⟨y, h2, e.symm⟩) h.1
    · rcases List.mem_cons.1 hy with h2 | h2
      · subst h2; exact absurd (List.mem_map.2 ⟨x, h1, e⟩) h.1
      · exact nd_inj h.2 x h1 y h2 e
end Go.Proofs.YtlapdmgjfdelnaaGreat
