/- What the laws need, part 1: causal.JoinAll. Condition: not too big, all in all. tributaryref09.place. No condition. tributaryref09.find. No condition but that there are not too many. tributaryref09.Join. Condition: both right and not too big. The plain law of CausalAll. tributarylaw09.awake answers true. No condition. The law CausalAll answers true. No condition. Arguments that are lists of texts, or of what is known. No condition. Arguments that are arrays, lists of numbers, and lists of what is known. No condition. -/
import Derived.OpenShut
import Derived.Test.YtmphgnjodangcaaGreatUa10
namespace Go.Proofs.YtmphgnjodangcaaGreat
open Go.RowKit
set_option maxRecDepth 100000

theorem jaK_take {l : List Kn} {k : Nat} {x : Kn} (h : l[k]? = some x) (hk : jaK (l.take k) = true) : jaK (l.take (k + 1)) = caK x := by
  unfold jaK at *
  rw [List.take_add_one, h, List.all_append, hk]; simp
theorem jaK_bad {l : List Kn} {x : Kn} (h : x ∈ l) (hk : caK x = false) : jaK l = false := List.all_eq_false.2 ⟨x, h, by simp [hk]⟩
theorem jnL_take {l : List Kn} {k : Nat} {x : Kn} (h : l[k]? = some x) : jnL (l.take (k + 1)) = jn (jnL (l.take k)) x := by
  rw [List.take_add_one, h]; exact jnL_snoc _ _
theorem sum_take {α : Type} (f : α → Nat) : ∀ (l : List α) (k : Nat), ((l.take k).map f).sum ≤ (l.map f).sum
  | [], k => by simp
  | x :: l, 0 => by simp
  | x :: l, k + 1 => by have := sum_take f l k; simp only [List.take_succ_cons, List.map_cons, List.sum_cons]; omega
theorem sum_mem {α : Type} (f : α → Nat) : ∀ {l : List α} {x : α}, x ∈ l → f x ≤ (l.map f).sum
  | y :: l, x, h => by
    rcases List.mem_cons.1 h with rfl | h
    · simp
    · have := sum_mem f h; simp; omega
/-- What stands in a loop of JoinAll. -/
def JaIn (w wr : World) (x : Kn) : Prop :=
  ∃ ve vk vc, wr.heap[w.heap.size + 1]? = some (.cells #[ve, vk, vc] 31 (0, 0)) ∧ x.1.rda wr (fun b => w.heap.size + 2 ≤ b ∧ b < wr.heap.size) ve vk ∧ SlA wr (fun b => w.heap.size + 2 ≤ b ∧ b < wr.heap.size) 3 SpE vc x.2
set_option maxHeartbeats 4000000 in
theorem joinAll_any (l : List Kn) (vl : Value) (w : World) (h : SlP w w.heap.size 3 (CaE w w.heap.size) vl l) (hz1 : (l.map fun x => x.1.sz).sum ≤ 4000) (hz2 : (l.map fun x => x.2.length).sum ≤ 20000) :
    Calls Tryz.prog 30 #[vl] w (RetCE w (jaR l).1 (jaR l).2 (jaE l)) := by
  obtain ⟨A, m, rfl, c1, c2, c3⟩ := h
  unfold Big at c2
  have hb0 : Below w.heap.size w ((w.alloc (.cells #[.slice none 0 0, .slice none 0 0, .slice none 0 0] 31)).alloc (.cells #[.slice none 0 0, .slice none 0 0, .slice none 0 0] 31)) := ((Below.refl _ w).alloc (Nat.le_refl _) _).alloc (by simp) _
  have HSZ : Hid (∀ k, jaK (l.take k) = true → KOk (jnL (l.take k)) ∧ (jnL (l.take k)).1.sz ≤ 4000 ∧ (jnL (l.take k)).2.length ≤ 20000) := fun k hk => by
    have h1 := jaK_iff.1 hk
    have h2 := foldl_sz (l.take k) kn0 kn0_ok h1
    have h3 := sum_take (fun x : Kn => x.1.sz) l k
    have h4 := sum_take (fun x : Kn => x.2.length) l k
    have e1 : kn0.1.sz = 0 := rfl
    have e2 : kn0.2.length = 0 := rfl
    exact ⟨jnL_ok h1, by unfold jnL; omega, by unfold jnL; omega⟩
  have HSM : Hid (∀ x ∈ l, x.1.sz ≤ 4000 ∧ x.2.length ≤ 20000) := fun x hx => by
    have h3 := sum_mem (fun x : Kn => x.1.sz) hx
    have h4 := sum_mem (fun x : Kn => x.2.length) hx
    omega
  go_enter Tryz.func30, Tryz.ntmps30
  go_wp2_with fail
  go_loopw [11] (fun i wr => ∃ k : Nat, k ≤ l.length ∧ i = .int .i64 k ∧ Hid (jaK (l.take k) = true) ∧ JaIn w wr (jnL (l.take k)) ∧ wr.heap[w.heap.size]? = some (.cells #[.slice none 0 0, .slice none 0 0, .slice none 0 0] 31 (0, 0)) ∧ Below w.heap.size w wr) (fun i _ => l.length - (intOf i).toNat)
  case atStart =>
    refine ⟨0, Nat.zero_le _, rfl, by unfold Hid; simp [jaK], ⟨_, _, _, heap_new (by simp), rda_nil _ _, SlA.nil⟩, (heap_old (by simp)).trans (heap_new rfl), hb0⟩
  case round =>
    obtain ⟨k, hk, rfl, hall, ⟨ve, vk, vc, hG1, hrd, hsl⟩, hG0, hb⟩ := hrel
    have hsz := hb.size
    have hlt1 := lt_of_block hG1
    obtain ⟨hX, hX1, hX2⟩ := HSZ.out k hall.out
    obtain ⟨A3, n3, A4, n4, rfl, rfl⟩ := rda_shape hrd
    obtain ⟨A5, n5, rfl⟩ := hsl.shape
    have q0 := cell_cells (i := 0) hG1
    have q1 := cell_cells (i := 1) hG1
    have q2 := cell_cells (i := 2) hG1
    simp only [List.getElem?_toArray, List.getElem?_cons_zero, List.getElem?_cons_succ] at q0 q1 q2
    by_cases hlt : k < l.length
    · obtain ⟨⟨t, c⟩, hx⟩ : ∃ x, l[k]? = some x := ⟨_, List.getElem?_eq_getElem hlt⟩
      obtain ⟨b, off, rfl, hbB, hc⟩ := c3 (by rintro rfl; simp at hlt)
      obtain ⟨cs, ⟨xe, xk, xc, rfl, hrx, hsx⟩, _, hu⟩ := hc k _ hx
      simp only at hrx hsx
      obtain ⟨A6, n6, A7, n7, rfl, rfl⟩ := rd_shape hrx
      obtain ⟨A8, n8, rfl, _⟩ := id hsx
      have e0 : wr.cell? ⟨b, off + k * 3, none⟩ = some (.slice A6 t.es.length n6) := (hb.cell hbB).trans (hu 0 _ rfl)
      have e1 : wr.cell? ⟨b, off + k * 3 + 1, none⟩ = some (.slice A7 t.ks.length n7) := (hb.cell hbB).trans (hu 1 _ rfl)
      have e2 : wr.cell? ⟨b, off + k * 3 + 2, none⟩ = some (.slice A8 c.length n8) := (hb.cell hbB).trans (hu 2 _ rfl)
      have hmem := List.mem_of_getElem? hx
      obtain ⟨hs1, hs2⟩ := HSM.out _ hmem
      simp only at hs1 hs2
      have HTK := hid (jnL_take hx)
      have HJK := hid (jaK_take hx hall.out)
      have HBAD : Hid (caK (t, c) = false → jaE l = 1 ∧ jaR l = kn0) := fun h => by unfold jaE jaR; rw [jaK_bad hmem h]; exact ⟨rfl, rfl⟩
      have HXO := hid hX
      generalize hXe : jnL (l.take k) = X at *
      obtain ⟨XT, XC⟩ := X
      simp only at hX1 hX2 hrd hsl q0 q1 q2
      have hbA : Below wr.heap.size wr (wr.alloc (.cells #[.slice A6 t.es.length n6, .slice A7 t.ks.length n7, .slice A8 c.length n8] 31)) := (Below.refl _ wr).alloc (Nat.le_refl _) _
      have hbB' := hb.trans (hbA.mono hsz)
      have HRX := hid (rd_below hbB' hbB'.size _ _ _ hrx)
      have HSX : Hid (SlP (wr.alloc (.cells #[.slice A6 t.es.length n6, .slice A7 t.ks.length n7, .slice A8 c.length n8] 31)) (wr.alloc (.cells #[.slice A6 t.es.length n6, .slice A7 t.ks.length n7, .slice A8 c.length n8] 31)).heap.size 3 SpE (.slice A8 c.length n8) c) := hsx.imp hbB' hbB'.size fun _ _ _ h => h
      have HRD := hid (rda_rd hrd (fun b hb => hb.2) hbA)
      have HSL := hid (hsl.slp (fun b hb => hb.2) hbA)
      have hneb : b ≠ wr.heap.size := by omega
      have hne1 : w.heap.size + 1 ≠ wr.heap.size := by omega
      have hltb : b < wr.heap.size := by omega
      have HG0 := hid hG0
      have HG1 := hid hG1
      have HBW := hid hbB'
      clear hu hc c3 hx hmem hXe hrd hsl hrx hsx hG0 hG1 hbA hbB' hX
      have hjE : jnE XT t XC c = if caK (t, c) then 0 else 1 := by unfold jnE caK; rw [caR_iff.2 HXO.out]; rfl
      have HJE := hid hjE
      clear hjE
      go_wp2_with fail
      refine (cJoin_any XC c XT t _ _ _ _ _ _ _ HRD.out HRX.out HSL.out HSX.out hX1 hs1 hX2 hs2).mono ?_
      rw [HJE.out]
      cases hca : caK (t, c)
      · rintro e w1 ⟨ve1, vk1, vc1, rfl, hrd1, hsl1, hb1⟩
        obtain ⟨Av, nv, Aw, nw, rfl, rfl⟩ := rda_shape hrd1
        obtain ⟨Ac, nc, rfl⟩ := hsl1.shape
        obtain ⟨hE1, hE2⟩ := HBAD.out hca
        have HE1 := hid hE1
        have HE2 := hid hE2
        simp only [World.size_alloc] at hb1
        have hsz1 := hb1.size
        simp only [World.size_alloc] at hsz1
        have hG0' : w1.heap[w.heap.size]? = some (.cells #[.slice none 0 0, .slice none 0 0, .slice none 0 0] 31 (0, 0)) := (hb1.block _ (by omega)).trans ((heap_old (by omega)).trans HG0.out)
        have HG := hid hG0'
        have HBW2 := hid (HBW.out.trans (hb1.mono (by omega)))
        have k0 := cell_cells (i := 0) hG0'
        have k1 := cell_cells (i := 1) hG0'
        have k2 := cell_cells (i := 2) hG0'
        simp only [List.getElem?_toArray, List.getElem?_cons_zero, List.getElem?_cons_succ] at k0 k1 k2
        have z0 := cells_frz (i := 0) hG0'
        have z1 := cells_frz (i := 1) hG0'
        have z2 := cells_frz (i := 2) hG0'
        have hl0 : w.heap.size < w1.heap.size := by omega
        have hl0' : w.heap.size ≠ w1.heap.size := by omega
        clear hE1 hE2 hrd1 hsl1 hb1 hG0' hca
        go_wp2_with fail
        obtain ⟨r0, r1, r2, _⟩ := box3a HG.out (.slice none 0 0) (.slice none 0 0) (.slice none 0 0) (.cells #[.slice Av (jnT XT t XC c).es.length nv, .slice Aw (jnT XT t XC c).ks.length nw, .slice Ac (jnC XT t XC c).length nc] 31)
        have hBW := below_box3 HBW2.out (Nat.le_refl _) (by omega) (.slice none 0 0) (.slice none 0 0) (.slice none 0 0) (.cells #[.slice Av (jnT XT t XC c).es.length nv, .slice Aw (jnT XT t XC c).ks.length nw, .slice Ac (jnC XT t XC c).length nc] 31)
        refine bodyPost_ret (v := .tuple #[.agg #[.slice none 0 0, .slice none 0 0, .slice none 0 0], .int .i64 1]) (by simp [results, Tryz.results30, go_sem, r0, r1, r2]) rfl ⟨_, _, _, by rw [HE1.out], ?_, ?_, hBW⟩
        · rw [HE2.out]; exact rda_nil _ _
        · rw [HE2.out]; exact SlA.nil
      · have HCA := hid hca
        have hjj := jn_ok HXO.out (caK_iff.1 hca)
        simp only at hjj
        rw [hjj.2.1, hjj.2.2]
        rintro e w1 ⟨ve1, vk1, vc1, rfl, hrd1, hsl1, hb1⟩
        clear hjj hca
        have HTK' : Hid (jnL (l.take (k + 1)) = (jT XT t XC c, jC XC c)) := HTK.out
        have HJK' : Hid (jaK (l.take (k + 1)) = true) := HJK.out.trans HCA.out
        clear HTK HJK
        generalize jT XT t XC c = YT at *
        generalize jC XC c = YC at *
        obtain ⟨Av, nv, Aw, nw, rfl, rfl⟩ := rda_shape hrd1
        obtain ⟨Ac, nc, rfl⟩ := hsl1.shape
        simp only [World.size_alloc] at hb1 hrd1 hsl1
        have hsz1 := hb1.size
        simp only [World.size_alloc] at hsz1
        have hG1' : w1.heap[w.heap.size + 1]? = some (.cells #[.slice A3 XT.es.length n3, .slice A4 XT.ks.length n4, .slice A5 XC.length n5] 31 (0, 0)) := (hb1.block _ (by omega)).trans ((heap_old (by omega)).trans HG1.out)
        have hG0' : w1.heap[w.heap.size]? = some (.cells #[.slice none 0 0, .slice none 0 0, .slice none 0 0] 31 (0, 0)) := (hb1.block _ (by omega)).trans ((heap_old (by omega)).trans HG0.out)
        have HGX := hid hG1'
        have HGZ := hid hG0'
        have HBW2 := hid (HBW.out.trans (hb1.mono (by omega)))
        have HR1 := hid hrd1
        have HS1 := hid hsl1
        have k0 := cell_cells (i := 0) hG1'
        have k1 := cell_cells (i := 1) hG1'
        have k2 := cell_cells (i := 2) hG1'
        simp only [List.getElem?_toArray, List.getElem?_cons_zero, List.getElem?_cons_succ] at k0 k1 k2
        have z0 := cells_frz (i := 0) hG1'
        have z1 := cells_frz (i := 1) hG1'
        have z2 := cells_frz (i := 2) hG1'
        have hl0 : w.heap.size + 1 < w1.heap.size := by omega
        have hl0' : w.heap.size + 1 ≠ w1.heap.size := by omega
        have hl1' : w1.heap.size ≠ w.heap.size + 1 := by omega
        clear hrd1 hsl1 hb1 hG1' hG0' q0 q1 q2
        go_wp2_with fail
        obtain ⟨r0, r1, r2, hK, hS, hWW⟩ := box3a HGX.out (.slice Av YT.es.length nv) (.slice Aw YT.ks.length nw) (.slice Ac YC.length nc) (.cells #[.slice Av YT.es.length nv, .slice Aw YT.ks.length nw, .slice Ac YC.length nc] 31)
        go_roundw
        case rel =>
          refine ⟨k + 1, by omega, by go_num, HJK', ⟨.slice Av YT.es.length nv, .slice Aw YT.ks.length nw, .slice Ac YC.length nc, hWW, ?_, ?_⟩, (hK _ (by omega) (by omega)).trans HGZ.out, below_box3 HBW2.out (by omega) (by omega) _ _ _ _⟩
          · rw [HTK'.out]
            exact rda_up (fun b hb => hK b (by omega) hb.2) (fun b hb => ⟨by omega, by rw [hS]; omega⟩) _ _ _ HR1.out
          · rw [HTK'.out]
            exact HS1.out.up (fun b hb => hK b (by omega) hb.2) (fun b hb => ⟨by omega, by rw [hS]; omega⟩) (fun _ _ _ h => h)
        case measure => simp [intOf]; omega
    · obtain rfl : k = l.length := by omega
      rw [List.take_of_length_le (Nat.le_refl _)] at hrd hsl hall
      have HE : Hid (jaE l = 0) := by unfold Hid jaE; rw [hall.out]; rfl
      have HR : Hid (jaR l = jnL l) := by unfold Hid jaR; rw [hall.out]; rfl
      rw [List.take_of_length_le (Nat.le_refl _)] at q0 q1 q2 hG1
      have HRD := hid hrd
      have HSL := hid hsl
      have HG0 := hid hG0
      have HBW := hid hb
      have k0 := cell_cells (i := 0) hG0
      have k1 := cell_cells (i := 1) hG0
      have k2 := cell_cells (i := 2) hG0
      simp only [List.getElem?_toArray, List.getElem?_cons_zero, List.getElem?_cons_succ] at k0 k1 k2
      have z0 := cells_frz (i := 0) hG0
      have z1 := cells_frz (i := 1) hG0
      have z2 := cells_frz (i := 2) hG0
      generalize jnL l = X at *
      obtain ⟨XT, XC⟩ := X
      simp only at HRD HSL q0 q1 q2
      clear hrd hsl hG0 hG1 hX hX1 hX2
      go_wp2_with fail
      obtain ⟨r0, r1, r2, hK, hS⟩ := box3 HG0.out (.slice A3 XT.es.length n3) (.slice A4 XT.ks.length n4) (.slice A5 XC.length n5)
      have hBW := ((HBW.out.setCell (p := ⟨w.heap.size, 0, none⟩) (by simp) (.slice A3 XT.es.length n3)).setCell (p := ⟨w.heap.size, 1, none⟩) (by simp) (.slice A4 XT.ks.length n4)).setCell (p := ⟨w.heap.size, 2, none⟩) (by simp) (.slice A5 XC.length n5)
      refine bodyPost_ret (v := .tuple #[.agg #[.slice A3 XT.es.length n3, .slice A4 XT.ks.length n4, .slice A5 XC.length n5], .int .i64 0]) (by simp [results, Tryz.results30, go_sem, r0, r1, r2]) rfl ⟨_, _, _, by rw [HE.out], ?_, ?_, hBW⟩
      · rw [HR.out]
        exact rda_up (fun b hb => hK b (by omega)) (fun b hb => ⟨by omega, by rw [hS]; omega⟩) _ _ _ HRD.out
      · rw [HR.out]
        exact HSL.out.up (fun b hb => hK b (by omega)) (fun b hb => ⟨by omega, by rw [hS]; omega⟩) (fun _ _ _ h => h)
end Go.Proofs.YtmphgnjodangcaaGreat

namespace Go.Proofs.YtmphgnjodangcaaGreat
open Go.RowKit
set_option maxRecDepth 100000

theorem neqDots (a b d e : Int) (w : World) : (binOp .neq 54 (.agg #[.int .i64 a, .int .i64 b]) (.agg #[.int .i64 d, .int .i64 e])).run Tryz.prog w = .ok (.bool (!decide (a = d ∧ b = e))) w := by
  have u3 := Tryz.underlying3
  have u2 := Tryz.underlying2
  have hS : Tryz.prog.underlying 54 = some (.struct (Tryz.prog.fieldsOf 54)) := by kernel_rfl
  have hp : Tryz.prog.stoodInHeld 54 = false := by kernel_rfl
  rw [run_neq_struct, show (10000 : Nat) = 9999 + 1 from rfl, run_equalIn_agg w 9999 54 _ _ hS hp]
  simp only [Program.fieldsOf, Tryz.underlying54]
  go_simp
  by_cases h1 : a = d <;> by_cases h2 : b = e <;> simp [h1, h2]
set_option maxHeartbeats 2000000 in
theorem place_any (a b : Lf) (A1 A2 : Option Addr) (c1 c2 : Nat) (w : World) (ha : SlP w w.heap.size 1 StE (.slice A1 a.1.length c1) a.1) (hb : SlP w w.heap.size 1 StE (.slice A2 b.1.length c2) b.1) :
    Calls Tryz.prog 175 #[.agg #[.slice A1 a.1.length c1, .int .i64 a.2.dc, .int .i64 a.2.n, .string a.2.s, .int .i64 a.2.v], .agg #[.slice A2 b.1.length c2, .int .i64 b.2.dc, .int .i64 b.2.n, .string b.2.s, .int .i64 b.2.v]] w fun e w' => e = .returned (.bool (placeB a b)) ∧ Below w.heap.size w w' := by
  obtain ⟨pa, xa⟩ := a
  obtain ⟨pb, xb⟩ := b
  simp only at ha hb ⊢
  have HP : Hid (placeB (pa, xa) (pb, xb) = (decide (xa.dc = xb.dc ∧ xa.n = xb.n) && decide (pa = pb))) := by
    unfold Hid placeB En.dot; simp only [Dt.mk.injEq]
  obtain ⟨_, _, h1, _, b2, b3⟩ := ha
  cases h1
  obtain ⟨_, _, h2, _, d2, d3⟩ := hb
  cases h2
  unfold Big at b2 d2
  have hb0 : Below w.heap.size w ((w.alloc (.cells #[.slice A1 pa.length c1, .int .i64 xa.dc, .int .i64 xa.n, .string xa.s, .int .i64 xa.v] 147)).alloc (.cells #[.slice A2 pb.length c2, .int .i64 xb.dc, .int .i64 xb.n, .string xb.s, .int .i64 xb.v] 147)) := ((Below.refl _ w).alloc (Nat.le_refl _) _).alloc (by simp) _
  have gg := guardDot
  have nn := neqDots
  go_enter Tryz.func175, Tryz.ntmps175
  cases hd : decide (xa.dc = xb.dc ∧ xa.n = xb.n)
  · have HF : Hid (placeB (pa, xa) (pb, xb) = false) := by unfold Hid; rw [HP.out, hd]; rfl
    go_wp2_with fail
    go_ret
    exact ⟨ret_bool HF.out.symm, hb0⟩
  by_cases hl : pa.length = pb.length
  · have hl' : ((pa.length : Int) != (pb.length : Int)) = false := by simp [hl]
    have HF : Hid (placeB (pa, xa) (pb, xb) = decide (pa = pb)) := by unfold Hid; rw [HP.out, hd]; rfl
    have HL := hid hl
    clear hl
    go_wp2_with fail
    clear hd gg nn
    go_loopw [25] (fun i wr => ∃ k : Nat, k ≤ pa.length ∧ i = .int .i64 k ∧ Hid (pa.take k = pb.take k) ∧ Below (w.heap.size + 2) ((w.alloc (.cells #[.slice A1 pa.length c1, .int .i64 xa.dc, .int .i64 xa.n, .string xa.s, .int .i64 xa.v] 147)).alloc (.cells #[.slice A2 pb.length c2, .int .i64 xb.dc, .int .i64 xb.n, .string xb.s, .int .i64 xb.v] 147)) wr) (fun i _ => pa.length - (intOf i).toNat)
    case atStart => exact ⟨0, Nat.zero_le _, rfl, rfl, Below.refl _ _⟩
    case round =>
      obtain ⟨k, hk, rfl, hrel, hb⟩ := hrel
      have hB := hb0.trans (hb.mono (by omega))
      have q0 : wr.cell? ⟨w.heap.size, 0, none⟩ = some (.slice A1 pa.length c1) := by rw [hb.cell (p := ⟨w.heap.size, 0, none⟩) (by simp)]; rw [World.cell?_alloc_lt _ _ _ (by simp)]; simp
      have q1 : wr.cell? ⟨w.heap.size + 1, 0, none⟩ = some (.slice A2 pb.length c2) := by rw [hb.cell (p := ⟨w.heap.size + 1, 0, none⟩) (by simp)]; simp
      by_cases hlt : k < pa.length
      · have hlt' : k < pb.length := by rw [← HL.out]; exact hlt
        obtain ⟨x, hx⟩ : ∃ x, pa[k]? = some x := ⟨_, List.getElem?_eq_getElem hlt⟩
        obtain ⟨y, hy⟩ : ∃ y, pb[k]? = some y := ⟨_, List.getElem?_eq_getElem hlt'⟩
        obtain ⟨b, off, rfl, hbB, hc⟩ := b3 (by rintro rfl; simp at hlt)
        obtain ⟨b', off', rfl, hbB', hc'⟩ := d3 (by rintro rfl; simp at hlt')
        obtain ⟨cs, ⟨rfl, _⟩, _, hu⟩ := hc k _ hx
        obtain ⟨cs', ⟨rfl, _⟩, _, hu'⟩ := hc' k _ hy
        have e0 : wr.cell? ⟨b, off + k, none⟩ = some (.string x) := (hB.cell (p := ⟨b, off + k, none⟩) hbB).trans (by simpa using hu 0 _ rfl)
        have e1 : wr.cell? ⟨b', off' + k, none⟩ = some (.string y) := (hB.cell (p := ⟨b', off' + k, none⟩) hbB').trans (by simpa using hu' 0 _ rfl)
        have HT := hid (take_eq_succ hx hy hrel.out)
        have HXY : Hid (pa = pb → x = y) := fun e => by rw [e] at hx; rw [hx] at hy; exact (Option.some.inj hy)
        clear hu hu' hc hc' b3 d3 hx hy
        have hi1 : ((k : Int)) < (pa.length : Int) := by omega
        have hi2 : ((k : Int)) < (pb.length : Int) := by omega
        by_cases hxy : x = y
        · have hb1 : (x.toList == y.toList) = true := by rw [hxy]; simp
          have hE := hid hxy
          clear hxy
          go_wp2_with fail
          go_quiet (fail)
          go_wp2_with fail
          go_roundw
          case rel => exact ⟨k + 1, by omega, by go_num, HT.out.2 hE.out, below_drewN hb nq⟩
          case measure => simp [intOf]; omega
        · have hb1 : (x.toList == y.toList) = false := by simpa [bytes_inj] using hxy
          have hE := hid hxy
          clear hxy
          go_wp2_with fail
          go_quiet (fail)
          go_wp2_with fail
          go_ret
          exact ⟨ret_bool (by rw [HF.out]; simpa using fun e => hE.out (HXY.out e)), hb0.trans ((below_drewN hb nq).mono (by omega))⟩
      · obtain rfl : k = pa.length := by omega
        have HR : Hid (pa = pb) := by
          have h := hrel.out
          rw [List.take_of_length_le (Nat.le_refl _), List.take_of_length_le (by rw [HL.out]; exact Nat.le_refl _)] at h
          exact h
        go_wp2_with fail
        go_ret
        exact ⟨ret_bool (by rw [HF.out]; simp [HR.out]), hB⟩
  · have hl' : ((pa.length : Int) != (pb.length : Int)) = true := by simp; omega
    have HF : Hid (placeB (pa, xa) (pb, xb) = false) := by unfold Hid; rw [HP.out, hd]; simp; exact fun e => hl (by rw [e])
    clear hl
    go_wp2_with fail
    go_ret
    exact ⟨ret_bool HF.out.symm, hb0⟩
end Go.Proofs.YtmphgnjodangcaaGreat

namespace Go.Proofs.YtmphgnjodangcaaGreat
open Go.RowKit
set_option maxRecDepth 100000

def lf0 : Lf := ([], ⟨0, 0, ByteArray.empty, 0⟩)
def fndZ (l : List Lf) (x : Lf) : Lf := (findL l x).getD lf0
theorem box5 {w : World} {g : Nat} {x y z u v : Value} {e : TypeId} (hbx : w.heap[g]? = some (.cells #[x, y, z, u, v] e (0, 0))) (a b c d f : Value) :
    (((((w.setCell ⟨g, 0, none⟩ a).setCell ⟨g, 1, none⟩ b).setCell ⟨g, 2, none⟩ c).setCell ⟨g, 3, none⟩ d).setCell ⟨g, 4, none⟩ f).heap[g]? = some (.cells #[a, b, c, d, f] e (0, 0)) ∧
      (∀ k, k ≠ g → (((((w.setCell ⟨g, 0, none⟩ a).setCell ⟨g, 1, none⟩ b).setCell ⟨g, 2, none⟩ c).setCell ⟨g, 3, none⟩ d).setCell ⟨g, 4, none⟩ f).heap[k]? = w.heap[k]?) ∧ (((((w.setCell ⟨g, 0, none⟩ a).setCell ⟨g, 1, none⟩ b).setCell ⟨g, 2, none⟩ c).setCell ⟨g, 3, none⟩ d).setCell ⟨g, 4, none⟩ f).heap.size = w.heap.size := by
  have hW := cells_set (i := 4) (cells_set (i := 3) (cells_set (i := 2) (cells_set (i := 1) (cells_set (i := 0) hbx a) b) c) d) f
  exact ⟨by simpa using hW, fun k hk => (Below.heap_setCell _ _ _ _ hk).trans ((Below.heap_setCell _ _ _ _ hk).trans ((Below.heap_setCell _ _ _ _ hk).trans ((Below.heap_setCell _ _ _ _ hk).trans (Below.heap_setCell _ _ _ _ hk)))), by simp [World.setCell]⟩
/-- What find hands back. -/
def RetF (w : World) (ok : Nat → Prop) (z : Lf) (b : Bool) (e : Ending) (w' : World) : Prop :=
  ∃ A c, e = .returned (.tuple #[.agg #[.slice A z.1.length c, .int .i64 z.2.dc, .int .i64 z.2.n, .string z.2.s, .int .i64 z.2.v], .bool b]) ∧ SlA w ok 1 StE (.slice A z.1.length c) z.1 ∧ z.2.Ok ∧ Below w.heap.size w w'
set_option maxHeartbeats 4000000 in
theorem find_any (ok : Nat → Prop) (l : List Lf) (x : Lf) (vl : Value) (A1 : Option Addr) (c1 : Nat) (w : World) (hok' : ∀ b, ok b → b < w.heap.size) (h : SlP w w.heap.size 5 (LfA w ok) vl l) (hx : SlA w (fun b => b < w.heap.size) 1 StE (.slice A1 x.1.length c1) x.1) :
    Calls Tryz.prog 111 #[vl, .agg #[.slice A1 x.1.length c1, .int .i64 x.2.dc, .int .i64 x.2.n, .string x.2.s, .int .i64 x.2.v]] w (RetF w ok (fndZ l x) (findL l x).isSome) := by
  have HXP : Hid (∀ w', Below w.heap.size w w' → SlP w' w'.heap.size 1 StE (.slice A1 x.1.length c1) x.1) := fun w' hb => SlP_iff.2 (hx.up (fun b hb' => hb.block b hb') (fun b hb' => Nat.lt_of_lt_of_le hb' hb.size) fun _ _ _ h => h)
  have HZ : Hid (fndZ l x = (findL l x).getD lf0) := rfl
  have HFE : Hid (findL l x = l.find? fun y => placeB y x) := rfl
  obtain ⟨A, m, rfl, b1, b2, b3⟩ := h
  unfold Big at b2
  have hb0 : Below w.heap.size w ((w.alloc (.cells #[.slice A1 x.1.length c1, .int .i64 x.2.dc, .int .i64 x.2.n, .string x.2.s, .int .i64 x.2.v] 147)).alloc (.cells #[.slice none 0 0, .int .i64 0, .int .i64 0, .string ByteArray.empty, .int .i64 0] 147)) := ((Below.refl _ w).alloc (Nat.le_refl _) _).alloc (by simp) _
  clear hx
  go_enter Tryz.func111, Tryz.ntmps111
  go_wp2_with fail
  go_loopw [9] (fun i wr => ∃ k : Nat, k ≤ l.length ∧ i = .int .i64 k ∧ Hid (∀ y ∈ l.take k, placeB y x = false) ∧ Below (w.heap.size + 2) ((w.alloc (.cells #[.slice A1 x.1.length c1, .int .i64 x.2.dc, .int .i64 x.2.n, .string x.2.s, .int .i64 x.2.v] 147)).alloc (.cells #[.slice none 0 0, .int .i64 0, .int .i64 0, .string ByteArray.empty, .int .i64 0] 147)) wr) (fun i _ => l.length - (intOf i).toNat)
  case atStart => exact ⟨0, Nat.zero_le _, rfl, fun y hy => by simp at hy, Below.refl _ _⟩
  case round =>
    obtain ⟨k, hk, rfl, hno, hb⟩ := hrel
    have hB := hb0.trans (hb.mono (by omega))
    have g1 : wr.heap[w.heap.size + 1]? = some (.cells #[.slice none 0 0, .int .i64 0, .int .i64 0, .string ByteArray.empty, .int .i64 0] 147 (0, 0)) := (hb.block _ (by omega)).trans (heap_new (by simp))
    have hsz := hb.size
    simp only [World.size_alloc] at hsz
    by_cases hlt : k < l.length
    · obtain ⟨⟨p, y⟩, hy⟩ : ∃ y, l[k]? = some y := ⟨_, List.getElem?_eq_getElem hlt⟩
      obtain ⟨b, off, rfl, hbB, hc⟩ := b3 (by rintro rfl; simp at hlt)
      obtain ⟨cs, ⟨A2, c2, rfl, hp, hok⟩, _, hu⟩ := hc k _ hy
      have e0 : wr.cell? ⟨b, off + k * 5, none⟩ = some (.slice A2 p.length c2) := (hB.cell hbB).trans (hu 0 _ rfl)
      have e1 : wr.cell? ⟨b, off + k * 5 + 1, none⟩ = some (.int .i64 y.dc) := (hB.cell hbB).trans (hu 1 _ rfl)
      have e2 : wr.cell? ⟨b, off + k * 5 + 2, none⟩ = some (.int .i64 y.n) := (hB.cell hbB).trans (hu 2 _ rfl)
      have e3 : wr.cell? ⟨b, off + k * 5 + 3, none⟩ = some (.string y.s) := (hB.cell hbB).trans (hu 3 _ rfl)
      have e4 : wr.cell? ⟨b, off + k * 5 + 4, none⟩ = some (.int .i64 y.v) := (hB.cell hbB).trans (hu 4 _ rfl)
      have HX : Hid (∀ W, Below (w.heap.size + 2) ((w.alloc (.cells #[.slice A1 x.1.length c1, .int .i64 x.2.dc, .int .i64 x.2.n, .string x.2.s, .int .i64 x.2.v] 147)).alloc (.cells #[.slice none 0 0, .int .i64 0, .int .i64 0, .string ByteArray.empty, .int .i64 0] 147)) W → Below w.heap.size w W ∧ W.heap[w.heap.size + 1]? = some (.cells #[.slice none 0 0, .int .i64 0, .int .i64 0, .string ByteArray.empty, .int .i64 0] 147 (0, 0)) ∧ (W.cell? ⟨b, off + k * 5, none⟩ = some (.slice A2 p.length c2) ∧ W.cell? ⟨b, off + k * 5 + 1, none⟩ = some (.int .i64 y.dc) ∧ W.cell? ⟨b, off + k * 5 + 2, none⟩ = some (.int .i64 y.n) ∧ W.cell? ⟨b, off + k * 5 + 3, none⟩ = some (.string y.s) ∧ W.cell? ⟨b, off + k * 5 + 4, none⟩ = some (.int .i64 y.v) ∧
          W.cell? ⟨w.heap.size, 0, none⟩ = some (.slice A1 x.1.length c1) ∧ W.cell? ⟨w.heap.size, 1, none⟩ = some (.int .i64 x.2.dc) ∧ W.cell? ⟨w.heap.size, 2, none⟩ = some (.int .i64 x.2.n) ∧ W.cell? ⟨w.heap.size, 3, none⟩ = some (.string x.2.s) ∧ W.cell? ⟨w.heap.size, 4, none⟩ = some (.int .i64 x.2.v))) := fun W hW => by
        have hB := hb0.trans (hW.mono (by omega))
        have g0 : W.heap[w.heap.size]? = some (.cells #[.slice A1 x.1.length c1, .int .i64 x.2.dc, .int .i64 x.2.n, .string x.2.s, .int .i64 x.2.v] 147 (0, 0)) := (hW.block _ (by omega)).trans ((heap_old (by simp)).trans (heap_new rfl))
        exact ⟨hB, (hW.block _ (by omega)).trans (heap_new (by simp)), (hB.cell hbB).trans (hu 0 _ rfl), (hB.cell hbB).trans (hu 1 _ rfl), (hB.cell hbB).trans (hu 2 _ rfl), (hB.cell hbB).trans (hu 3 _ rfl), (hB.cell hbB).trans (hu 4 _ rfl), cell_cells (i := 0) g0, cell_cells (i := 1) g0, cell_cells (i := 2) g0, cell_cells (i := 3) g0, cell_cells (i := 4) g0⟩
      have HPP : Hid (∀ w', Below w.heap.size w w' → SlP w' w'.heap.size 1 StE (.slice A2 p.length c2) p) := fun w' hb => SlP_iff.2 (hp.up (fun b hb' => hb.block b (hok' b hb')) (fun b hb' => Nat.lt_of_lt_of_le (hok' b hb') hb.size) fun _ _ _ h => h)
      have HSP := hid hp
      have HOK := hid hok
      have htk : l.take (k + 1) = l.take k ++ [(p, y)] := by rw [List.take_add_one, hy]; rfl
      have hdr : l = l.take k ++ (p, y) :: l.drop (k + 1) := by
        have := List.take_append_drop (k + 1) l
        rw [htk, List.append_assoc] at this
        exact this.symm
      have HTK := hid htk
      have HDR := hid hdr
      have HWR := hid hb
      clear hu hc b3 hy hp hok g1 htk hdr hb0
      cases hpl : placeB (p, y) x
      · have HPL := hid hpl
        clear hpl
        obtain ⟨q0, q1, q2, q3, q4⟩ := (HX.out _ HWR.out).2.2.2.2.2.2.2
        go_upto_region 4 with (fail)
        go_region_held3 (fun W => W.cell? ⟨b, off + k * 5, none⟩ = some (.slice A2 p.length c2) ∧ W.cell? ⟨b, off + k * 5 + 1, none⟩ = some (.int .i64 y.dc) ∧ W.cell? ⟨b, off + k * 5 + 2, none⟩ = some (.int .i64 y.n) ∧ W.cell? ⟨b, off + k * 5 + 3, none⟩ = some (.string y.s) ∧ W.cell? ⟨b, off + k * 5 + 4, none⟩ = some (.int .i64 y.v) ∧ W.cell? ⟨w.heap.size, 0, none⟩ = some (.slice A1 x.1.length c1) ∧ W.cell? ⟨w.heap.size, 1, none⟩ = some (.int .i64 x.2.dc) ∧ W.cell? ⟨w.heap.size, 2, none⟩ = some (.int .i64 x.2.n) ∧ W.cell? ⟨w.heap.size, 3, none⟩ = some (.string x.2.s) ∧ W.cell? ⟨w.heap.size, 4, none⟩ = some (.int .i64 x.2.v))
          (first | go_keep | exact (HX.out _ hbk1.out).2.2 | exact (HX.out _ (HWR.out.drew)).2.2)
          (first | (go_at_call 175; go_loud ((refine (place_any (p, y) x A2 A1 c2 c1 _ (HPP.out _ (HX.out _ (HWR.out.drew)).1) (HXP.out _ (HX.out _ (HWR.out.drew)).1)).mono ?_); rw [HPL.out]; rintro e w1 ⟨rfl, hb1⟩; have hbk1 := hid (HWR.out.drew.trans (hb1.mono (by simp; omega)))); have hB1 := (HX.out _ hbk1.out).1; have HG1 := hid (HX.out _ hbk1.out).2.1; have k0 : w1.cell? ⟨w.heap.size + 1, 0, none⟩ = some (.slice none 0 0) := cell_cells (i := 0) HG1.out; have k1 : w1.cell? ⟨w.heap.size + 1, 1, none⟩ = some (.int .i64 0) := cell_cells (i := 1) HG1.out; have k2 : w1.cell? ⟨w.heap.size + 1, 2, none⟩ = some (.int .i64 0) := cell_cells (i := 2) HG1.out; have k3 : w1.cell? ⟨w.heap.size + 1, 3, none⟩ = some (.string ByteArray.empty) := cell_cells (i := 3) HG1.out; have k4 : w1.cell? ⟨w.heap.size + 1, 4, none⟩ = some (.int .i64 0) := cell_cells (i := 4) HG1.out; have z0 := cells_frz (i := 0) HG1.out; have z1 := cells_frz (i := 1) HG1.out; have z2 := cells_frz (i := 2) HG1.out; have z3 := cells_frz (i := 3) HG1.out; have z4 := cells_frz (i := 4) HG1.out; have f0 := (HX.out _ hbk1.out).2.2.1; have f1 := (HX.out _ hbk1.out).2.2.2.1; have f2 := (HX.out _ hbk1.out).2.2.2.2.1; have f3 := (HX.out _ hbk1.out).2.2.2.2.2.1; have f4 := (HX.out _ hbk1.out).2.2.2.2.2.2.1; obtain ⟨f5, f6, f7, f8, f9⟩ := (HX.out _ hbk1.out).2.2.2.2.2.2.2))
        all_goals (
          go_wp2_with fail
          go_roundw
          case rel =>
            refine ⟨k + 1, by omega, by go_num, fun z hz => ?_, hbk1.out⟩
            rw [HTK.out] at hz
            rcases List.mem_append.1 hz with hz | hz
            · exact hno.out z hz
            · simp at hz; subst hz; exact HPL.out
          case measure => simp [intOf]; omega)
      · have HPL := hid hpl
        clear hpl
        obtain ⟨q0, q1, q2, q3, q4⟩ := (HX.out _ HWR.out).2.2.2.2.2.2.2
        go_upto_region 4 with (fail)
        go_region_held3 (fun W => W.cell? ⟨b, off + k * 5, none⟩ = some (.slice A2 p.length c2) ∧ W.cell? ⟨b, off + k * 5 + 1, none⟩ = some (.int .i64 y.dc) ∧ W.cell? ⟨b, off + k * 5 + 2, none⟩ = some (.int .i64 y.n) ∧ W.cell? ⟨b, off + k * 5 + 3, none⟩ = some (.string y.s) ∧ W.cell? ⟨b, off + k * 5 + 4, none⟩ = some (.int .i64 y.v) ∧ W.cell? ⟨w.heap.size, 0, none⟩ = some (.slice A1 x.1.length c1) ∧ W.cell? ⟨w.heap.size, 1, none⟩ = some (.int .i64 x.2.dc) ∧ W.cell? ⟨w.heap.size, 2, none⟩ = some (.int .i64 x.2.n) ∧ W.cell? ⟨w.heap.size, 3, none⟩ = some (.string x.2.s) ∧ W.cell? ⟨w.heap.size, 4, none⟩ = some (.int .i64 x.2.v))
          (first | go_keep | exact (HX.out _ hbk1.out).2.2 | exact (HX.out _ (HWR.out.drew)).2.2)
          (first | (go_at_call 175; go_loud ((refine (place_any (p, y) x A2 A1 c2 c1 _ (HPP.out _ (HX.out _ (HWR.out.drew)).1) (HXP.out _ (HX.out _ (HWR.out.drew)).1)).mono ?_); rw [HPL.out]; rintro e w1 ⟨rfl, hb1⟩; have hbk1 := hid (HWR.out.drew.trans (hb1.mono (by simp; omega)))); have hB1 := (HX.out _ hbk1.out).1; have HG1 := hid (HX.out _ hbk1.out).2.1; have k0 : w1.cell? ⟨w.heap.size + 1, 0, none⟩ = some (.slice none 0 0) := cell_cells (i := 0) HG1.out; have k1 : w1.cell? ⟨w.heap.size + 1, 1, none⟩ = some (.int .i64 0) := cell_cells (i := 1) HG1.out; have k2 : w1.cell? ⟨w.heap.size + 1, 2, none⟩ = some (.int .i64 0) := cell_cells (i := 2) HG1.out; have k3 : w1.cell? ⟨w.heap.size + 1, 3, none⟩ = some (.string ByteArray.empty) := cell_cells (i := 3) HG1.out; have k4 : w1.cell? ⟨w.heap.size + 1, 4, none⟩ = some (.int .i64 0) := cell_cells (i := 4) HG1.out; have z0 := cells_frz (i := 0) HG1.out; have z1 := cells_frz (i := 1) HG1.out; have z2 := cells_frz (i := 2) HG1.out; have z3 := cells_frz (i := 3) HG1.out; have z4 := cells_frz (i := 4) HG1.out; have f0 := (HX.out _ hbk1.out).2.2.1; have f1 := (HX.out _ hbk1.out).2.2.2.1; have f2 := (HX.out _ hbk1.out).2.2.2.2.1; have f3 := (HX.out _ hbk1.out).2.2.2.2.2.1; have f4 := (HX.out _ hbk1.out).2.2.2.2.2.2.1; obtain ⟨f5, f6, f7, f8, f9⟩ := (HX.out _ hbk1.out).2.2.2.2.2.2.2))
        have hfl : findL l x = some (p, y) := by
          rw [HFE.out, HDR.out, List.find?_append, List.find?_eq_none.2 (fun z hz => by rw [hno.out z hz]; simp), List.find?_cons, HPL.out]; rfl
        have hfz : fndZ l x = (p, y) := by rw [HZ.out, hfl]; rfl
        have hfs : (findL l x).isSome = true := by rw [hfl]; rfl
        have HFZ := hid hfz
        have HFS := hid hfs
        clear hfl hfz hfs
        all_goals (
          go_wp2_with fail
          obtain ⟨hW, hK, hS⟩ := box5 HG1.out (.slice A2 p.length c2) (.int .i64 y.dc) (.int .i64 y.n) (.string y.s) (.int .i64 y.v)
          have hBW := ((((hB1.setCell (p := ⟨w.heap.size + 1, 0, none⟩) (by simp) (.slice A2 p.length c2)).setCell (p := ⟨w.heap.size + 1, 1, none⟩) (by simp) (.int .i64 y.dc)).setCell (p := ⟨w.heap.size + 1, 2, none⟩) (by simp) (.int .i64 y.n)).setCell (p := ⟨w.heap.size + 1, 3, none⟩) (by simp) (.string y.s)).setCell (p := ⟨w.heap.size + 1, 4, none⟩) (by simp) (.int .i64 y.v)
          clear k0 k1 k2 k3 k4 z0 z1 z2 z3 z4
          generalize (((((w1.setCell ⟨w.heap.size + 1, 0, none⟩ (.slice A2 p.length c2)).setCell ⟨w.heap.size + 1, 1, none⟩ (.int .i64 y.dc)).setCell ⟨w.heap.size + 1, 2, none⟩ (.int .i64 y.n)).setCell ⟨w.heap.size + 1, 3, none⟩ (.string y.s)).setCell ⟨w.heap.size + 1, 4, none⟩ (.int .i64 y.v)) = W at *
          have r0 := cell_cells (i := 0) hW
          have r1 := cell_cells (i := 1) hW
          have r2 := cell_cells (i := 2) hW
          have r3 := cell_cells (i := 3) hW
          have r4 := cell_cells (i := 4) hW
          simp only [List.getElem?_toArray, List.getElem?_cons_zero, List.getElem?_cons_succ] at r0 r1 r2 r3 r4
          refine bodyPost_ret (v := .tuple #[.agg #[.slice A2 p.length c2, .int .i64 y.dc, .int .i64 y.n, .string y.s, .int .i64 y.v], .bool true]) (by simp [results, Tryz.results111, go_sem, r0, r1, r2, r3, r4]) rfl ⟨A2, c2, by rw [HFZ.out, HFS.out], by rw [HFZ.out]; exact HSP.out, by rw [HFZ.out]; exact HOK.out, hBW⟩)
    · obtain rfl : k = l.length := by omega
      have hfl : findL l x = none := by
        rw [HFE.out]
        rw [List.take_of_length_le (Nat.le_refl _)] at hno
        exact List.find?_eq_none.2 fun z hz => by rw [hno.out z hz]; simp
      have hfz : fndZ l x = lf0 := by rw [HZ.out, hfl]; rfl
      have hfs : (findL l x).isSome = false := by rw [hfl]; rfl
      have HFZ := hid hfz
      have HFS := hid hfs
      clear hfl hfz hfs
      have HG1 := hid g1
      have k0 : wr.cell? ⟨w.heap.size + 1, 0, none⟩ = some (.slice none 0 0) := cell_cells (i := 0) HG1.out
      have k1 : wr.cell? ⟨w.heap.size + 1, 1, none⟩ = some (.int .i64 0) := cell_cells (i := 1) HG1.out
      have k2 : wr.cell? ⟨w.heap.size + 1, 2, none⟩ = some (.int .i64 0) := cell_cells (i := 2) HG1.out
      have k3 : wr.cell? ⟨w.heap.size + 1, 3, none⟩ = some (.string ByteArray.empty) := cell_cells (i := 3) HG1.out
      have k4 : wr.cell? ⟨w.heap.size + 1, 4, none⟩ = some (.int .i64 0) := cell_cells (i := 4) HG1.out
      have z0 := cells_frz (i := 0) HG1.out
      have z1 := cells_frz (i := 1) HG1.out
      have z2 := cells_frz (i := 2) HG1.out
      have z3 := cells_frz (i := 3) HG1.out
      have z4 := cells_frz (i := 4) HG1.out
      go_wp2_with fail
      obtain ⟨hW, hK, hS⟩ := box5 HG1.out (.slice none 0 0) (.int .i64 0) (.int .i64 0) (.string ⟨#[]⟩) (.int .i64 0)
      have hBW := ((((hB.setCell (p := ⟨w.heap.size + 1, 0, none⟩) (by simp) (.slice none 0 0)).setCell (p := ⟨w.heap.size + 1, 1, none⟩) (by simp) (.int .i64 0)).setCell (p := ⟨w.heap.size + 1, 2, none⟩) (by simp) (.int .i64 0)).setCell (p := ⟨w.heap.size + 1, 3, none⟩) (by simp) (.string ⟨#[]⟩)).setCell (p := ⟨w.heap.size + 1, 4, none⟩) (by simp) (.int .i64 0)
      clear k0 k1 k2 k3 k4 z0 z1 z2 z3 z4
      generalize (((((wr.setCell ⟨w.heap.size + 1, 0, none⟩ (.slice none 0 0)).setCell ⟨w.heap.size + 1, 1, none⟩ (.int .i64 0)).setCell ⟨w.heap.size + 1, 2, none⟩ (.int .i64 0)).setCell ⟨w.heap.size + 1, 3, none⟩ (.string ⟨#[]⟩)).setCell ⟨w.heap.size + 1, 4, none⟩ (.int .i64 0)) = W at *
      have r0 := cell_cells (i := 0) hW
      have r1 := cell_cells (i := 1) hW
      have r2 := cell_cells (i := 2) hW
      have r3 := cell_cells (i := 3) hW
      have r4 := cell_cells (i := 4) hW
      simp only [List.getElem?_toArray, List.getElem?_cons_zero, List.getElem?_cons_succ] at r0 r1 r2 r3 r4
      refine bodyPost_ret (v := .tuple #[.agg #[.slice none 0 0, .int .i64 0, .int .i64 0, .string ⟨#[]⟩, .int .i64 0], .bool false]) (by simp [results, Tryz.results111, go_sem, r0, r1, r2, r3, r4]) rfl ⟨none, 0, by rw [HFZ.out, HFS.out]; rfl, by rw [HFZ.out]; exact SlA.nil, by rw [HFZ.out]; exact ⟨⟨by decide, by decide⟩, ⟨by decide, by decide⟩, ⟨by decide, by decide⟩, by simp [lf0, Big]⟩, hBW⟩
end Go.Proofs.YtmphgnjodangcaaGreat

namespace Go.Proofs.YtmphgnjodangcaaGreat
open Go.RowKit
set_option maxRecDepth 100000

theorem slLf {W0 W : World} {ok ok' : Nat → Prop} {v : Value} {l : List Lf} (h : SlP W0 W0.heap.size 5 (LfA W0 ok) v l) (hb : Below W0.heap.size W0 W) (ho : ∀ b, ok b → b < W0.heap.size) (ho' : ∀ b, ok b → ok' b) : SlP W W.heap.size 5 (LfA W ok') v l :=
  h.imp hb hb.size fun _ _ _ hx => LfA.mon.up (fun b hb' => hb.block b (ho b hb')) (fun b hb' => ho' b hb') hx
theorem lf_one {W : World} {n : Nat} {v : Value} {z : Lf} {A : Option Addr} {c : Nat} (e : TypeId) (hp : SlA W (fun b => b < n) 1 StE (.slice A z.1.length c) z.1) (hk : z.2.Ok) (hv : ∀ g, v.ownBlock = some g → n ≤ g) (hn : n ≤ W.heap.size) :
    SlP (W.alloc (.cells #[.slice A z.1.length c, .int .i64 z.2.dc, .int .i64 z.2.n, .string z.2.s, .int .i64 z.2.v] e)) (W.alloc (.cells #[.slice A z.1.length c, .int .i64 z.2.dc, .int .i64 z.2.n, .string z.2.s, .int .i64 z.2.v] e)).heap.size 5 (LfA (W.alloc (.cells #[.slice A z.1.length c, .int .i64 z.2.dc, .int .i64 z.2.n, .string z.2.s, .int .i64 z.2.v] e)) (fun b => b < n ∧ b < (W.alloc (.cells #[.slice A z.1.length c, .int .i64 z.2.dc, .int .i64 z.2.n, .string z.2.s, .int .i64 z.2.v] e)).heap.size ∧ v.ownBlock ≠ some b)) (.slice (some ⟨W.heap.size, 0, none⟩) 1 1) [z] :=
  SlP.oneB (x := z) (cs := [.slice A z.1.length c, .int .i64 z.2.dc, .int .i64 z.2.n, .string z.2.s, .int .i64 z.2.v]) ⟨A, c, rfl, hp.up (fun b hb => heap_old (Nat.lt_of_lt_of_le hb hn)) (fun b hb => ⟨hb, by simp; omega, fun e => by have := hv b e; omega⟩) fun _ _ _ h => h, hk⟩ rfl e rfl (by simp)
theorem outP_take {l : List Lf} {k : Nat} {x : Lf} (h : l[k]? = some x) (f : Lf → List Lf) : (l.take (k + 1)).flatMap f = (l.take k).flatMap f ++ f x := by
  rw [List.take_add_one, h, List.flatMap_append]; simp
theorem flatL_len (f : Lf → List Lf) (hf : ∀ x, (f x).length ≤ 1) : ∀ l : List Lf, (l.flatMap f).length ≤ l.length
  | [] => by simp
  | x :: l => by
    have h1 := hf x
    have h2 := flatL_len f hf l
    rw [List.flatMap_cons, List.length_append, List.length_cons]; omega
set_option maxHeartbeats 4000000 in
theorem r09join_any (ca cb : List Sp) (a b : Tr) (va ka vb kb vca vcb : Value) (w : World) (ha : a.rd w w.heap.size va ka) (hb : b.rd w w.heap.size vb kb) (hca : SlP w w.heap.size 3 SpE vca ca) (hcb : SlP w w.heap.size 3 SpE vcb cb) (hza : a.sz ≤ 4000) (hzb : b.sz ≤ 4000) (hra : SpsOk ca) (hrb : SpsOk cb) (hN1 : ca.length ≤ 20000) (hN2 : cb.length ≤ 20000) :
    Calls Tryz.prog 29 #[.agg #[va, ka, vca], .agg #[vb, kb, vcb]] w (RetC w (buildL (r9L (a.lvs []) (b.lvs []) ca cb)) (ctxBy ca cb 0)) := by
  have HA := hid ha
  have HB := hid hb
  have HCA : Hid (∀ w', Below w.heap.size w w' → SlP w' w'.heap.size 3 SpE vca ca) := fun w' hb => hca.imp hb hb.size fun _ _ _ h => h
  have HCB : Hid (∀ w', Below w.heap.size w w' → SlP w' w'.heap.size 3 SpE vcb cb) := fun w' hb => hcb.imp hb hb.size fun _ _ _ h => h
  have HR1 := hid hra
  have HR2 := hid hrb
  have hul := ctxByK_len ca cb 0 4
  have HUL : Hid ((ctxBy ca cb 0).length ≤ Big) := by unfold Hid ctxBy Big; omega
  have hlp := lvs_len a []
  have hlq := lvs_len b []
  obtain ⟨A1, n1, A2, n2, rfl, rfl⟩ := rd_shape ha
  obtain ⟨A3, n3, A4, n4, rfl, rfl⟩ := rd_shape hb
  obtain ⟨A5, n5, rfl, _⟩ := hca
  obtain ⟨A6, n6, rfl, _⟩ := hcb
  have HX : Hid (∀ W, Below (w.heap.size + 3) (((w.alloc (.cells #[.slice A1 a.es.length n1, .slice A2 a.ks.length n2, .slice A5 ca.length n5] 31)).alloc (.cells #[.slice A3 b.es.length n3, .slice A4 b.ks.length n4, .slice A6 cb.length n6] 31)).alloc (.cells #[.slice none 0 0, .slice none 0 0, .slice none 0 0] 31)) W → Below w.heap.size w W ∧ W.heap[w.heap.size + 2]? = some (.cells #[.slice none 0 0, .slice none 0 0, .slice none 0 0] 31 (0, 0)) ∧ w.heap.size + 3 ≤ W.heap.size ∧ (W.cell? ⟨w.heap.size, 0, none⟩ = some (.slice A1 a.es.length n1) ∧ W.cell? ⟨w.heap.size, 1, none⟩ = some (.slice A2 a.ks.length n2) ∧ W.cell? ⟨w.heap.size, 2, none⟩ = some (.slice A5 ca.length n5) ∧ W.cell? ⟨w.heap.size + 1, 0, none⟩ = some (.slice A3 b.es.length n3) ∧ W.cell? ⟨w.heap.size + 1, 1, none⟩ = some (.slice A4 b.ks.length n4) ∧ W.cell? ⟨w.heap.size + 1, 2, none⟩ = some (.slice A6 cb.length n6))) := fun W hW => by
    have g0 : W.heap[w.heap.size]? = some (.cells #[.slice A1 a.es.length n1, .slice A2 a.ks.length n2, .slice A5 ca.length n5] 31 (0, 0)) := (hW.block _ (by omega)).trans ((heap_old (by simp <;> omega)).trans ((heap_old (by simp)).trans (heap_new rfl)))
    have g1 : W.heap[w.heap.size + 1]? = some (.cells #[.slice A3 b.es.length n3, .slice A4 b.ks.length n4, .slice A6 cb.length n6] 31 (0, 0)) := (hW.block _ (by omega)).trans ((heap_old (by simp)).trans (heap_new (by simp)))
    have g2 : W.heap[w.heap.size + 2]? = some (.cells #[.slice none 0 0, .slice none 0 0, .slice none 0 0] 31 (0, 0)) := (hW.block _ (by omega)).trans (heap_new (by simp))
    exact ⟨((((Below.refl _ w).alloc (Nat.le_refl _) _).alloc (by simp) _).alloc (by simp; omega) _).trans (hW.mono (by omega)), g2, by have := hW.size; simpa using this, cell_cells (i := 0) g0, cell_cells (i := 1) g0, cell_cells (i := 2) g0, cell_cells (i := 0) g1, cell_cells (i := 1) g1, cell_cells (i := 2) g1⟩
  have hneA : w.heap.size + 1 + 1 ≠ w.heap.size := by omega
  have hneB : w.heap.size ≠ w.heap.size + 1 + 1 := by omega
  clear ha hb
  go_enter Tryz.func29, Tryz.ntmps29
  obtain ⟨p0, p1, p2, p3, p4, p5⟩ := (HX.out _ (Below.refl _ _)).2.2.2
  go_upto_region 1 with (fail)
  go_region_held3 (fun w' => w'.cell? ⟨w.heap.size, 0, none⟩ = some (.slice A1 a.es.length n1) ∧ w'.cell? ⟨w.heap.size, 1, none⟩ = some (.slice A2 a.ks.length n2) ∧ w'.cell? ⟨w.heap.size + 1, 0, none⟩ = some (.slice A3 b.es.length n3) ∧ w'.cell? ⟨w.heap.size + 1, 1, none⟩ = some (.slice A4 b.ks.length n4))
    (go_keep)
    (first | (have hq := hbk1; go_at_call 110; go_loud ((refine (r08leaves_any b _ _ _ (rd_below (HX.out _ hbk1.out).1 (HX.out _ hbk1.out).1.size _ _ _ HB.out) (by omega)).mono ?_); rintro e w2 ⟨v2, rfl, ho2, hb2⟩; obtain ⟨Aq, cq, hv2⟩ := OwnP.shape ho2; subst hv2; have HOQ := hid ho2; have HB2 := hid hb2; have hbk2 := hid (hbk1.out.trans (hb2.mono (HX.out _ hbk1.out).2.2.1)); obtain ⟨q0, q1, q2, q3, q4, q5⟩ := (HX.out _ hbk2.out).2.2.2; clear ho2 hb2))
           | (go_at_call 110; go_loud ((refine (r08leaves_any a _ _ _ (rd_below (HX.out _ (by go_grown)).1 (HX.out _ (by go_grown)).1.size _ _ _ HA.out) (by omega)).mono ?_); rintro e w1 ⟨v1, rfl, ho1, hb1⟩; obtain ⟨Ap, cp, hv1⟩ := OwnP.shape ho1; subst hv1; have HOP := hid ho1; have hbk1 : Hid (Below (w.heap.size + 3) (((w.alloc (.cells #[.slice A1 a.es.length n1, .slice A2 a.ks.length n2, .slice A5 ca.length n5] 31)).alloc (.cells #[.slice A3 b.es.length n3, .slice A4 b.ks.length n4, .slice A6 cb.length n6] 31)).alloc (.cells #[.slice none 0 0, .slice none 0 0, .slice none 0 0] 31)) w1) := (Below.trans (by go_grown) (hb1.mono (by simp))); obtain ⟨q0, q1, q2, q3, q4, q5⟩ := (HX.out _ hbk1.out).2.2.2; clear ho1 hb1)))
  have hs2 := (HX.out _ hbk2.out).2.2.1
  have HP : Hid (SlP w2 w2.heap.size 5 (LfA w2 (fun b => b < w2.heap.size)) (.slice Ap (a.lvs []).length cp) (a.lvs [])) := slLf (HOP.out.sl LfA.mon (by unfold Big; omega)) HB2.out (fun b hb => hb.2) (fun b hb => Nat.lt_of_lt_of_le hb.2 HB2.out.size)
  have HQ : Hid (SlP w2 w2.heap.size 5 (LfA w2 (fun b => b < w2.heap.size)) (.slice Aq (b.lvs []).length cq) (b.lvs [])) := slLf (HOQ.out.sl LfA.mon (by unfold Big; omega)) (Below.refl _ _) (fun b hb => hb.2) (fun b hb => hb.2)
  have hR9 : r9L (a.lvs []) (b.lvs []) ca cb = (a.lvs []).flatMap (outP (b.lvs []) cb) ++ (b.lvs []).flatMap (outQ (a.lvs []) ca) := rfl
  have HR9 := hid hR9
  clear hR9 HOP HOQ HB2 q0 q1 q2 q3 q4 q5 p0 p1 p2 p3 p4 p5
  generalize a.lvs [] = P at *
  generalize b.lvs [] = Q at *
  go_wp2_with fail
  go_loopw [7, 22] (fun v i wr => ∃ k : Nat, k ≤ P.length ∧ i = .int .i64 k ∧ OwnD wr w2.heap.size 147 5 LfA (fun b => b < w2.heap.size) v ((P.take k).flatMap (outP Q cb)) ∧ Below w2.heap.size w2 wr) (fun _ i _ => P.length - (intOf i).toNat)
  case atStart => exact ⟨0, Nat.zero_le _, rfl, OwnD.nil, Below.refl _ _⟩
  case round =>
    obtain ⟨k, hk, rfl, hown, hb⟩ := hrel
    have hsz := hb.size
    by_cases hlt : k < P.length
    · obtain ⟨⟨p, x⟩, hx⟩ : ∃ x, P[k]? = some x := ⟨_, List.getElem?_eq_getElem hlt⟩
      obtain ⟨A, m, hv, c1, c2, c3⟩ := id HP.out
      cases hv
      obtain ⟨bp, op, rfl, hbB, hc⟩ := c3 (by rintro rfl; simp at hlt)
      obtain ⟨cs, ⟨A7, c7, rfl, hp, hok⟩, _, hu⟩ := hc k _ hx
      have HE : Hid (∀ W, Below w2.heap.size w2 W → (W.cell? ⟨bp, op + k * 5, none⟩ = some (.slice A7 p.length c7) ∧ W.cell? ⟨bp, op + k * 5 + 1, none⟩ = some (.int .i64 x.dc) ∧ W.cell? ⟨bp, op + k * 5 + 2, none⟩ = some (.int .i64 x.n) ∧ W.cell? ⟨bp, op + k * 5 + 3, none⟩ = some (.string x.s) ∧ W.cell? ⟨bp, op + k * 5 + 4, none⟩ = some (.int .i64 x.v)) ∧ SlA W (fun b => b < w2.heap.size) 1 StE (.slice A7 p.length c7) p ∧ W.cell? ⟨w.heap.size + 1, 2, none⟩ = some (.slice A6 cb.length n6) ∧ Below w.heap.size w W) := fun W hW =>
        ⟨⟨(hW.cell hbB).trans (hu 0 _ rfl), (hW.cell hbB).trans (hu 1 _ rfl), (hW.cell hbB).trans (hu 2 _ rfl), (hW.cell hbB).trans (hu 3 _ rfl), (hW.cell hbB).trans (hu 4 _ rfl)⟩, hp.up (fun b hb => hW.block b hb) (fun _ h => h) (fun _ _ _ h => h), (HX.out W (hbk2.out.trans (hW.mono hs2))).2.2.2.2.2.2.2.2, (HX.out W (hbk2.out.trans (hW.mono hs2))).1⟩
      obtain ⟨⟨e0, e1, e2, e3, e4⟩, hp', q5, hB⟩ := HE.out wr hb
      have HOK := hid hok
      have HTK := hid (outP_take hx (outP Q cb))
      have hle := flatL_len (outP Q cb) (outP_len Q cb) (P.take k)
      rw [List.length_take] at hle
      have HL : Hid (∀ z : Lf, ((P.take k).flatMap (outP Q cb)).length + [z].length ≤ Few) := fun z => by unfold Few; rw [List.length_singleton]; omega
      generalize (P.take k).flatMap (outP Q cb) = js at *
      have HOP : Hid (outP Q cb (p, x) = outP Q cb (p, x)) := rfl
      have hov := hown.lt
      clear hu hc c3 hx hok hp
      go_wp2_with fail
      refine (find_any (fun b => b < w2.heap.size) Q (p, x) _ A7 c7 wr (fun b hb => Nat.lt_of_lt_of_le hb hsz) (slLf HQ.out hb (fun _ h => h) fun _ h => h) (hp'.up (fun _ _ => rfl) (fun b hb => Nat.lt_of_lt_of_le hb hsz) fun _ _ _ h => h)).mono ?_
      cases hf : findL Q (p, x) with
      | none =>
        have hfz : fndZ Q (p, x) = lf0 := by unfold fndZ; rw [hf]; rfl
        rw [hfz]
        rintro e w3 ⟨Az, cz, rfl, hz, hzok, hb3⟩
        have HF := hid hf
        clear hfz hf hz hzok
        simp only [lf0, List.length_nil, Option.isSome_none]
        have hb3' : Below w2.heap.size w2 w3 := hb.trans (hb3.mono hsz)
        have hs3 := hb3.size
        obtain ⟨⟨f0, f1, f2, f3, f4⟩, hp3, q6, hB3⟩ := HE.out w3 hb3'
        have hown3 := hown.grow LfA.mon hb3
        have hbp3 : bp < w3.heap.size := by omega
        have hbn3 : bp ≠ w3.heap.size := by omega
        go_wp2_with fail
        go_quiet (fail)
        have hb4 : Below w3.heap.size w3 ((w3.alloc (.cells #[.slice Az 0 cz, .int .i64 0, .int .i64 0, .string ByteArray.empty, .int .i64 0] 147)).drewN nq) := below_drewN ((Below.refl _ w3).alloc (Nat.le_refl _) _) nq
        have hg4 : ((w3.alloc (.cells #[.slice Az 0 cz, .int .i64 0, .int .i64 0, .string ByteArray.empty, .int .i64 0] 147)).drewN nq).heap[w3.heap.size]? = some (.cells #[.slice Az 0 cz, .int .i64 0, .int .i64 0, .string ByteArray.empty, .int .i64 0] 147) := by rw [World.heap_drewN]; exact heap_new rfl
        generalize ((w3.alloc (.cells #[.slice Az 0 cz, .int .i64 0, .int .i64 0, .string ByteArray.empty, .int .i64 0] 147)).drewN nq) = w4 at *
        have hb4' : Below w2.heap.size w2 w4 := hb3'.trans (hb4.mono (by omega))
        have hown4 := hown3.grow LfA.mon hb4
        have hs4 : w3.heap.size < w4.heap.size := lt_of_block hg4
        have b0 := cell_cells (i := 0) hg4
        have b1 := cell_cells (i := 1) hg4
        have b2 := cell_cells (i := 2) hg4
        have b3 := cell_cells (i := 3) hg4
        have b4 := cell_cells (i := 4) hg4
        simp only [List.getElem?_toArray, List.getElem?_cons_zero, List.getElem?_cons_succ] at b0 b1 b2 b3 b4
        clear hown3 f0 f1 f2 f3 f4 e0 e1 e2 e3 e4 hg4 hbp3 hbn3
        obtain ⟨⟨f0, f1, f2, f3, f4⟩, hp4, q8, hB4⟩ := HE.out w4 hb4'
        have hbp4 : bp < w4.heap.size := by omega
        have hbn4 : bp ≠ w4.heap.size := by omega
        cases hh : hasC cb x.dot
        · have HH := hid hh
          have HOY : Hid (outP Q cb (p, x) = [(p, x)]) := by unfold Hid outP; rw [HF.out]; simp [hh]
          clear hh
          go_upto_region 9 with (fail)
          have f7 : w4.cell? ⟨bp, op + k * 5 + 1 + 1, none⟩ = some (.int .i64 x.n) := f2
          go_region_held3 (fun W => W.cell? ⟨w.heap.size + 1, 2, none⟩ = some (.slice A6 cb.length n6) ∧ W.cell? ⟨bp, op + k * 5 + 1, none⟩ = some (.int .i64 x.dc) ∧ W.cell? ⟨bp, op + k * 5 + 1 + 1, none⟩ = some (.int .i64 x.n))
            (go_keep)
            (first | (go_at_call 92; go_loud ((refine (r07has_any cb x.dot _ _ (HCB.out _ (HE.out _ (hb4'.drew)).2.2.2) (by omega)).mono ?_); rw [HH.out]; rintro e w6 ⟨rfl, hb6⟩; have hbW : Below w4.heap.size w4 w6 := (Below.refl _ w4).drew.trans (hb6.mono (by simp)); have HBW := hid hbW; obtain ⟨⟨f0, f1, f2, f3, f4⟩, hpW, q9, hB6⟩ := HE.out w6 (hb4'.trans (hbW.mono (by omega))); have f7 : w6.cell? ⟨bp, op + k * 5 + 1 + 1, none⟩ = some (.int .i64 x.n) := f2; have hs6 := hbW.size; have hbp6 : bp < w6.heap.size := (by omega); have hbn6 : bp ≠ w6.heap.size := (by omega))))
          have hzW := HOK.out
          go_wp2_with (at_builtin; go_loud ((refine wpList_d (v := u7) rfl (.tmp 88) (.tmp 93) _ rfl LfA.mon eiLeaf (by decide) (by decide) rfl ((hown4.grow LfA.mon hbW).grow LfA.mon ((Below.refl _ w6).alloc (Nat.le_refl _) (.cells #[.slice A7 (p).length c7, .int .i64 (x).dc, .int .i64 (x).n, .string (x).s, .int .i64 (x).v] 147))) rfl (lf_one (z := (p, x)) _ hpW hzW (fun g h => (hov g h).1) (by omega)) (HL.out (p, x)) (by simp; omega) ?_); intro v1 w7 hown7 hb7 _ _))
          go_roundw
          case rel => exact ⟨k + 1, by omega, by go_num, by rw [HTK.out, HOY.out]; exact hown7, ((hb4'.trans (hbW.mono (by omega))).alloc (by omega) _).trans hb7⟩
          case measure => simp [intOf]; omega
        · have HH := hid hh
          have HOY : Hid (outP Q cb (p, x) = []) := by unfold Hid outP; rw [HF.out]; simp [hh]
          clear hh
          go_upto_region 9 with (fail)
          have f7 : w4.cell? ⟨bp, op + k * 5 + 1 + 1, none⟩ = some (.int .i64 x.n) := f2
          go_region_held3 (fun W => W.cell? ⟨w.heap.size + 1, 2, none⟩ = some (.slice A6 cb.length n6) ∧ W.cell? ⟨bp, op + k * 5 + 1, none⟩ = some (.int .i64 x.dc) ∧ W.cell? ⟨bp, op + k * 5 + 1 + 1, none⟩ = some (.int .i64 x.n))
            (go_keep)
            (first | (go_at_call 92; go_loud ((refine (r07has_any cb x.dot _ _ (HCB.out _ (HE.out _ (hb4'.drew)).2.2.2) (by omega)).mono ?_); rw [HH.out]; rintro e w6 ⟨rfl, hb6⟩; have hbW : Below w4.heap.size w4 w6 := (Below.refl _ w4).drew.trans (hb6.mono (by simp)); have HBW := hid hbW; obtain ⟨⟨f0, f1, f2, f3, f4⟩, hpW, q9, hB6⟩ := HE.out w6 (hb4'.trans (hbW.mono (by omega))); have f7 : w6.cell? ⟨bp, op + k * 5 + 1 + 1, none⟩ = some (.int .i64 x.n) := f2; have hs6 := hbW.size; have hbp6 : bp < w6.heap.size := (by omega); have hbn6 : bp ≠ w6.heap.size := (by omega))))
          go_wp2_with fail
          go_roundw
          case rel => exact ⟨k + 1, by omega, by go_num, by rw [HTK.out, HOY.out, List.append_nil]; exact hown4.grow LfA.mon hbW, hb4'.trans (hbW.mono (by omega))⟩
          case measure => simp [intOf]; omega
      | some y =>
        obtain ⟨pz, z⟩ := y
        have hfz : fndZ Q (p, x) = (pz, z) := by unfold fndZ; rw [hf]; rfl
        rw [hfz]
        rintro e w3 ⟨Az, cz, rfl, hz, hzok, hb3⟩
        have HF := hid hf
        clear hfz hf
        simp only [Option.isSome_some] at hz hzok ⊢
        have hb3' : Below w2.heap.size w2 w3 := hb.trans (hb3.mono hsz)
        have hs3 := hb3.size
        obtain ⟨⟨f0, f1, f2, f3, f4⟩, hp3, q6, hB3⟩ := HE.out w3 hb3'
        have hown3 := hown.grow LfA.mon hb3
        have hbp3 : bp < w3.heap.size := by omega
        have hbn3 : bp ≠ w3.heap.size := by omega
        have f5 : w3.cell? ⟨bp, op + k * 5 + 1 + 3, none⟩ = some (.int .i64 x.v) := f4
        have f6 : w3.cell? ⟨bp, op + k * 5 + 1 + 2, none⟩ = some (.string x.s) := f3
        have HZ := hid hz
        have HZO := hid hzok
        clear hz hzok
        cases hg1 : decide (x.v < z.v)
        · cases hg2 : decide (z.v = x.v)
          · have hg3 : (z.v == x.v) = false := by simpa using hg2
            have HOY : Hid (outP Q cb (p, x) = [(p, x)]) := by unfold Hid outP; rw [HF.out]; simp [gtE, hg1, hg2]
            go_wp2_with fail
            go_quiet (fail)
            clear hg1 hg2 hg3
            have hb4 : Below w3.heap.size w3 ((w3.alloc (.cells #[.slice Az pz.length cz, .int .i64 z.dc, .int .i64 z.n, .string z.s, .int .i64 z.v] 147)).drewN nq) := below_drewN ((Below.refl _ w3).alloc (Nat.le_refl _) _) nq
            have hg4 : ((w3.alloc (.cells #[.slice Az pz.length cz, .int .i64 z.dc, .int .i64 z.n, .string z.s, .int .i64 z.v] 147)).drewN nq).heap[w3.heap.size]? = some (.cells #[.slice Az pz.length cz, .int .i64 z.dc, .int .i64 z.n, .string z.s, .int .i64 z.v] 147) := by rw [World.heap_drewN]; exact heap_new rfl
            generalize ((w3.alloc (.cells #[.slice Az pz.length cz, .int .i64 z.dc, .int .i64 z.n, .string z.s, .int .i64 z.v] 147)).drewN nq) = w4 at *
            have hb4' : Below w2.heap.size w2 w4 := hb3'.trans (hb4.mono (by omega))
            have hown4 := hown3.grow LfA.mon hb4
            have hs4 : w3.heap.size < w4.heap.size := lt_of_block hg4
            have b0 := cell_cells (i := 0) hg4
            have b1 := cell_cells (i := 1) hg4
            have b2 := cell_cells (i := 2) hg4
            have b3 := cell_cells (i := 3) hg4
            have b4 := cell_cells (i := 4) hg4
            simp only [List.getElem?_toArray, List.getElem?_cons_zero, List.getElem?_cons_succ] at b0 b1 b2 b3 b4
            clear hown3 f0 f1 f2 f3 f4 e0 e1 e2 e3 e4 hg4 hbp3 hbn3
            obtain ⟨⟨f0, f1, f2, f3, f4⟩, hp4, q8, hB4⟩ := HE.out w4 hb4'
            have hbp4 : bp < w4.heap.size := by omega
            have hbn4 : bp ≠ w4.heap.size := by omega
            go_wp2_with fail
            go_quiet (fail)
            have hbW : Below w4.heap.size w4 (w4.drewN nq) := below_drewN (Below.refl _ _) nq
            generalize w4.drewN nq = w6 at *
            have hs6 := hbW.size
            have hb6' : Below w2.heap.size w2 w6 := hb4'.trans (hbW.mono (by omega))
            clear f0 f1 f2 f3 f4
            obtain ⟨⟨f0, f1, f2, f3, f4⟩, hpW, q9, hB6⟩ := HE.out w6 hb6'
            have hbp6 : bp < w6.heap.size := by omega
            have hbn6 : bp ≠ w6.heap.size := by omega
            have hzW := HOK.out
            go_wp2_with (at_builtin; go_loud ((refine wpList_d (v := u7) rfl (.tmp 88) (.tmp 93) _ rfl LfA.mon eiLeaf (by decide) (by decide) rfl ((hown4.grow LfA.mon hbW).grow LfA.mon ((Below.refl _ w6).alloc (Nat.le_refl _) (.cells #[.slice A7 (p).length c7, .int .i64 (x).dc, .int .i64 (x).n, .string (x).s, .int .i64 (x).v] 147))) rfl (lf_one (z := (p, x)) _ hpW hzW (fun g h => (hov g h).1) (by omega)) (HL.out (p, x)) (by simp; omega) ?_); intro v1 w7 hown7 hb7 _ _))
            go_roundw
            case rel => exact ⟨k + 1, by omega, by go_num, by rw [HTK.out, HOY.out]; exact hown7, ((hb4'.trans (hbW.mono (by omega))).alloc (by omega) _).trans hb7⟩
            case measure => simp [intOf]; omega
          · have hg3 : (z.v == x.v) = true := by simpa using hg2
            have hlt2 := ltS_gt x.s z.s
            cases hg4 : Op.bytesLess z.s.toList x.s.toList
            · cases hg5 : (z.s.toList == x.s.toList)
              · have HOY : Hid (outP Q cb (p, x) = [(pz, z)]) := by unfold Hid outP; rw [HF.out]; simp [gtE, hg1, hg2, hlt2, hg4, hg5]
                go_wp2_with fail
                go_quiet (fail)
                clear hg1 hg2 hg3 hg4 hg5 hlt2
                have hb4 : Below w3.heap.size w3 ((w3.alloc (.cells #[.slice Az pz.length cz, .int .i64 z.dc, .int .i64 z.n, .string z.s, .int .i64 z.v] 147)).drewN nq) := below_drewN ((Below.refl _ w3).alloc (Nat.le_refl _) _) nq
                have hg4 : ((w3.alloc (.cells #[.slice Az pz.length cz, .int .i64 z.dc, .int .i64 z.n, .string z.s, .int .i64 z.v] 147)).drewN nq).heap[w3.heap.size]? = some (.cells #[.slice Az pz.length cz, .int .i64 z.dc, .int .i64 z.n, .string z.s, .int .i64 z.v] 147) := by rw [World.heap_drewN]; exact heap_new rfl
                generalize ((w3.alloc (.cells #[.slice Az pz.length cz, .int .i64 z.dc, .int .i64 z.n, .string z.s, .int .i64 z.v] 147)).drewN nq) = w4 at *
                have hb4' : Below w2.heap.size w2 w4 := hb3'.trans (hb4.mono (by omega))
                have hown4 := hown3.grow LfA.mon hb4
                have hs4 : w3.heap.size < w4.heap.size := lt_of_block hg4
                have b0 := cell_cells (i := 0) hg4
                have b1 := cell_cells (i := 1) hg4
                have b2 := cell_cells (i := 2) hg4
                have b3 := cell_cells (i := 3) hg4
                have b4 := cell_cells (i := 4) hg4
                simp only [List.getElem?_toArray, List.getElem?_cons_zero, List.getElem?_cons_succ] at b0 b1 b2 b3 b4
                clear hown3 f0 f1 f2 f3 f4 e0 e1 e2 e3 e4 hg4 hbp3 hbn3
                obtain ⟨⟨f0, f1, f2, f3, f4⟩, hp4, q8, hB4⟩ := HE.out w4 hb4'
                have hbp4 : bp < w4.heap.size := by omega
                have hbn4 : bp ≠ w4.heap.size := by omega
                have hbW : Below w4.heap.size w4 w4 := Below.refl _ _
                have hpW : SlA w4 (fun b => b < w2.heap.size) 1 StE (.slice Az pz.length cz) pz := HZ.out.up (fun b hb => (hb4.block b (by omega)).trans (hb3.block b (by omega))) (fun _ h => h) (fun _ _ _ h => h)
                have hzW := HZO.out
                go_wp2_with (at_builtin; go_loud ((refine wpList_d (v := u7) rfl (.tmp 71) (.tmp 73) _ rfl LfA.mon eiLeaf (by decide) (by decide) rfl ((hown4.grow LfA.mon hbW).grow LfA.mon ((Below.refl _ w4).alloc (Nat.le_refl _) (.cells #[.slice Az (pz).length cz, .int .i64 (z).dc, .int .i64 (z).n, .string (z).s, .int .i64 (z).v] 147))) rfl (lf_one (z := (pz, z)) _ hpW hzW (fun g h => (hov g h).1) (by omega)) (HL.out (pz, z)) (by simp; omega) ?_); intro v1 w7 hown7 hb7 _ _))
                go_roundw
                case rel => exact ⟨k + 1, by omega, by go_num, by rw [HTK.out, HOY.out]; exact hown7, ((hb4'.trans (hbW.mono (by omega))).alloc (by omega) _).trans hb7⟩
                case measure => simp [intOf]; omega
              · have HOY : Hid (outP Q cb (p, x) = [(p, x)]) := by unfold Hid outP; rw [HF.out]; simp [gtE, hg1, hg2, hlt2, hg4, hg5]
                go_wp2_with fail
                go_quiet (fail)
                clear hg1 hg2 hg3 hg4 hg5 hlt2
                have hb4 : Below w3.heap.size w3 ((w3.alloc (.cells #[.slice Az pz.length cz, .int .i64 z.dc, .int .i64 z.n, .string z.s, .int .i64 z.v] 147)).drewN nq) := below_drewN ((Below.refl _ w3).alloc (Nat.le_refl _) _) nq
                have hg4 : ((w3.alloc (.cells #[.slice Az pz.length cz, .int .i64 z.dc, .int .i64 z.n, .string z.s, .int .i64 z.v] 147)).drewN nq).heap[w3.heap.size]? = some (.cells #[.slice Az pz.length cz, .int .i64 z.dc, .int .i64 z.n, .string z.s, .int .i64 z.v] 147) := by rw [World.heap_drewN]; exact heap_new rfl
                generalize ((w3.alloc (.cells #[.slice Az pz.length cz, .int .i64 z.dc, .int .i64 z.n, .string z.s, .int .i64 z.v] 147)).drewN nq) = w4 at *
                have hb4' : Below w2.heap.size w2 w4 := hb3'.trans (hb4.mono (by omega))
                have hown4 := hown3.grow LfA.mon hb4
                have hs4 : w3.heap.size < w4.heap.size := lt_of_block hg4
                have b0 := cell_cells (i := 0) hg4
                have b1 := cell_cells (i := 1) hg4
                have b2 := cell_cells (i := 2) hg4
                have b3 := cell_cells (i := 3) hg4
                have b4 := cell_cells (i := 4) hg4
                simp only [List.getElem?_toArray, List.getElem?_cons_zero, List.getElem?_cons_succ] at b0 b1 b2 b3 b4
                clear hown3 f0 f1 f2 f3 f4 e0 e1 e2 e3 e4 hg4 hbp3 hbn3
                obtain ⟨⟨f0, f1, f2, f3, f4⟩, hp4, q8, hB4⟩ := HE.out w4 hb4'
                have hbp4 : bp < w4.heap.size := by omega
                have hbn4 : bp ≠ w4.heap.size := by omega
                go_wp2_with fail
                go_quiet (fail)
                have hbW : Below w4.heap.size w4 (w4.drewN nq) := below_drewN (Below.refl _ _) nq
                generalize w4.drewN nq = w6 at *
                have hs6 := hbW.size
                have hb6' : Below w2.heap.size w2 w6 := hb4'.trans (hbW.mono (by omega))
                clear f0 f1 f2 f3 f4
                obtain ⟨⟨f0, f1, f2, f3, f4⟩, hpW, q9, hB6⟩ := HE.out w6 hb6'
                have hbp6 : bp < w6.heap.size := by omega
                have hbn6 : bp ≠ w6.heap.size := by omega
                have hzW := HOK.out
                go_wp2_with (at_builtin; go_loud ((refine wpList_d (v := u7) rfl (.tmp 88) (.tmp 93) _ rfl LfA.mon eiLeaf (by decide) (by decide) rfl ((hown4.grow LfA.mon hbW).grow LfA.mon ((Below.refl _ w6).alloc (Nat.le_refl _) (.cells #[.slice A7 (p).length c7, .int .i64 (x).dc, .int .i64 (x).n, .string (x).s, .int .i64 (x).v] 147))) rfl (lf_one (z := (p, x)) _ hpW hzW (fun g h => (hov g h).1) (by omega)) (HL.out (p, x)) (by simp; omega) ?_); intro v1 w7 hown7 hb7 _ _))
                go_roundw
                case rel => exact ⟨k + 1, by omega, by go_num, by rw [HTK.out, HOY.out]; exact hown7, ((hb4'.trans (hbW.mono (by omega))).alloc (by omega) _).trans hb7⟩
                case measure => simp [intOf]; omega
            · have HOY : Hid (outP Q cb (p, x) = [(p, x)]) := by unfold Hid outP; rw [HF.out]; simp [gtE, hg1, hg2, hlt2, hg4]
              go_wp2_with fail
              go_quiet (fail)
              clear hg1 hg2 hg3 hg4 hlt2
              have hb4 : Below w3.heap.size w3 ((w3.alloc (.cells #[.slice Az pz.length cz, .int .i64 z.dc, .int .i64 z.n, .string z.s, .int .i64 z.v] 147)).drewN nq) := below_drewN ((Below.refl _ w3).alloc (Nat.le_refl _) _) nq
              have hg4 : ((w3.alloc (.cells #[.slice Az pz.length cz, .int .i64 z.dc, .int .i64 z.n, .string z.s, .int .i64 z.v] 147)).drewN nq).heap[w3.heap.size]? = some (.cells #[.slice Az pz.length cz, .int .i64 z.dc, .int .i64 z.n, .string z.s, .int .i64 z.v] 147) := by rw [World.heap_drewN]; exact heap_new rfl
              generalize ((w3.alloc (.cells #[.slice Az pz.length cz, .int .i64 z.dc, .int .i64 z.n, .string z.s, .int .i64 z.v] 147)).drewN nq) = w4 at *
              have hb4' : Below w2.heap.size w2 w4 := hb3'.trans (hb4.mono (by omega))
              have hown4 := hown3.grow LfA.mon hb4
              have hs4 : w3.heap.size < w4.heap.size := lt_of_block hg4
              have b0 := cell_cells (i := 0) hg4
              have b1 := cell_cells (i := 1) hg4
              have b2 := cell_cells (i := 2) hg4
              have b3 := cell_cells (i := 3) hg4
              have b4 := cell_cells (i := 4) hg4
              simp only [List.getElem?_toArray, List.getElem?_cons_zero, List.getElem?_cons_succ] at b0 b1 b2 b3 b4
              clear hown3 f0 f1 f2 f3 f4 e0 e1 e2 e3 e4 hg4 hbp3 hbn3
              obtain ⟨⟨f0, f1, f2, f3, f4⟩, hp4, q8, hB4⟩ := HE.out w4 hb4'
              have hbp4 : bp < w4.heap.size := by omega
              have hbn4 : bp ≠ w4.heap.size := by omega
              go_wp2_with fail
              go_quiet (fail)
              have hbW : Below w4.heap.size w4 (w4.drewN nq) := below_drewN (Below.refl _ _) nq
              generalize w4.drewN nq = w6 at *
              have hs6 := hbW.size
              have hb6' : Below w2.heap.size w2 w6 := hb4'.trans (hbW.mono (by omega))
              clear f0 f1 f2 f3 f4
              obtain ⟨⟨f0, f1, f2, f3, f4⟩, hpW, q9, hB6⟩ := HE.out w6 hb6'
              have hbp6 : bp < w6.heap.size := by omega
              have hbn6 : bp ≠ w6.heap.size := by omega
              have hzW := HOK.out
              go_wp2_with (at_builtin; go_loud ((refine wpList_d (v := u7) rfl (.tmp 88) (.tmp 93) _ rfl LfA.mon eiLeaf (by decide) (by decide) rfl ((hown4.grow LfA.mon hbW).grow LfA.mon ((Below.refl _ w6).alloc (Nat.le_refl _) (.cells #[.slice A7 (p).length c7, .int .i64 (x).dc, .int .i64 (x).n, .string (x).s, .int .i64 (x).v] 147))) rfl (lf_one (z := (p, x)) _ hpW hzW (fun g h => (hov g h).1) (by omega)) (HL.out (p, x)) (by simp; omega) ?_); intro v1 w7 hown7 hb7 _ _))
              go_roundw
              case rel => exact ⟨k + 1, by omega, by go_num, by rw [HTK.out, HOY.out]; exact hown7, ((hb4'.trans (hbW.mono (by omega))).alloc (by omega) _).trans hb7⟩
              case measure => simp [intOf]; omega
        · have HOY : Hid (outP Q cb (p, x) = [(pz, z)]) := by unfold Hid outP; rw [HF.out]; simp [gtE, hg1]
          go_wp2_with fail
          go_quiet (fail)
          clear hg1
          have hb4 : Below w3.heap.size w3 ((w3.alloc (.cells #[.slice Az pz.length cz, .int .i64 z.dc, .int .i64 z.n, .string z.s, .int .i64 z.v] 147)).drewN nq) := below_drewN ((Below.refl _ w3).alloc (Nat.le_refl _) _) nq
          have hg4 : ((w3.alloc (.cells #[.slice Az pz.length cz, .int .i64 z.dc, .int .i64 z.n, .string z.s, .int .i64 z.v] 147)).drewN nq).heap[w3.heap.size]? = some (.cells #[.slice Az pz.length cz, .int .i64 z.dc, .int .i64 z.n, .string z.s, .int .i64 z.v] 147) := by rw [World.heap_drewN]; exact heap_new rfl
          generalize ((w3.alloc (.cells #[.slice Az pz.length cz, .int .i64 z.dc, .int .i64 z.n, .string z.s, .int .i64 z.v] 147)).drewN nq) = w4 at *
          have hb4' : Below w2.heap.size w2 w4 := hb3'.trans (hb4.mono (by omega))
          have hown4 := hown3.grow LfA.mon hb4
          have hs4 : w3.heap.size < w4.heap.size := lt_of_block hg4
          have b0 := cell_cells (i := 0) hg4
          have b1 := cell_cells (i := 1) hg4
          have b2 := cell_cells (i := 2) hg4
          have b3 := cell_cells (i := 3) hg4
          have b4 := cell_cells (i := 4) hg4
          simp only [List.getElem?_toArray, List.getElem?_cons_zero, List.getElem?_cons_succ] at b0 b1 b2 b3 b4
          clear hown3 f0 f1 f2 f3 f4 e0 e1 e2 e3 e4 hg4 hbp3 hbn3
          obtain ⟨⟨f0, f1, f2, f3, f4⟩, hp4, q8, hB4⟩ := HE.out w4 hb4'
          have hbp4 : bp < w4.heap.size := by omega
          have hbn4 : bp ≠ w4.heap.size := by omega
          have hbW : Below w4.heap.size w4 w4 := Below.refl _ _
          have hpW : SlA w4 (fun b => b < w2.heap.size) 1 StE (.slice Az pz.length cz) pz := HZ.out.up (fun b hb => (hb4.block b (by omega)).trans (hb3.block b (by omega))) (fun _ h => h) (fun _ _ _ h => h)
          have hzW := HZO.out
          go_wp2_with (at_builtin; go_loud ((refine wpList_d (v := u7) rfl (.tmp 71) (.tmp 73) _ rfl LfA.mon eiLeaf (by decide) (by decide) rfl ((hown4.grow LfA.mon hbW).grow LfA.mon ((Below.refl _ w4).alloc (Nat.le_refl _) (.cells #[.slice Az (pz).length cz, .int .i64 (z).dc, .int .i64 (z).n, .string (z).s, .int .i64 (z).v] 147))) rfl (lf_one (z := (pz, z)) _ hpW hzW (fun g h => (hov g h).1) (by omega)) (HL.out (pz, z)) (by simp; omega) ?_); intro v1 w7 hown7 hb7 _ _))
          go_roundw
          case rel => exact ⟨k + 1, by omega, by go_num, by rw [HTK.out, HOY.out]; exact hown7, ((hb4'.trans (hbW.mono (by omega))).alloc (by omega) _).trans hb7⟩
          case measure => simp [intOf]; omega
    · obtain rfl : k = P.length := by omega
      rw [List.take_of_length_le (Nat.le_refl _)] at hown
      have hownP := hid hown
      have hbP := hid hb
      have hpl := flatL_len (outP Q cb) (outP_len Q cb) P
      clear hown
      go_wp2_with fail
      clear hk hlt
      obtain ⟨wo, hwo⟩ : ∃ z : World, z = wr := ⟨_, rfl⟩
      subst hwo
      go_loopw [7, 98] (fun v i wr => ∃ k : Nat, k ≤ Q.length ∧ i = .int .i64 k ∧ OwnD wr w2.heap.size 147 5 LfA (fun b => b < w2.heap.size) v (P.flatMap (outP Q cb) ++ (Q.take k).flatMap (outQ P ca)) ∧ Below w2.heap.size w2 wr) (fun _ i _ => Q.length - (intOf i).toNat)
      case atStart => exact ⟨0, Nat.zero_le _, rfl, by simpa using hownP.out, hbP.out⟩
      case round =>
        obtain ⟨k, hk, rfl, hown, hb⟩ := hrel
        have hsz := hb.size
        by_cases hlt : k < Q.length
        · obtain ⟨⟨p, x⟩, hx⟩ : ∃ x, Q[k]? = some x := ⟨_, List.getElem?_eq_getElem hlt⟩
          obtain ⟨A, m, hv, c1, c2, c3⟩ := id HQ.out
          cases hv
          obtain ⟨bp, op, rfl, hbB, hc⟩ := c3 (by rintro rfl; simp at hlt)
          obtain ⟨cs, ⟨A7, c7, rfl, hp, hok⟩, _, hu⟩ := hc k _ hx
          have HE : Hid (∀ W, Below w2.heap.size w2 W → (W.cell? ⟨bp, op + k * 5, none⟩ = some (.slice A7 p.length c7) ∧ W.cell? ⟨bp, op + k * 5 + 1, none⟩ = some (.int .i64 x.dc) ∧ W.cell? ⟨bp, op + k * 5 + 2, none⟩ = some (.int .i64 x.n) ∧ W.cell? ⟨bp, op + k * 5 + 3, none⟩ = some (.string x.s) ∧ W.cell? ⟨bp, op + k * 5 + 4, none⟩ = some (.int .i64 x.v)) ∧ SlA W (fun b => b < w2.heap.size) 1 StE (.slice A7 p.length c7) p ∧ W.cell? ⟨w.heap.size, 2, none⟩ = some (.slice A5 ca.length n5) ∧ Below w.heap.size w W) := fun W hW =>
            ⟨⟨(hW.cell hbB).trans (hu 0 _ rfl), (hW.cell hbB).trans (hu 1 _ rfl), (hW.cell hbB).trans (hu 2 _ rfl), (hW.cell hbB).trans (hu 3 _ rfl), (hW.cell hbB).trans (hu 4 _ rfl)⟩, hp.up (fun b hb => hW.block b hb) (fun _ h => h) (fun _ _ _ h => h), (HX.out W (hbk2.out.trans (hW.mono hs2))).2.2.2.2.2.1, (HX.out W (hbk2.out.trans (hW.mono hs2))).1⟩
          obtain ⟨⟨e0, e1, e2, e3, e4⟩, hp', q5, hB⟩ := HE.out wr hb
          have HOK := hid hok
          have HTK := hid (outP_take hx (outQ P ca))
          have hle := flatL_len (outQ P ca) (outQ_len P ca) (Q.take k)
          rw [List.length_take] at hle
          have HL : Hid (∀ z : Lf, (P.flatMap (outP Q cb) ++ (Q.take k).flatMap (outQ P ca)).length + [z].length ≤ Few) := fun z => by unfold Few; rw [List.length_singleton, List.length_append]; omega
          have HJS : Hid (∀ l : List Lf, P.flatMap (outP Q cb) ++ ((Q.take k).flatMap (outQ P ca) ++ l) = (P.flatMap (outP Q cb) ++ (Q.take k).flatMap (outQ P ca)) ++ l) := fun l => (List.append_assoc _ _ _).symm
          generalize P.flatMap (outP Q cb) ++ (Q.take k).flatMap (outQ P ca) = js at *
          have hov := hown.lt
          clear hu hc c3 hx hok hp
          go_wp2_with fail
          refine (find_any (fun b => b < w2.heap.size) P (p, x) _ A7 c7 wr (fun b hb => Nat.lt_of_lt_of_le hb hsz) (slLf HP.out hb (fun _ h => h) fun _ h => h) (hp'.up (fun _ _ => rfl) (fun b hb => Nat.lt_of_lt_of_le hb hsz) fun _ _ _ h => h)).mono ?_
          rintro e w3 ⟨Az, cz, rfl, hz, hzok, hb3⟩
          obtain ⟨pz, z⟩ := fndZ P (p, x)
          simp only at hz hzok ⊢
          clear hz hzok
          have hb3' : Below w2.heap.size w2 w3 := hb.trans (hb3.mono hsz)
          have hs3 := hb3.size
          obtain ⟨⟨f0, f1, f2, f3, f4⟩, hp3, q6, hB3⟩ := HE.out w3 hb3'
          have hown3 := hown.grow LfA.mon hb3
          have hbp3 : bp < w3.heap.size := by omega
          have hbn3 : bp ≠ w3.heap.size := by omega
          have hq2 : w.heap.size < w3.heap.size := by have := hB3.size; have := (HX.out _ hbk2.out).2.2.1; omega
          have hq2' : w.heap.size ≠ w3.heap.size := by omega
          cases hf : findL P (p, x) with
          | none =>
            have HF := hid hf
            clear hf
            simp only [Option.isSome_none]
            go_upto_region 16 with (fail)
            have hb4 : Below w3.heap.size w3 (w3.alloc (.cells #[.slice Az pz.length cz, .int .i64 z.dc, .int .i64 z.n, .string z.s, .int .i64 z.v] 147)) := (Below.refl _ w3).alloc (Nat.le_refl _) _
            have hb4s : w3.heap.size < (w3.alloc (.cells #[.slice Az pz.length cz, .int .i64 z.dc, .int .i64 z.n, .string z.s, .int .i64 z.v] 147)).heap.size := by simp
            generalize (w3.alloc (.cells #[.slice Az pz.length cz, .int .i64 z.dc, .int .i64 z.n, .string z.s, .int .i64 z.v] 147)) = w4 at *
            have hb4' : Below w2.heap.size w2 w4 := hb3'.trans (hb4.mono (by omega))
            have hown4 := hown3.grow LfA.mon hb4
            have hs4 : w3.heap.size < w4.heap.size := hb4s
            clear hown3 f0 f1 f2 f3 f4 e0 e1 e2 e3 e4 hbp3 hbn3
            obtain ⟨⟨f0, f1, f2, f3, f4⟩, hp4, q8, hB4⟩ := HE.out w4 hb4'
            have hbp4 : bp < w4.heap.size := by omega
            have hbn4 : bp ≠ w4.heap.size := by omega
            cases hh : hasC ca x.dot
            · have HH := hid hh
              have HOY : Hid (outQ P ca (p, x) = [(p, x)]) := by unfold Hid outQ; rw [HF.out]; simp [hh]
              clear hh
              have f7 : w4.cell? ⟨bp, op + k * 5 + 1 + 1, none⟩ = some (.int .i64 x.n) := f2
              go_region_held3 (fun W => W.cell? ⟨w.heap.size, 2, none⟩ = some (.slice A5 ca.length n5) ∧ W.cell? ⟨bp, op + k * 5 + 1, none⟩ = some (.int .i64 x.dc) ∧ W.cell? ⟨bp, op + k * 5 + 1 + 1, none⟩ = some (.int .i64 x.n))
                (go_keep)
                (first | (go_at_call 92; go_loud ((refine (r07has_any ca x.dot _ _ (HCA.out _ (HE.out _ (hb4'.drew)).2.2.2) (by omega)).mono ?_); rw [HH.out]; rintro e w6 ⟨rfl, hb6⟩; have hbW : Below w4.heap.size w4 w6 := (Below.refl _ w4).drew.trans (hb6.mono (by simp)); have HBW := hid hbW; obtain ⟨⟨f0, f1, f2, f3, f4⟩, hpW, q9, hB6⟩ := HE.out w6 (hb4'.trans (hbW.mono (by omega))); have f7 : w6.cell? ⟨bp, op + k * 5 + 1 + 1, none⟩ = some (.int .i64 x.n) := f2; have hs6 := hbW.size; have hbp6 : bp < w6.heap.size := (by omega); have hbn6 : bp ≠ w6.heap.size := (by omega))))
              have hzW := HOK.out
              go_wp2_with (at_builtin; go_loud ((refine wpList_d (v := u7) rfl (.tmp 124) (.tmp 129) _ rfl LfA.mon eiLeaf (by decide) (by decide) rfl ((hown4.grow LfA.mon hbW).grow LfA.mon ((Below.refl _ w6).alloc (Nat.le_refl _) (.cells #[.slice A7 (p).length c7, .int .i64 (x).dc, .int .i64 (x).n, .string (x).s, .int .i64 (x).v] 147))) rfl (lf_one (z := (p, x)) _ hpW hzW (fun g h => (hov g h).1) (by omega)) (HL.out (p, x)) (by simp; omega) ?_); intro v1 w7 hown7 hb7 _ _))
              go_roundw
              case rel => exact ⟨k + 1, by omega, by go_num, by rw [HTK.out, HOY.out, HJS.out]; exact hown7, ((hb4'.trans (hbW.mono (by omega))).alloc (by omega) _).trans hb7⟩
              case measure => simp [intOf]; omega
            · have HH := hid hh
              have HOY : Hid (outQ P ca (p, x) = []) := by unfold Hid outQ; rw [HF.out]; simp [hh]
              clear hh
              have f7 : w4.cell? ⟨bp, op + k * 5 + 1 + 1, none⟩ = some (.int .i64 x.n) := f2
              go_region_held3 (fun W => W.cell? ⟨w.heap.size, 2, none⟩ = some (.slice A5 ca.length n5) ∧ W.cell? ⟨bp, op + k * 5 + 1, none⟩ = some (.int .i64 x.dc) ∧ W.cell? ⟨bp, op + k * 5 + 1 + 1, none⟩ = some (.int .i64 x.n))
                (go_keep)
                (first | (go_at_call 92; go_loud ((refine (r07has_any ca x.dot _ _ (HCA.out _ (HE.out _ (hb4'.drew)).2.2.2) (by omega)).mono ?_); rw [HH.out]; rintro e w6 ⟨rfl, hb6⟩; have hbW : Below w4.heap.size w4 w6 := (Below.refl _ w4).drew.trans (hb6.mono (by simp)); have HBW := hid hbW; obtain ⟨⟨f0, f1, f2, f3, f4⟩, hpW, q9, hB6⟩ := HE.out w6 (hb4'.trans (hbW.mono (by omega))); have f7 : w6.cell? ⟨bp, op + k * 5 + 1 + 1, none⟩ = some (.int .i64 x.n) := f2; have hs6 := hbW.size; have hbp6 : bp < w6.heap.size := (by omega); have hbn6 : bp ≠ w6.heap.size := (by omega))))
              go_wp2_with fail
              go_roundw
              case rel => exact ⟨k + 1, by omega, by go_num, by rw [HTK.out, HOY.out, HJS.out, List.append_nil]; exact hown4.grow LfA.mon hbW, hb4'.trans (hbW.mono (by omega))⟩
              case measure => simp [intOf]; omega
          | some y =>
            have HOY : Hid (outQ P ca (p, x) = []) := by unfold Hid outQ; rw [hf]
            clear hf
            simp only [Option.isSome_some]
            go_wp2_with fail
            go_quiet (fail)
            go_wp2_with fail
            go_roundw
            case rel => exact ⟨k + 1, by omega, by go_num, by rw [HTK.out, HOY.out, HJS.out, List.append_nil]; exact hown3.grow LfA.mon (below_drewN ((Below.refl _ w3).alloc (Nat.le_refl _) _) nq), hb3'.trans ((below_drewN ((Below.refl _ w3).alloc (Nat.le_refl _) _) nq).mono (by omega))⟩
            case measure => simp [intOf]; omega
        · obtain rfl : k = Q.length := by omega
          rw [List.take_of_length_le (Nat.le_refl _)] at hown
          rw [← HR9.out] at hown
          have hqq := flatL_len (outQ P ca) (outQ_len P ca) Q
          have hln : (r9L P Q ca cb).length ≤ 90000 := by rw [HR9.out, List.length_append]; omega
          obtain ⟨Ao, co, hvo⟩ := OwnP.shape hown
          subst hvo
          have HO : Hid (SlP wr wr.heap.size 5 (LfA wr (fun b => b < wr.heap.size)) (.slice Ao (r9L P Q ca cb).length co) (r9L P Q ca cb)) := slLf (hown.sl LfA.mon (by unfold Big; omega)) (Below.refl _ _) (fun b hb => hb.2) (fun b hb => hb.2)
          have hbw := hid (hbk2.out.trans (hb.mono hs2))
          have hsw := (HX.out _ hbw.out).2.2.1
          obtain ⟨q0, q1, q2, q3, q4, q5⟩ := (HX.out _ hbw.out).2.2.2
          have HLN := hid hln
          clear hown hln hqq q0 q1 q3 q4
          go_upto_region 19 with (fail)
          go_region_held3 (fun w' => w'.cell? ⟨w.heap.size, 2, none⟩ = some (.slice A5 ca.length n5) ∧ w'.cell? ⟨w.heap.size + 1, 2, none⟩ = some (.slice A6 cb.length n6))
            (first | go_keep | (have hq := (HX.out _ hbv.out).2.2.2; exact ⟨hq.2.2.1, hq.2.2.2.2.2⟩) | (have hq := (HX.out _ hbu.out).2.2.2; exact ⟨hq.2.2.1, hq.2.2.2.2.2⟩) | fail)
            (first | (go_at_call 113; go_loud ((refine (r07union_any ca cb _ _ wu (HCA.out _ (HX.out _ hbu.out).1) (HCB.out _ (HX.out _ hbu.out).1) (by omega) (by omega) HR1.out HR2.out).mono ?_); rintro e wv ⟨v2, rfl, ho2, hb2⟩; obtain ⟨A8, c8, hv8⟩ := ho2.shape; subst hv8; have HO2 := hid ho2; have hbv := hid (hbu.out.trans (hb2.mono (HX.out _ hbu.out).2.2.1)); have HG2 := hid (HX.out _ hbv.out).2.1; have k0 : wv.cell? ⟨w.heap.size + 2, 0, none⟩ = some (.slice none 0 0) := cell_cells (i := 0) HG2.out; have k1 : wv.cell? ⟨w.heap.size + 2, 1, none⟩ = some (.slice none 0 0) := cell_cells (i := 1) HG2.out; have k2 : wv.cell? ⟨w.heap.size + 2, 2, none⟩ = some (.slice none 0 0) := cell_cells (i := 2) HG2.out; have z0 := cells_frz (i := 0) HG2.out; have z1 := cells_frz (i := 1) HG2.out; have z2 := cells_frz (i := 2) HG2.out; have HB2 := hid hb2; clear ho2 hb2))
                   | (go_at_call 112; go_loud ((refine (r08buildL_any (r9L P Q ca cb) _ _ (slLf HO.out (Below.refl _ wr).drew (fun _ h => h) (fun b h => by simpa using h)) (by have := HLN.out; omega)).mono ?_); rintro e wu ⟨ve1, vk1, rfl, hrd1, hb1⟩; obtain ⟨Av, nv, Aw, nw, hv1, hv2⟩ := rda_shape hrd1; subst hv1; subst hv2; have HR := hid hrd1; have hbu := hid (hbw.out.trans (Below.trans ((Below.refl _ wr).drew) (hb1.mono (by simpa using hsw)))); clear hrd1 hb1)))
          all_goals (
            go_wp2_with fail
            have hs3 : w.heap.size + 3 ≤ wv.heap.size := (HX.out _ hbv.out).2.2.1
            have hs4 : w.heap.size + 3 ≤ wu.heap.size := (HX.out _ hbu.out).2.2.1
            have hs12 := HB2.out.size
            obtain ⟨r0, r1, r2, hK, hS⟩ := box3 HG2.out (.slice Av (buildL (r9L P Q ca cb)).es.length nv) (.slice Aw (buildL (r9L P Q ca cb)).ks.length nw) (.slice A8 (ctxBy ca cb 0).length c8)
            have hBW : Below w.heap.size w (((wv.setCell ⟨w.heap.size + 2, 0, none⟩ (.slice Av (buildL (r9L P Q ca cb)).es.length nv)).setCell ⟨w.heap.size + 2, 1, none⟩ (.slice Aw (buildL (r9L P Q ca cb)).ks.length nw)).setCell ⟨w.heap.size + 2, 2, none⟩ (.slice A8 (ctxBy ca cb 0).length c8)) := (((HX.out _ hbv.out).1.setCell (by simp) _).setCell (by simp) _).setCell (by simp) _
            clear k0 k1 k2 z0 z1 z2
            generalize (((wv.setCell ⟨w.heap.size + 2, 0, none⟩ (.slice Av (buildL (r9L P Q ca cb)).es.length nv)).setCell ⟨w.heap.size + 2, 1, none⟩ (.slice Aw (buildL (r9L P Q ca cb)).ks.length nw)).setCell ⟨w.heap.size + 2, 2, none⟩ (.slice A8 (ctxBy ca cb 0).length c8)) = W at *
            refine bodyPost_ret (v := .agg #[.slice Av (buildL (r9L P Q ca cb)).es.length nv, .slice Aw (buildL (r9L P Q ca cb)).ks.length nw, .slice A8 (ctxBy ca cb 0).length c8]) (by simp [results, Tryz.results29, go_sem, r0, r1, r2]) rfl ⟨_, _, _, rfl, ?_, ?_, hBW⟩
            · exact rda_up (fun b hb => (hK b (by have := hb.1; simp only [World.size_drew] at this; omega)).trans (HB2.out.block b hb.2)) (fun b hb => ⟨by have := hb.1; simp only [World.size_drew] at this; omega, by have := hb.2; omega⟩) _ _ _ HR.out
            · exact (HO2.out.sla HUL.out).up (fun b hb => hK b (by have := hb.1; omega)) (fun b hb => ⟨by have := hb.1; omega, by have := hb.2.1; omega⟩) (fun _ _ _ h => h))
end Go.Proofs.YtmphgnjodangcaaGreat

namespace Go.Proofs.YtmphgnjodangcaaGreat
open Go.RowKit
set_option maxRecDepth 100000

theorem r9_jn {x y : Kn} (hx : KOk x) (hy : KOk y) : buildL (r9L (x.1.lvs []) (y.1.lvs []) x.2 y.2) = (jn x y).1 := r9L_build hx.ord hy.ord hx.ap hy.ap hx.dep hy.dep
theorem CaE.up {w w' : World} {B B' : Nat} {x : Kn} {cs : List Value} (h : CaE w B x cs) (hb : Below B w w') (hB : B ≤ B') : CaE w' B' x cs := by
  obtain ⟨ve, vk, vc, h1, h2, h3⟩ := h
  exact ⟨ve, vk, vc, h1, rd_below hb hB _ _ _ h2, h3.imp hb hB fun _ _ _ h => h⟩
theorem CaE.one {w : World} {B : Nat} {x : Kn} {cs : List Value} (h : CaE w B x cs) : ∀ u ∈ cs, u.oneCell' = true := by
  obtain ⟨ve, vk, vc, rfl, h2, A, c, rfl, _⟩ := h
  obtain ⟨A3, n3, A4, n4, rfl, rfl⟩ := rd_shape h2
  simp [Value.oneCell']
theorem eiCau : ElemInfo Tryz.prog 22 31 3 72 := ElemInfo.mk (z := .agg #[.slice none 0 0, .slice none 0 0, .slice none 0 0]) Tryz.underlying22 (by kernel_rfl) rfl
/-- What is known lies in cells that say so of a world that was. -/
def CaW (w : World) (_ : World) (_ : Nat → Prop) (x : Kn) (cs : List Value) : Prop := CaE w w.heap.size x cs
theorem CaW.mon (w : World) : Emon (CaW w) where
  up := fun _ _ h => h
  one := fun h => CaE.one h
theorem all_rev (l : List Kn) : jaE l.reverse = jaE l ∧ jaR l.reverse = jaR l := by
  have hp : l.reverse.Perm l := List.reverse_perm l
  exact ⟨by unfold jaE; rw [jaK_perm hp], jaR_perm hp⟩
theorem all_small {l : List Kn} (h : ∀ (j : Nat) x, l[j]? = some x → sml9 x.1 x.2 40 = true) (hl : l.length ≤ 8) : (l.map fun x => x.1.sz).sum ≤ 4000 ∧ (l.map fun x => x.2.length).sum ≤ 20000 ∧ ∀ x ∈ l, x.1.sz ≤ 40 ∧ x.2.length ≤ 40 := by
  have hm : ∀ x ∈ l, x.1.sz ≤ 40 ∧ x.2.length ≤ 40 := fun x hx => by
    obtain ⟨j, hj⟩ := List.getElem?_of_mem hx
    exact sml9_sz (h j x hj)
  have hsum : ∀ (f : Kn → Nat) (l : List Kn), (∀ x ∈ l, f x ≤ 40) → (l.map f).sum ≤ l.length * 40 := fun f l => by
    induction l with
    | nil => intro _; simp
    | cons x l ih =>
      intro hx
      have h1 := ih fun y hy => hx y (by simp [hy])
      have h2 := hx x (by simp)
      simp only [List.map_cons, List.sum_cons, List.length_cons, Nat.add_mul]; omega
  have h1 := hsum (fun x => x.1.sz) l fun x hx => (hm x hx).1
  have h2 := hsum (fun x => x.2.length) l fun x hx => (hm x hx).2
  exact ⟨by omega, by omega, hm⟩
theorem sum_rev (f : Kn → Nat) (l : List Kn) : (l.reverse.map f).sum = (l.map f).sum := by
  rw [List.map_reverse, List.sum_reverse]
theorem tk_sz {l : List Kn} {k : Nat} (hm : ∀ x ∈ l.take k, x.1.sz ≤ 40 ∧ x.2.length ≤ 40) (hl : l.length ≤ 8) (h : jaK (l.take k) = true) : KOk (jnL (l.take k)) ∧ (jnL (l.take k)).1.sz ≤ 320 ∧ (jnL (l.take k)).2.length ≤ 320 := by
  have h1 := jaK_iff.1 h
  have h2 := foldl_sz (l.take k) kn0 kn0_ok h1
  have hsum : ∀ (f : Kn → Nat) (l : List Kn), (∀ x ∈ l, f x ≤ 40) → (l.map f).sum ≤ l.length * 40 := fun f l => by
    induction l with
    | nil => intro _; simp
    | cons x l ih =>
      intro hx
      have h1 := ih fun y hy => hx y (by simp [hy])
      have h2 := hx x (by simp)
      simp only [List.map_cons, List.sum_cons, List.length_cons, Nat.add_mul]; omega
  have hl' : (l.take k).length ≤ 8 := by rw [List.length_take]; omega
  have h3 := hsum (fun x => x.1.sz) (l.take k) fun x hx => (hm x hx).1
  have h4 := hsum (fun x => x.2.length) (l.take k) fun x hx => (hm x hx).2
  have e1 : kn0.1.sz = 0 := rfl
  have e2 : kn0.2.length = 0 := rfl
  exact ⟨jnL_ok h1, by unfold jnL; omega, by unfold jnL; omega⟩
end Go.Proofs.YtmphgnjodangcaaGreat

namespace Go.Proofs.YtmphgnjodangcaaGreat
open Go.RowKit
set_option maxRecDepth 100000

def T9 : Tr := .mk [⟨1, 1, ByteArray.empty, 0⟩] []
def C9 : List Sp := [⟨1, 1, 1⟩]
theorem jn9_ok : (caR T9 C9 && caR (.mk [] []) []) = true := by kernel_rfl
theorem jn9_T : jnT T9 (.mk [] []) C9 [] = T9 := by
  unfold jnT; rw [jn9_ok, if_pos rfl, joinT]
  have h1 : entL C9 [] T9.es (Tr.mk [] []).es = T9.es := by
    show entL C9 [] [⟨1, 1, ByteArray.empty, 0⟩] [] = _
    rw [entL, entL]; rfl
  have h2 : joinK T9 (.mk [] []) = [] := by simp [joinK, T9, Tr.ks, srtL, cmpL, Lib.compact, Lib.compactUpTo]
  rw [h1, h2]; rfl
theorem jn9_C : jnC T9 (.mk [] []) C9 [] = C9 := by
  unfold jnC; rw [jn9_ok, if_pos rfl]; kernel_rfl
set_option maxHeartbeats 4000000 in
theorem awake09_any (w : World) : Calls Tryz.prog 26 #[] w fun e w' => e = .returned (.bool true) ∧ Below w.heap.size w w' := by
  have HX : Hid (∀ W, Below (w.heap.size + 4) ((((w.alloc (.cells #[.int .i64 1, .int .i64 1] 54)).alloc (.cells #[.int .i64 1, .int .i64 1, .string ByteArray.empty, .int .i64 0] 142)).alloc (.cells #[.int .i64 1, .int .i64 1, .int .i64 1] 47)).alloc (.cells #[.slice (some ⟨w.heap.size + 1, 0, none⟩) 1 1, .slice none 0 0, .slice (some ⟨w.heap.size + 1 + 1, 0, none⟩) 1 1] 31)) W → Below w.heap.size w W ∧ T9.rd W W.heap.size (.slice (some ⟨w.heap.size + 1, 0, none⟩) 1 1) (.slice none 0 0) ∧ SlP W W.heap.size 3 SpE (.slice (some ⟨w.heap.size + 1 + 1, 0, none⟩) 1 1) C9 ∧ w.heap.size + 4 ≤ W.heap.size ∧ (W.cell? ⟨w.heap.size + 3, 0, none⟩ = some (.slice (some ⟨w.heap.size + 1, 0, none⟩) 1 1) ∧ W.cell? ⟨w.heap.size + 3, 1, none⟩ = some (.slice none 0 0) ∧ W.cell? ⟨w.heap.size + 3, 2, none⟩ = some (.slice (some ⟨w.heap.size + 1 + 1, 0, none⟩) 1 1))) := fun W hW => by
    have hs : w.heap.size + 4 ≤ W.heap.size := by have := hW.size; simpa using this
    have g1 : W.heap[w.heap.size + 1]? = some (.cells #[.int .i64 1, .int .i64 1, .string ByteArray.empty, .int .i64 0] 142 (0, 0)) := (hW.block _ (by omega)).trans ((heap_old (by simp <;> omega)).trans ((heap_old (by simp)).trans (heap_new (by simp))))
    have g2 : W.heap[w.heap.size + 1 + 1]? = some (.cells #[.int .i64 1, .int .i64 1, .int .i64 1] 47 (0, 0)) := (hW.block _ (by omega)).trans ((heap_old (by simp)).trans (heap_new (by simp)))
    have g3 : W.heap[w.heap.size + 3]? = some (.cells #[.slice (some ⟨w.heap.size + 1, 0, none⟩) 1 1, .slice none 0 0, .slice (some ⟨w.heap.size + 1 + 1, 0, none⟩) 1 1] 31 (0, 0)) := (hW.block _ (by omega)).trans (heap_new (by simp))
    refine ⟨(((((Below.refl _ w).alloc (Nat.le_refl _) _).alloc (by simp) _).alloc (by simp; omega) _).alloc (by simp; omega) _).trans (hW.mono (by omega)), ?_, ?_, hs, cell_cells (i := 0) g3, cell_cells (i := 1) g3, cell_cells (i := 2) g3⟩
    · exact rd_iff.2 ⟨SlA.one (x := (⟨1, 1, ByteArray.empty, 0⟩ : En)) (cs := [.int .i64 1, .int .i64 1, .string ByteArray.empty, .int .i64 0]) ⟨rfl, ⟨by decide, by decide⟩, ⟨by decide, by decide⟩, ⟨by decide, by decide⟩, by decide⟩ rfl g1 (by omega), SlP.nil⟩
    · exact SlA.one (x := (⟨1, 1, 1⟩ : Sp)) (cs := [.int .i64 1, .int .i64 1, .int .i64 1]) ⟨rfl, ⟨by decide, by decide⟩, ⟨by decide, by decide⟩, ⟨by decide, by decide⟩⟩ rfl g2 (by omega)
  have hE : jnE T9 (.mk [] []) C9 [] = 0 := by unfold jnE; rw [jn9_ok]; rfl
  have hT : jnT T9 (.mk [] []) C9 [] = T9 := jn9_T
  have hC : jnC T9 (.mk [] []) C9 [] = C9 := jn9_C
  have HR : Hid (caR T9 C9 = true) := by have := jn9_ok; rw [Bool.and_eq_true] at this; exact this.1
  have HZ : Hid (T9.sz ≤ 4000 ∧ C9.length ≤ 20000) := by unfold Hid; decide
  go_enter Tryz.func26, Tryz.ntmps26
  go_wp2_with fail
  have h1 := HX.out _ (Below.refl _ _)
  refine (cJoin_any C9 [] T9 (.mk [] []) _ _ _ _ _ _ ((((w.alloc (.cells #[.int .i64 1, .int .i64 1] 54)).alloc (.cells #[.int .i64 1, .int .i64 1, .string ByteArray.empty, .int .i64 0] 142)).alloc (.cells #[.int .i64 1, .int .i64 1, .int .i64 1] 47)).alloc (.cells #[.slice (some ⟨w.heap.size + 1, 0, none⟩) 1 1, .slice none 0 0, .slice (some ⟨w.heap.size + 1 + 1, 0, none⟩) 1 1] 31)) h1.2.1 rd_empty h1.2.2.1 SlP.nil HZ.out.1 (by decide) HZ.out.2 (by decide)).mono ?_
  rw [hE, hT, hC]
  rintro e w1 ⟨ve, vk, vc, rfl, hrd, hsc, hb1⟩
  clear h1 hE hT hC
  generalize T9 = T at *
  generalize C9 = C at *
  obtain ⟨Ae, ne, Ak, nk, rfl, rfl⟩ := rda_shape hrd
  obtain ⟨Ac, nc, rfl⟩ := hsc.shape
  have hbk1 := hid (hb1.mono (show w.heap.size + 4 ≤ _ by simp))
  have HT : Hid (∀ w', Below w1.heap.size w1 w' → T.rd w' w'.heap.size (.slice Ae T.es.length ne) (.slice Ak T.ks.length nk)) := fun w' hb => rda_rd hrd (fun b hb => hb.2) hb
  have HCt : Hid (∀ w', Below w1.heap.size w1 w' → SlP w' w'.heap.size 3 SpE (.slice Ac C.length nc) C) := fun w' hb => hsc.slp (fun b hb => hb.2) hb
  obtain ⟨hB1, hr1, hc1, hs1, q0, q1, q2⟩ := HX.out w1 hbk1.out
  have hlt : w.heap.size + 3 < w1.heap.size := by omega
  have hne : w.heap.size + 3 ≠ w1.heap.size := by omega
  clear hrd hsc hb1 hr1 hc1
  go_wp2_with fail
  have hv1 := below_via (Below.refl _ (w1.alloc (.cells #[.slice Ae T.es.length ne, .slice Ak T.ks.length nk, .slice Ac C.length nc] 31)))
  have h2 := HX.out _ (hbk1.out.trans (hv1.mono hs1))
  have hSM : (trEq T T && decide (C = C)) = true := by simp [trEq]
  refine (r09same_any T T C C _ _ _ _ _ _ _ (HT.out _ hv1) h2.2.1 (HCt.out _ hv1) h2.2.2.1).mono ?_
  rw [hSM]
  rintro e w2 ⟨rfl, hb2⟩
  have hbk2 := hid (hbk1.out.trans ((hv1.trans (hb2.mono (by simp))).mono hs1))
  obtain ⟨hB2, hr2, hc2, hs2, q3, q4, q5⟩ := HX.out w2 hbk2.out
  clear h2 hv1 hSM hb2 q0 q1 q2
  go_wp2_with fail
  refine (caright_any T C _ _ _ w2 hr2 hc2 HZ.out.1 HZ.out.2).mono ?_
  rw [HR.out]
  rintro e w3 ⟨rfl, hb3⟩
  clear hr2 hc2
  go_wp2_with fail
  go_ret
  exact ⟨rfl, hB2.trans (hb3.mono (by omega))⟩
end Go.Proofs.YtmphgnjodangcaaGreat

namespace Go.Proofs.YtmphgnjodangcaaGreat
open Go.RowKit
set_option maxRecDepth 100000

/-- The box of what is joined so far; the rows that it leads to aren't the other list's own. -/
def CaBox (wr : World) (g : Nat) (v : Value) (l : List Kn) (k : Nat) : Prop :=
  ∃ X : Kn, ∃ ve vk vc, wr.heap[g]? = some (.cells #[ve, vk, vc] 31 (0, 0)) ∧ X.1.rda wr (fun b => g + 1 ≤ b ∧ b < wr.heap.size ∧ v.ownBlock ≠ some b) ve vk ∧ SlA wr (fun b => g + 1 ≤ b ∧ b < wr.heap.size ∧ v.ownBlock ≠ some b) 3 SpE vc X.2 ∧ (jaK (l.take k) = true → X = jnL (l.take k))
theorem jaK_no {l : List Kn} {k : Nat} (h : jaK (l.take k) = false) : jaK (l.take (k + 1)) = false := by
  unfold jaK at *
  rw [List.all_eq_false] at *
  obtain ⟨x, hx, hc⟩ := h
  refine ⟨x, ?_, hc⟩
  rw [List.take_add_one]
  exact List.mem_append_left _ hx
theorem CaBox.up {wr w' : World} {g : Nat} {v v' : Value} {l : List Kn} {k k' : Nat} (h : CaBox wr g v l k) (hg : w'.heap[g]? = wr.heap[g]?) (hk : ∀ b, b < wr.heap.size → v.ownBlock ≠ some b → w'.heap[b]? = wr.heap[b]?) (hs : wr.heap.size ≤ w'.heap.size)
    (ho : ∀ b, b < wr.heap.size → v.ownBlock ≠ some b → v'.ownBlock ≠ some b) (hj : jaK (l.take k') = true → jaK (l.take k) = true ∧ jnL (l.take k) = jnL (l.take k')) : CaBox w' g v' l k' := by
  obtain ⟨X, ve, vk, vc, h1, h2, h3, h4⟩ := h
  exact ⟨X, ve, vk, vc, hg.trans h1, rda_up (fun b hb => hk b hb.2.1 hb.2.2) (fun b hb => ⟨hb.1, by omega, ho b hb.2.1 hb.2.2⟩) _ _ _ h2, h3.up (fun b hb => hk b hb.2.1 hb.2.2) (fun b hb => ⟨hb.1, by omega, ho b hb.2.1 hb.2.2⟩) (fun _ _ _ h => h), fun h => by rw [h4 (hj h).1, (hj h).2]⟩
theorem OwnD.keepW {w wr w' : World} {base : Nat} {e : TypeId} {okp : Nat → Prop} {v : Value} {xs : List Kn} (h : OwnD wr base e 3 (CaW w) okp v xs) (hk : ∀ g, v.ownBlock = some g → w'.heap[g]? = wr.heap[g]?) : OwnD w' base e 3 (CaW w) okp v xs := OwnP.keep (E := CaE w w.heap.size) h hk
theorem all_one (x : Kn) (f : Kn → Bool) : ([x] : List Kn).all f = f x := by simp
set_option maxHeartbeats 4000000 in
theorem lawCA_any (l : List Kn) (w : World) (vl : Value) (h : SlP w w.heap.size 3 (CaE w w.heap.size) vl l) :
    Calls Tryz.prog 3 #[vl] w fun e w' => e = .returned (.bool true) ∧ Below w.heap.size w w' := by
  obtain ⟨A, n, rfl, c1, c2, c3⟩ := h
  unfold Big at c2
  have HL : Hid (∀ w', Below w.heap.size w w' → SlP w' w'.heap.size 3 (CaE w' w'.heap.size) (.slice A l.length n) l) := fun w' hb => SlP.imp (E := CaE w w.heap.size) ⟨A, n, rfl, c1, by unfold Big; omega, c3⟩ hb hb.size fun x _ cs hx => hx.up hb hb.size
  go_enter Tryz.func3, Tryz.ntmps3
  go_wp2_with fail
  refine (awake09_any _).mono ?_
  rintro e w1 ⟨rfl, hb1⟩
  by_cases hl8 : 8 < l.length
  · go_wp2_with fail
    refine (awake09_any _).mono ?_
    rintro e w2 ⟨rfl, hb2⟩
    go_wp2_with fail
    go_ret
    exact ⟨rfl, hb1.trans (hb2.mono hb1.size)⟩
  have hs1 := hb1.size
  have HB1 := hid hb1
  clear hb1
  go_wp2_with fail
  go_loopw [4, 5, 21] (fun vb bd i wr => ∃ k : Nat, k ≤ l.length ∧ i = .int .i64 k ∧ bd = .bool (!jaK (l.take k)) ∧ OwnD wr (w1.heap.size + 1) 31 3 (CaW w) (fun _ => True) vb (l.reverse.take k) ∧ CaBox wr w1.heap.size vb l k ∧ Hid (∀ (j : Nat) x, j < k → l[j]? = some x → sml9 x.1 x.2 40 = true) ∧ w1.heap.size + 1 ≤ wr.heap.size ∧ Below w.heap.size w wr) (fun _ _ i _ => l.length - (intOf i).toNat)
  case atStart => exact ⟨0, Nat.zero_le _, rfl, by simp [jaK], OwnD.nil, ⟨kn0, _, _, _, heap_new rfl, rda_nil _ _, SlA.nil, fun _ => rfl⟩, fun j x hj => absurd hj (Nat.not_lt_zero _), by simp, HB1.out.alloc hs1 _⟩
  case round =>
    obtain ⟨k, hk, rfl, rfl, hown, hbox, hsm, hsg, hb⟩ := hrel
    obtain ⟨A9, c9, hv9⟩ := OwnP.shape hown
    subst hv9
    by_cases hlt : k < l.length
    · obtain ⟨⟨t, c⟩, hx⟩ : ∃ x, l[k]? = some x := ⟨_, List.getElem?_eq_getElem hlt⟩
      obtain ⟨⟨u, d⟩, hy⟩ : ∃ y, l[l.length - 1 - k]? = some y := ⟨_, List.getElem?_eq_getElem (by omega)⟩
      have hrev : l.reverse[k]? = some (u, d) := by rw [List.getElem?_reverse hlt]; exact hy
      have HTR : Hid (l.reverse.take (k + 1) = l.reverse.take k ++ [(u, d)]) := by unfold Hid; rw [List.take_add_one, hrev]; rfl
      have hlr : (l.reverse.take k).length = k := by rw [List.length_take, List.length_reverse]; omega
      rw [hlr] at hown hbox
      have HLR : Hid ((l.reverse.take k).length + [((u, d) : Kn)].length ≤ Few) := by unfold Hid Few; rw [hlr]; simp; omega
      have HX := hid hx
      obtain ⟨b, off, rfl, hbB, hc⟩ := c3 (by rintro rfl; simp at hlt)
      obtain ⟨cs, hcx, _, hu⟩ := hc k _ hx
      obtain ⟨xe, xk, xc, rfl, hrx, hsx⟩ := id hcx
      obtain ⟨A3, n3, A4, n4, rfl, rfl⟩ := rd_shape hrx
      obtain ⟨A5, n5, hv5, _⟩ := id hsx
      simp only at hv5 hrx hsx hcx
      subst hv5
      obtain ⟨ds, hcy, _, hv⟩ := hc (l.length - 1 - k) _ hy
      obtain ⟨ye, yk, yc, rfl, hry, hsy⟩ := id hcy
      obtain ⟨A6, n6, A7, n7, rfl, rfl⟩ := rd_shape hry
      obtain ⟨A8, n8, hv8, _⟩ := id hsy
      simp only at hv8 hry hsy hcy
      subst hv8
      have HE : Hid (∀ W, Below w.heap.size w W → (W.cell? ⟨b, off + k * 3, none⟩ = some (.slice A3 t.es.length n3) ∧ W.cell? ⟨b, off + k * 3 + 1, none⟩ = some (.slice A4 t.ks.length n4) ∧ W.cell? ⟨b, off + k * 3 + 2, none⟩ = some (.slice A5 c.length n5) ∧
          W.cell? ⟨b, off + (l.length - 1 - k) * 3, none⟩ = some (.slice A6 u.es.length n6) ∧ W.cell? ⟨b, off + (l.length - 1 - k) * 3 + 1, none⟩ = some (.slice A7 u.ks.length n7) ∧ W.cell? ⟨b, off + (l.length - 1 - k) * 3 + 2, none⟩ = some (.slice A8 d.length n8))) := fun W hW =>
        ⟨(hW.cell hbB).trans (hu 0 _ rfl), (hW.cell hbB).trans (hu 1 _ rfl), (hW.cell hbB).trans (hu 2 _ rfl), (hW.cell hbB).trans (hv 0 _ rfl), (hW.cell hbB).trans (hv 1 _ rfl), (hW.cell hbB).trans (hv 2 _ rfl)⟩
      have HCX := hid hcx
      have HRX : Hid (∀ W, Below w.heap.size w W → t.rd W W.heap.size (.slice A3 t.es.length n3) (.slice A4 t.ks.length n4)) := fun W hW => rd_below hW hW.size _ _ _ hrx
      have HSX : Hid (∀ W, Below w.heap.size w W → SlP W W.heap.size 3 SpE (.slice A5 c.length n5) c) := fun W hW => hsx.imp hW hW.size fun _ _ _ h => h
      have HCY := hid hcy
      have hs0 := hb.size
      clear hu hv hc hx hy hrev hrx hsx hry hsy hcx hcy hlr
      obtain ⟨e0, e1, e2, f0, f1, f2⟩ := HE.out wr hb
      go_wp2_with fail
      have hbA : Below wr.heap.size wr (wr.alloc (.cells #[.slice A3 t.es.length n3, .slice A4 t.ks.length n4, .slice A5 c.length n5] 31)) := (Below.refl _ wr).alloc (Nat.le_refl _) _
      refine (small09_any [(t, c)] _ _ (SlP.oneB (x := (t, c)) (cs := [.slice A3 t.es.length n3, .slice A4 t.ks.length n4, .slice A5 c.length n5]) (HCX.out.up (hb.trans (hbA.mono hs0)) (hb.trans (hbA.mono hs0)).size) rfl _ rfl (by simp))).mono ?_
      rw [all_one]
      simp only
      cases hsml : sml9 t c 40
      · rintro e w2 ⟨rfl, hb2⟩
        have hB2 := hb.trans ((hbA.trans (hb2.mono (by simp))).mono hs0)
        clear hsml
        go_wp2_with fail
        go_ret
        exact ⟨rfl, hB2⟩
      rintro e w2 ⟨rfl, hb2⟩
      have hb2' : Below wr.heap.size wr w2 := hbA.trans (hb2.mono (by simp))
      have hs2 := hb2'.size
      have hB2 := hb.trans (hb2'.mono hs0)
      have HSM : Hid (∀ (j : Nat) x, j < k + 1 → l[j]? = some x → sml9 x.1 x.2 40 = true) := fun j x hj hjx => by
        rcases (show j < k ∨ j = k by omega) with h1 | rfl
        · exact hsm.out j x h1 hjx
        · have := HX.out; rw [hjx] at this; cases this; exact hsml
      clear e0 e1 e2 f0 f1 f2 hb2 hsml hbA
      obtain ⟨e0, e1, e2, f0, f1, f2⟩ := HE.out w2 hB2
      have hown2 := hown.grow (CaW.mon w) hb2'
      have hov := hown.lt
      have hl1 : (1 : Nat) ≤ l.length := by omega
      go_upto_region 12 with (at_builtin; go_loud ((refine wpList_d (v := .slice A9 k c9) rfl (.tmp 31) (.tmp 40) _ rfl (CaW.mon w) eiCau (by decide) (by decide) rfl (hown2.grow (CaW.mon w) ((Below.refl _ w2).alloc (Nat.le_refl _) (.cells #[.slice A6 u.es.length n6, .slice A7 u.ks.length n7, .slice A8 d.length n8] 31))) rfl (SlP.oneB (x := (u, d)) (cs := [.slice A6 u.es.length n6, .slice A7 u.ks.length n7, .slice A8 d.length n8]) HCY.out rfl _ rfl (by simp)) HLR.out (by simp; omega) ?_); intro v1 w3 hown3 hb3 hg3 hor3))
      have hlt9 : ∀ q, (Value.slice A9 k c9).ownBlock = some q → q < wr.heap.size := fun q hq => (hov q hq).2
      have hb3' : Below (w1.heap.size + 1) w2 w3 := ((Below.refl _ w2).alloc (by omega) _).trans hb3
      have hs3 := hb3'.size
      have hbox3 : ∀ k', (jaK (l.take k') = true → jaK (l.take k) = true ∧ jnL (l.take k) = jnL (l.take k')) → CaBox w3 w1.heap.size v1 l k' := fun k' hj => by
        refine hbox.up ((hb3'.block _ (by omega)).trans (hb2'.block _ (by omega))) (fun q hq hn => ?_) (by omega) (fun q hq hn => ?_) hj
        · refine (hg3.block q (by simp; omega) (Ne.symm hn)).trans ((heap_old (by omega)).trans (hb2'.block q hq))
        · rcases hor3 with h | h
          · rw [h]; exact hn
          · rw [h]; intro e; simp at e; omega
      have hB3 : Below w.heap.size w w3 := hB2.trans (hb3'.mono (by omega))
      rw [← HTR.out] at hown3
      obtain ⟨AA, cc, hvv⟩ := OwnP.shape hown3
      have hlr2 : (l.reverse.take (k + 1)).length = k + 1 := by rw [List.length_take, List.length_reverse]; omega
      rw [hlr2] at hvv
      clear hg3 hor3 hb3 hown hown2 hbox e0 e1 e2 f0 f1 f2
      obtain ⟨e0, e1, e2, f0, f1, f2⟩ := HE.out w3 hB3
      subst hvv
      cases hj : jaK (l.take k)
      · have HN : Hid (jaK (l.take (k + 1)) = false) := jaK_no hj
        have HOW := hid hown3
        have HBX := hid (hbox3 (k + 1) (fun h => by rw [HN.out] at h; cases h))
        clear hbox3 hj hown3 e0 e1 e2 f0 f1 f2
        go_wp2_with fail
        go_roundw
        case rel => exact ⟨k + 1, by omega, by go_num, by rw [HN.out]; rfl, HOW.out, HBX.out, HSM, by omega, hB3⟩
        case measure => simp [intOf]; omega
      have HJT := hid (jaK_take HX.out hj)
      have HOW := hid hown3
      have HBX := hid hbox3
      have HJ := hid hj
      clear hbox3 hj hown3
      go_wp2_with fail
      have hbA : Below w3.heap.size w3 (w3.alloc (.cells #[.slice A3 t.es.length n3, .slice A4 t.ks.length n4, .slice A5 c.length n5] 31)) := (Below.refl _ w3).alloc (Nat.le_refl _) _
      have hsz1 := sml9_sz (HSM.out k (t, c) (by omega) HX.out)
      simp only at hsz1
      refine (right09_any [(t, c)] _ _ (SlP.oneB (x := (t, c)) (cs := [.slice A3 t.es.length n3, .slice A4 t.ks.length n4, .slice A5 c.length n5]) (HCX.out.up (hB3.trans (hbA.mono hB3.size)) (hB3.trans (hbA.mono hB3.size)).size) rfl _ rfl (by simp)) (fun x hx => by simp at hx; subst hx; exact ⟨by simp only; omega, by simp only; omega⟩)).mono ?_
      rw [all_one]
      simp only
      cases hca : caR t c
      · rintro e w4 ⟨rfl, hb4⟩
        have hb4' : Below w3.heap.size w3 w4 := hbA.trans (hb4.mono (by simp))
        have HN : Hid (jaK (l.take (k + 1)) = false) := HJT.out.trans hca
        have HB4 := hid hb4'
        have hB4 := hB3.trans (hb4'.mono hB3.size)
        have hs4 := hb4'.size
        clear hca hb4 hb4' e0 e1 e2 f0 f1 f2 hbA
        go_wp2_with fail
        go_roundw
        case rel => exact ⟨k + 1, by omega, by go_num, by rw [HN.out]; rfl, HOW.out.grow (CaW.mon w) HB4.out, (HBX.out (k + 1) (fun h => by rw [HN.out] at h; cases h)).up (HB4.out.block _ (by omega)) (fun q hq _ => HB4.out.block q hq) HB4.out.size (fun _ _ h => h) (fun h => ⟨h, rfl⟩), HSM, by omega, hB4⟩
        case measure => simp [intOf]; omega
      · rintro e w4 ⟨rfl, hb4⟩
        have hb4' : Below w3.heap.size w3 w4 := hbA.trans (hb4.mono (by simp))
        have HN : Hid (jaK (l.take (k + 1)) = true) := HJT.out.trans hca
        have HCA := hid hca
        have HB4 := hid hb4'
        have hB4 := hB3.trans (hb4'.mono hB3.size)
        have hs4 := hb4'.size
        have hbx4 := (HBX.out k (fun h => ⟨h, rfl⟩)).up (v' := .slice AA (k + 1) cc) (k' := k) (HB4.out.block _ (by omega)) (fun q hq _ => HB4.out.block q hq) HB4.out.size (fun _ _ h => h) (fun h => ⟨h, rfl⟩)
        have HOW4 := hid (HOW.out.grow (CaW.mon w) HB4.out)
        clear hca hb4 hb4' e0 e1 e2 f0 f1 f2 hbA HBX
        go_upto_region 14 with (fail)
        obtain ⟨X, ve, vk, vc, hG, hrd, hsl, hXe⟩ := hbx4
        have hX := hXe HJ.out
        have htk := tk_sz (l := l) (k := k) (fun x hx => by
          obtain ⟨j, hj⟩ := List.getElem?_of_mem hx
          rw [List.getElem?_take] at hj
          split at hj
          · exact sml9_sz (HSM.out j x (by omega) hj)
          · cases hj) (by omega) HJ.out
        rw [← hX] at htk
        have HXJ : Hid (jnL (l.take (k + 1)) = jn X (t, c)) := by unfold Hid; rw [jnL_take HX.out, hX]
        clear hXe hX
        obtain ⟨XT, XC⟩ := X
        obtain ⟨hXok, hXs, hXl⟩ := htk
        simp only at hXs hXl hrd hsl
        have HXO := hid hXok
        have hcok : KOk (t, c) := caR_iff.1 HCA.out
        have HJN : Hid (buildL (r9L (XT.lvs []) (t.lvs []) XC c) = (jn (XT, XC) (t, c)).1) := r9_jn hXok hcok
        have HP1 := hid (spsOk_apart hXok.ap)
        have HP2 := hid (spsOk_apart hcok.ap)
        obtain ⟨Aa, na, Ab, nb, rfl, rfl⟩ := rda_shape hrd
        obtain ⟨Ac, nc, rfl⟩ := hsl.shape
        have HXR : Hid (∀ W, Below w4.heap.size w4 W → XT.rd W W.heap.size (.slice Aa XT.es.length na) (.slice Ab XT.ks.length nb)) := fun W hW => rda_rd hrd (fun b hb => hb.2.1) hW
        have HXS : Hid (∀ W, Below w4.heap.size w4 W → SlP W W.heap.size 3 SpE (.slice Ac XC.length nc) XC) := fun W hW => hsl.slp (fun b hb => hb.2.1) hW
        have HG := hid hG
        have HBW : Hid (∀ W, Below w4.heap.size w4 W → Below w.heap.size w W) := fun W hW => hB4.trans (hW.mono (by omega))
        have HK : Hid (∀ W, Below w4.heap.size w4 W → (W.cell? ⟨w1.heap.size, 0, none⟩ = some (.slice Aa XT.es.length na) ∧ W.cell? ⟨w1.heap.size, 1, none⟩ = some (.slice Ab XT.ks.length nb) ∧ W.cell? ⟨w1.heap.size, 2, none⟩ = some (.slice Ac XC.length nc) ∧ W.cell? ⟨b, off + k * 3, none⟩ = some (.slice A3 t.es.length n3) ∧ W.cell? ⟨b, off + k * 3 + 1, none⟩ = some (.slice A4 t.ks.length n4) ∧ W.cell? ⟨b, off + k * 3 + 2, none⟩ = some (.slice A5 c.length n5))) := fun W hW => by
          have g := (hW.block w1.heap.size (by omega)).trans HG.out
          obtain ⟨a0, a1, a2, _⟩ := HE.out W (HBW.out W hW)
          exact ⟨cell_cells (i := 0) g, cell_cells (i := 1) g, cell_cells (i := 2) g, a0, a1, a2⟩
        obtain ⟨q0, q1, q2, e0, e1, e2⟩ := HK.out _ (Below.refl _ _)
        have hl1' : w1.heap.size < w4.heap.size := by omega
        clear hrd hsl hG hXok hcok
        obtain ⟨y0, y1, y2, y3, y4, y5⟩ := HK.out w4.drew ((Below.refl w4.heap.size w4).drew)
        go_region_law
          (first | (go_simp; go_at_call 29; go_loud ((refine (r09join_any XC c XT t _ _ _ _ _ _ _ (HXR.out _ (by go_grown)) (HRX.out _ (HBW.out _ (by go_grown))) (HXS.out _ (by go_grown)) (HSX.out _ (HBW.out _ (by go_grown))) (by omega) (by omega) HP1.out HP2.out (by omega) (by omega)).mono ?_); rw [HJN.out]; rintro e w5 ⟨ve5, vk5, vc5, rfl, hrd5, hsl5, hb5⟩; obtain ⟨Ad, nd, Ae, ne, hv1, hv2⟩ := rda_shape hrd5; subst hv1; subst hv2; obtain ⟨Af, nf, hv3⟩ := hsl5.shape; subst hv3; have HB5 : Hid (Below w4.heap.size w4 w5) := hid (Below.trans (by go_grown) (hb5.mono (by first | omega | (simp; done) | (simp; omega)))); have HG5 : Hid (w5.heap[w1.heap.size]? = some (.cells #[.slice Aa XT.es.length na, .slice Ab XT.ks.length nb, .slice Ac XC.length nc] 31 (0, 0))) := hid ((HB5.out.block w1.heap.size hl1').trans HG.out); have HR5 := hid hrd5; have HS5 := hid hsl5; have z0 := cells_frz (i := 0) HG5.out; have z1 := cells_frz (i := 1) HG5.out; have z2 := cells_frz (i := 2) HG5.out; obtain ⟨x0, x1, x2, x3, x4, x5⟩ := HK.out w5 HB5.out; clear hrd5 hsl5 hb5)))
        all_goals (
          have hl5 := HB5.out.size
          have hg5 := lt_of_block HG5.out
          clear q0 q1 q2 y0 y1 y2 y3 y4 y5 x0 x1 x2 x3 x4 x5 z0 z1 z2 e0 e1 e2
          go_wp2_with fail
          obtain ⟨r0, r1, r2, hKK, hSS⟩ := box3 HG5.out (.slice Ad (jn (XT, XC) (t, c)).1.es.length nd) (.slice Ae (jn (XT, XC) (t, c)).1.ks.length ne) (.slice Af (ctxBy XC c 0).length nf)
          have hWW := cells_set (i := 2) (cells_set (i := 1) (cells_set (i := 0) HG5.out (.slice Ad (jn (XT, XC) (t, c)).1.es.length nd)) (.slice Ae (jn (XT, XC) (t, c)).1.ks.length ne)) (.slice Af (ctxBy XC c 0).length nf)
          go_roundw
          case rel =>
            refine ⟨k + 1, by omega, by go_num, by rw [HN.out]; rfl, OwnD.keepW (HOW4.out.grow (CaW.mon w) HB5.out) (fun g hg => hKK g (by have := HOW4.out.lt g hg; omega)), ⟨jn (XT, XC) (t, c), _, _, _, by simpa using hWW, ?_, ?_, fun _ => HXJ.out.symm⟩, HSM, by rw [hSS]; omega, ?_⟩
            · exact rda_up (fun q hq => hKK q (by have := hq.1; simp only [World.size_drew] at this; omega)) (fun q hq => ⟨by have := hq.1; simp only [World.size_drew] at this; omega, by rw [hSS]; exact hq.2, fun e => by have := HOW4.out.lt q e; have := hq.1; simp only [World.size_drew] at this; omega⟩) _ _ _ HR5.out
            · exact HS5.out.up (fun q hq => hKK q (by have := hq.1; simp only [World.size_drew] at this; omega)) (fun q hq => ⟨by have := hq.1; simp only [World.size_drew] at this; omega, by rw [hSS]; exact hq.2, fun e => by have := HOW4.out.lt q e; have := hq.1; simp only [World.size_drew] at this; omega⟩) (fun _ _ _ h => h)
            · exact ((((hB4.trans (HB5.out.mono (by omega))).setCell (by simp; omega) _).setCell (by simp; omega) _).setCell (by simp; omega) _)
          case measure => simp [intOf]; omega)
    · obtain rfl : k = l.length := by omega
      obtain ⟨X, ve, vk, vc, hG, hrd, hsl, hXe⟩ := hbox
      obtain ⟨XT, XC⟩ := X
      simp only at hrd hsl
      obtain ⟨Aa, na, Ab, nb, rfl, rfl⟩ := rda_shape hrd
      obtain ⟨Ac, nc, rfl⟩ := hsl.shape
      have hlr : (l.reverse.take l.length).length = l.length := by rw [List.length_take, List.length_reverse]; omega
      rw [hlr] at hown
      rw [List.take_of_length_le (by simp)] at hown
      rw [List.take_of_length_le (Nat.le_refl _)] at hXe
      obtain ⟨hz1, hz2, hmm⟩ := all_small (fun j x hj => hsm.out j x (List.getElem?_eq_some_iff.1 hj).1 hj) (by omega)
      have hHX : Hid (∀ W, Below wr.heap.size wr W → (Below w.heap.size w W ∧ XT.rd W W.heap.size (.slice Aa XT.es.length na) (.slice Ab XT.ks.length nb) ∧ SlP W W.heap.size 3 SpE (.slice Ac XC.length nc) XC ∧ W.cell? ⟨w1.heap.size, 0, none⟩ = some (.slice Aa XT.es.length na) ∧ W.cell? ⟨w1.heap.size, 1, none⟩ = some (.slice Ab XT.ks.length nb) ∧ W.cell? ⟨w1.heap.size, 2, none⟩ = some (.slice Ac XC.length nc) ∧ SlP W W.heap.size 3 (CaE W W.heap.size) (.slice A9 l.length c9) l.reverse)) := fun W hW => by
        have g := (hW.block w1.heap.size (by omega)).trans hG
        have hB := hb.trans (hW.mono hb.size)
        have hS := (hown.grow (CaW.mon w) hW).sl (CaW.mon w) (by rw [List.length_reverse]; unfold Big; omega)
        exact ⟨hB, rda_rd hrd (fun b hb => hb.2.1) hW, hsl.slp (fun b hb => hb.2.1) hW, cell_cells (i := 0) g, cell_cells (i := 1) g, cell_cells (i := 2) g, hS.imp (Below.refl _ _) (Nat.le_refl _) fun x _ cs hx => CaE.up (B := w.heap.size) hx hB hB.size⟩
      have hsz1' : (l.reverse.map fun x => x.1.sz).sum ≤ 4000 := by rw [sum_rev]; exact hz1
      have hsz2' : (l.reverse.map fun x => x.2.length).sum ≤ 20000 := by rw [sum_rev]; exact hz2
      have hg1 : w1.heap.size < wr.heap.size := by omega
      obtain ⟨⟨RT, RC⟩, HR⟩ : ∃ r : Kn, Hid (jaR l = r) := ⟨_, rfl⟩
      obtain ⟨J, HJL⟩ : ∃ q : Bool, Hid (jaK l = q) := ⟨_, rfl⟩
      have HEJ : Hid (jaE l = if J then 0 else 1) := by unfold Hid jaE; rw [HJL.out]
      have HXR : Hid (J = true → XT = RT ∧ XC = RC) := fun h => by
        have h1 := hXe (HJL.out.trans h)
        have h2 := HR.out
        unfold jaR at h2
        rw [HJL.out, h, if_pos rfl, ← h1] at h2
        cases h2; exact ⟨rfl, rfl⟩
      have HRN : Hid (J = false → RT = .mk [] [] ∧ RC = []) := fun h => by
        have h2 := HR.out
        unfold jaR at h2
        rw [HJL.out, h, if_neg (by simp)] at h2
        cases h2; exact ⟨rfl, rfl⟩
      have hjl : jaK (l.take l.length) = J := by rw [List.take_of_length_le (Nat.le_refl _)]; exact HJL.out
      rw [hjl]
      clear hown hXe hG hrd hsl hjl hlr hmm
      cases J
      · have HTT : Hid ((trEq RT (.mk [] []) && decide (RC = [])) = true) := by
          obtain ⟨rfl, rfl⟩ := HRN.out rfl
          exact hid (by simp [trEq])
        have HEJ1 : Hid (jaE l = 1) := HEJ.out
        clear HEJ HXR HRN HJL
        obtain ⟨hB, rx, sx, q0, q1, q2, sb⟩ := hHX.out _ (Below.refl _ _)
        go_wp2_with fail
        refine (joinAll_any l _ _ (HL.out _ hb) hz1 hz2).mono ?_
        rw [HR.out, HEJ1.out]
        rintro e w5 ⟨ve5, vk5, vc5, rfl, hrd5, hsl5, hb5⟩
        simp only at hrd5 hsl5
        obtain ⟨Ad, nd, Ae, ne, rfl, rfl⟩ := rda_shape hrd5
        obtain ⟨Af, nf, rfl⟩ := hsl5.shape
        have hl5 := hb5.size
        have HB5 := hid hb5
        have HX5 : Hid (∀ W, Below (w5.heap.size + 1) (w5.alloc (.cells #[.slice Ad RT.es.length nd, .slice Ae RT.ks.length ne, .slice Af RC.length nf] 31)) W → (Below wr.heap.size wr W ∧ RT.rd W W.heap.size (.slice Ad RT.es.length nd) (.slice Ae RT.ks.length ne) ∧ SlP W W.heap.size 3 SpE (.slice Af RC.length nf) RC ∧ W.cell? ⟨w5.heap.size, 0, none⟩ = some (.slice Ad RT.es.length nd) ∧ W.cell? ⟨w5.heap.size, 1, none⟩ = some (.slice Ae RT.ks.length ne) ∧ W.cell? ⟨w5.heap.size, 2, none⟩ = some (.slice Af RC.length nf))) := fun W hW => by
          have g := (hW.block w5.heap.size (by omega)).trans (heap_new rfl)
          have hB := ((Below.refl _ w5).alloc (Nat.le_refl _) _).trans (hW.mono (by omega))
          exact ⟨hb5.trans (hB.mono (by omega)), rda_rd hrd5 (fun b hb => hb.2) hB, hsl5.slp (fun b hb => hb.2) hB, cell_cells (i := 0) g, cell_cells (i := 1) g, cell_cells (i := 2) g⟩
        clear hrd5 hsl5 hb5 hB rx sx q0 q1 q2 sb
        go_wp2_with fail
        obtain ⟨hB5, r5, s5, p0, p1, p2⟩ := HX5.out _ (Below.refl _ _)
        refine (joinAll_any l.reverse _ _ (hHX.out _ hB5).2.2.2.2.2.2 hsz1' hsz2').mono ?_
        rw [(all_rev l).1, (all_rev l).2, HR.out, HEJ1.out]
        rintro e w6 ⟨ve6, vk6, vc6, rfl, hrd6, hsl6, hb6⟩
        simp only at hrd6 hsl6
        obtain ⟨Ag, ng, Ah, nh, rfl, rfl⟩ := rda_shape hrd6
        obtain ⟨Ai, ni, rfl⟩ := hsl6.shape
        have hl6 := hb6.size
        simp only [World.size_alloc] at hl6
        have HB6 : Hid (Below (w5.heap.size + 1) (w5.alloc (.cells #[.slice Ad RT.es.length nd, .slice Ae RT.ks.length ne, .slice Af RC.length nf] 31)) w6) := hid (hb6.mono (by simp))
        have HX6 : Hid (∀ W, Below (w6.heap.size + 1) (w6.alloc (.cells #[.slice Ag RT.es.length ng, .slice Ah RT.ks.length nh, .slice Ai RC.length ni] 31)) W → (Below (w5.heap.size + 1) (w5.alloc (.cells #[.slice Ad RT.es.length nd, .slice Ae RT.ks.length ne, .slice Af RC.length nf] 31)) W ∧ RT.rd W W.heap.size (.slice Ag RT.es.length ng) (.slice Ah RT.ks.length nh) ∧ SlP W W.heap.size 3 SpE (.slice Ai RC.length ni) RC ∧ W.cell? ⟨w6.heap.size, 0, none⟩ = some (.slice Ag RT.es.length ng) ∧ W.cell? ⟨w6.heap.size, 1, none⟩ = some (.slice Ah RT.ks.length nh) ∧ W.cell? ⟨w6.heap.size, 2, none⟩ = some (.slice Ai RC.length ni))) := fun W hW => by
          have g := (hW.block w6.heap.size (by omega)).trans (heap_new rfl)
          have hB := ((Below.refl _ w6).alloc (Nat.le_refl _) _).trans (hW.mono (by omega))
          exact ⟨HB6.out.trans (hB.mono (by omega)), rda_rd hrd6 (fun b hb => hb.2) hB, hsl6.slp (fun b hb => hb.2) hB, cell_cells (i := 0) g, cell_cells (i := 1) g, cell_cells (i := 2) g⟩
        have hne56 : w5.heap.size ≠ w6.heap.size := by omega
        clear hrd6 hsl6 hb6 hB5 r5 s5 p0 p1 p2
        obtain ⟨k6, r6, s6, u0, u1, u2⟩ := HX6.out _ (Below.refl _ _)
        obtain ⟨k5, r5, s5, p0, p1, p2⟩ := HX5.out _ k6
        go_wp2_with fail
        refine (r09same_any RT (.mk [] []) RC [] _ _ _ _ _ _ _ r5 rd_empty s5 SlP.nil).mono ?_
        rw [HTT.out]
        rintro e w7 ⟨rfl, hb7⟩
        have hl7 := hb7.size
        simp only [World.size_alloc] at hl7
        clear k6 r6 s6 u0 u1 u2 k5 r5 s5 p0 p1 p2
        obtain ⟨k6, r6, s6, u0, u1, u2⟩ := HX6.out w7 (hb7.mono (by simp))
        go_wp2_with fail
        refine (r09same_any RT (.mk [] []) RC [] _ _ _ _ _ _ _ r6 rd_empty s6 SlP.nil).mono ?_
        rw [HTT.out]
        rintro e w8 ⟨rfl, hb8⟩
        obtain ⟨k5, _⟩ := HX5.out _ (k6.trans (hb8.mono (by omega)))
        obtain ⟨kk, _⟩ := hHX.out _ k5
        clear k6 r6 s6 u0 u1 u2
        go_wp2_with fail
        go_ret
        exact ⟨rfl, kk⟩
      · have HTT : Hid ((trEq RT XT && decide (RC = XC)) = true) := by
          obtain ⟨rfl, rfl⟩ := HXR.out rfl
          exact hid (by simp [trEq])
        have HEJ1 : Hid (jaE l = 0) := HEJ.out
        clear HEJ HXR HRN HJL
        obtain ⟨hB, rx, sx, q0, q1, q2, sb⟩ := hHX.out _ (Below.refl _ _)
        go_wp2_with fail
        refine (joinAll_any l _ _ (HL.out _ hb) hz1 hz2).mono ?_
        rw [HR.out, HEJ1.out]
        rintro e w5 ⟨ve5, vk5, vc5, rfl, hrd5, hsl5, hb5⟩
        simp only at hrd5 hsl5
        obtain ⟨Ad, nd, Ae, ne, rfl, rfl⟩ := rda_shape hrd5
        obtain ⟨Af, nf, rfl⟩ := hsl5.shape
        have hl5 := hb5.size
        have HB5 := hid hb5
        have HX5 : Hid (∀ W, Below (w5.heap.size + 1) (w5.alloc (.cells #[.slice Ad RT.es.length nd, .slice Ae RT.ks.length ne, .slice Af RC.length nf] 31)) W → (Below wr.heap.size wr W ∧ RT.rd W W.heap.size (.slice Ad RT.es.length nd) (.slice Ae RT.ks.length ne) ∧ SlP W W.heap.size 3 SpE (.slice Af RC.length nf) RC ∧ W.cell? ⟨w5.heap.size, 0, none⟩ = some (.slice Ad RT.es.length nd) ∧ W.cell? ⟨w5.heap.size, 1, none⟩ = some (.slice Ae RT.ks.length ne) ∧ W.cell? ⟨w5.heap.size, 2, none⟩ = some (.slice Af RC.length nf))) := fun W hW => by
          have g := (hW.block w5.heap.size (by omega)).trans (heap_new rfl)
          have hB := ((Below.refl _ w5).alloc (Nat.le_refl _) _).trans (hW.mono (by omega))
          exact ⟨hb5.trans (hB.mono (by omega)), rda_rd hrd5 (fun b hb => hb.2) hB, hsl5.slp (fun b hb => hb.2) hB, cell_cells (i := 0) g, cell_cells (i := 1) g, cell_cells (i := 2) g⟩
        clear hrd5 hsl5 hb5 hB rx sx q0 q1 q2 sb
        go_wp2_with fail
        obtain ⟨hB5, r5, s5, p0, p1, p2⟩ := HX5.out _ (Below.refl _ _)
        refine (joinAll_any l.reverse _ _ (hHX.out _ hB5).2.2.2.2.2.2 hsz1' hsz2').mono ?_
        rw [(all_rev l).1, (all_rev l).2, HR.out, HEJ1.out]
        rintro e w6 ⟨ve6, vk6, vc6, rfl, hrd6, hsl6, hb6⟩
        simp only at hrd6 hsl6
        obtain ⟨Ag, ng, Ah, nh, rfl, rfl⟩ := rda_shape hrd6
        obtain ⟨Ai, ni, rfl⟩ := hsl6.shape
        have hl6 := hb6.size
        simp only [World.size_alloc] at hl6
        have HB6 : Hid (Below (w5.heap.size + 1) (w5.alloc (.cells #[.slice Ad RT.es.length nd, .slice Ae RT.ks.length ne, .slice Af RC.length nf] 31)) w6) := hid (hb6.mono (by simp))
        have HX6 : Hid (∀ W, Below (w6.heap.size + 1) (w6.alloc (.cells #[.slice Ag RT.es.length ng, .slice Ah RT.ks.length nh, .slice Ai RC.length ni] 31)) W → (Below (w5.heap.size + 1) (w5.alloc (.cells #[.slice Ad RT.es.length nd, .slice Ae RT.ks.length ne, .slice Af RC.length nf] 31)) W ∧ RT.rd W W.heap.size (.slice Ag RT.es.length ng) (.slice Ah RT.ks.length nh) ∧ SlP W W.heap.size 3 SpE (.slice Ai RC.length ni) RC ∧ W.cell? ⟨w6.heap.size, 0, none⟩ = some (.slice Ag RT.es.length ng) ∧ W.cell? ⟨w6.heap.size, 1, none⟩ = some (.slice Ah RT.ks.length nh) ∧ W.cell? ⟨w6.heap.size, 2, none⟩ = some (.slice Ai RC.length ni))) := fun W hW => by
          have g := (hW.block w6.heap.size (by omega)).trans (heap_new rfl)
          have hB := ((Below.refl _ w6).alloc (Nat.le_refl _) _).trans (hW.mono (by omega))
          exact ⟨HB6.out.trans (hB.mono (by omega)), rda_rd hrd6 (fun b hb => hb.2) hB, hsl6.slp (fun b hb => hb.2) hB, cell_cells (i := 0) g, cell_cells (i := 1) g, cell_cells (i := 2) g⟩
        have hne56 : w5.heap.size ≠ w6.heap.size := by omega
        clear hrd6 hsl6 hb6 hB5 r5 s5 p0 p1 p2
        obtain ⟨k6, r6, s6, u0, u1, u2⟩ := HX6.out _ (Below.refl _ _)
        obtain ⟨k5, r5, s5, p0, p1, p2⟩ := HX5.out _ k6
        obtain ⟨hB, rx, sx, q0, q1, q2, sb⟩ := hHX.out _ k5
        go_wp2_with fail
        refine (r09same_any RT XT RC XC _ _ _ _ _ _ _ r5 rx s5 sx).mono ?_
        rw [HTT.out]
        rintro e w7 ⟨rfl, hb7⟩
        have hl7 := hb7.size
        simp only [World.size_alloc] at hl7
        clear k6 r6 s6 u0 u1 u2 k5 r5 s5 p0 p1 p2 hB rx sx q0 q1 q2 sb
        obtain ⟨k6, r6, s6, u0, u1, u2⟩ := HX6.out w7 (hb7.mono (by simp))
        obtain ⟨k5, r5, s5, p0, p1, p2⟩ := HX5.out _ k6
        obtain ⟨hB, rx, sx, q0, q1, q2, sb⟩ := hHX.out _ k5
        go_wp2_with fail
        refine (r09same_any RT XT RC XC _ _ _ _ _ _ _ r6 rx s6 sx).mono ?_
        rw [HTT.out]
        rintro e w8 ⟨rfl, hb8⟩
        clear k5 r5 s5 p0 p1 p2 hB rx sx q0 q1 q2 sb
        obtain ⟨k5, _⟩ := HX5.out _ (k6.trans (hb8.mono (by omega)))
        obtain ⟨kk, _⟩ := hHX.out _ k5
        clear k6 r6 s6 u0 u1 u2
        go_wp2_with fail
        go_ret
        exact ⟨rfl, kk⟩
end Go.Proofs.YtmphgnjodangcaaGreat

namespace Go.Proofs.YtmphgnjodangcaaGreat
open Go.ChangeShapes Go.WideShapes Go.ChangeAt Go.RowKit
set_option maxRecDepth 100000

theorem okStrings : Tryz.prog.readableRec 39 = true ∧ 39 < Tryz.prog.types.size := ⟨by kernel_rfl, of_decide_eq_true (by kernel_rfl)⟩
theorem bytesString : Tryz.prog.bytesOf 9 = 16 := by kernel_rfl
theorem str_open {H : Type} {enc : TypeId × Value → H} {w : World} {fuel : Nat} {cs : List Value} {x : DataW H × List MemPlace} (h : DataW.trod enc Tryz.prog w 0 (fun _ => true) true fuel 9 cs = some x) (hw : Wt Tryz.prog 9 x.1) : ∃ s : ByteArray, StE s cs := by
  obtain ⟨s, e, hy, _⟩ := DataW.trod_string Tryz.underlying9 h
  refine ⟨s, e, ?_⟩
  have := hw s.size (by rw [hy]; simp [DataW.weights])
  unfold reachBytes at this; unfold Big; omega
theorem strs_arg {H : Type} {enc : TypeId × Value → H} {W : World} {base : Nat} {v : Value} {d : DataW H} {p : List MemPlace} (hv : Value.okWide Tryz.prog W .any base 39 v) (h : DataW.Trod enc Tryz.prog W 0 (fun _ => true) true 39 v d p) (hw : Wt Tryz.prog 39 d) :
    ∃ l : List ByteArray, SlP W W.heap.size 1 StE v l := by
  obtain ⟨a, len, cap, rfl⟩ := okWide_slice Tryz.underlying39 hv
  obtain ⟨fuel, hf⟩ := h
  obtain ⟨v', l, e, hl⟩ := slc_open (E := StE) Tryz.underlying39 cellsOne.1 (by decide) bytesString (by decide) hf hw fun _ _ _ _ hy hwy => str_open hy hwy
  simp [Value.cells] at e
  subst e
  exact ⟨l, hl⟩
end Go.Proofs.YtmphgnjodangcaaGreat

namespace Go.Proofs.YtmphgnjodangcaaGreat
open Go.ChangeShapes Go.WideShapes Go.ChangeAt Go.RowKit
set_option maxRecDepth 100000

theorem okWide_array {P : Program} {w : World} {r : Reach} {base : Nat} {t : TypeId} {v : Value} {n : Nat} {e : TypeId} (ht : P.underlying t = some (.array n e)) (h : Value.okWide P w r base t v) : ∃ cs, v = .agg cs ∧ cs.size = P.cellsOf t := by
  simp only [Value.okWide, ht] at h
  obtain ⟨cs, h1, h2, _⟩ := h
  exact ⟨cs, h1, h2⟩
theorem Wt.arr {H : Type} {P : Program} {t e : TypeId} {n : Nat} {parts : List (DataW H)} (hu : P.underlying t = some (.array n e)) (h : Wt P t (.agg parts)) : ∀ d ∈ parts, Wt P e d := fun d hd m hm => by
  refine h m ?_
  unfold DataW.weights
  rw [hu]
  exact Wt.all hd m hm
section
variable {H : Type} {enc : TypeId × Value → H} {W : World}
theorem okCausals : Tryz.prog.readableRec 22 = true ∧ 22 < Tryz.prog.types.size := ⟨by kernel_rfl, of_decide_eq_true (by kernel_rfl)⟩
theorem bytesCausal : Tryz.prog.bytesOf 31 = 72 := by kernel_rfl
theorem cas_arg {base : Nat} {v : Value} {d : DataW H} {p : List MemPlace} (hv : Value.okWide Tryz.prog W .any base 22 v) (h : DataW.Trod enc Tryz.prog W 0 (fun _ => true) true 22 v d p) (hw : Wt Tryz.prog 22 d) :
    ∃ l : List (Tr × List Sp), SlP W W.heap.size 3 (CaE W W.heap.size) v l := by
  obtain ⟨a, len, cap, rfl⟩ := okWide_slice Tryz.underlying22 hv
  obtain ⟨fuel, hf⟩ := h
  obtain ⟨v', l, e, hl⟩ := slc_open (E := CaE W W.heap.size) Tryz.underlying22 cellsCausal (by decide) bytesCausal (by decide) hf hw fun _ _ _ _ hy hwy => by
    obtain ⟨t, c, ve, vk, vc, e, ht, hc⟩ := ca_open hy hwy
    exact ⟨(t, c), ve, vk, vc, e, ht, hc⟩
  simp [Value.cells] at e
  subst e
  exact ⟨l, hl⟩
theorem okInt32s : Tryz.prog.readableRec 49 = true ∧ 49 < Tryz.prog.types.size := ⟨by kernel_rfl, of_decide_eq_true (by kernel_rfl)⟩
theorem bytesInt32 : Tryz.prog.bytesOf 21 = 4 := by kernel_rfl
theorem cellsInt32 : Tryz.prog.cellsOf 21 = 1 := by kernel_rfl
/-- A number of 32 bits. -/
def I3E (n : Int) (cs : List Value) : Prop := cs = [.int .i32 n] ∧ -2147483648 ≤ n ∧ n ≤ 2147483647
theorem i32s_arg {base : Nat} {v : Value} {d : DataW H} {p : List MemPlace} (hv : Value.okWide Tryz.prog W .any base 49 v) (h : DataW.Trod enc Tryz.prog W 0 (fun _ => true) true 49 v d p) (hw : Wt Tryz.prog 49 d) :
    ∃ l : List Int, SlP W W.heap.size 1 I3E v l := by
  obtain ⟨a, len, cap, rfl⟩ := okWide_slice Tryz.underlying49 hv
  obtain ⟨fuel, hf⟩ := h
  obtain ⟨v', l, e, hl⟩ := slc_open (E := I3E) Tryz.underlying49 cellsInt32 (by decide) bytesInt32 (by decide) hf hw fun _ _ _ _ hy hwy => by
    obtain ⟨a, e0, _, w0⟩ := DataW.trod_int Tryz.underlying21 hy
    exact ⟨a, e0, bounds_i32 w0⟩
  simp [Value.cells] at e
  subst e
  exact ⟨l, hl⟩
theorem okStr3 : Tryz.prog.readableRec 59 = true ∧ 59 < Tryz.prog.types.size := ⟨by kernel_rfl, of_decide_eq_true (by kernel_rfl)⟩
theorem cellsStr3 : Tryz.prog.cellsOf 59 = 3 := by kernel_rfl
theorem str3_arg {base : Nat} {v : Value} {d : DataW H} {p : List MemPlace} (hv : Value.okWide Tryz.prog W .any base 59 v) (h : DataW.Trod enc Tryz.prog W 0 (fun _ => true) true 59 v d p) (hw : Wt Tryz.prog 59 d) :
    ∃ a b c : ByteArray, v = .agg #[.string a, .string b, .string c] ∧ a.size ≤ Big ∧ b.size ≤ Big ∧ c.size ≤ Big := by
  obtain ⟨cs, rfl, hs⟩ := okWide_array Tryz.underlying59 hv
  obtain ⟨fuel, hf⟩ := h
  obtain ⟨xs, n, rfl, he, hl, hx, hf⟩ := DataW.trod_array Tryz.underlying59 hf
  rw [cellsStr3] at hl
  obtain ⟨cs⟩ := cs
  simp [Value.cells] at hl hf
  match cs, hl with
  | [c0, c1, c2], _ =>
    match xs, hx with
    | [y0, y1, y2], _ =>
      have hp := Wt.arr Tryz.underlying59 (show Wt Tryz.prog 59 (.agg [y0.1, y1.1, y2.1]) from by have := (Prod.mk.inj he).1; rw [this] at hw; exact hw)
      have f0 := hf 0 (by omega)
      have f1 := hf 1 (by omega)
      have f2 := hf 2 (by omega)
      rw [cellsOne.1] at f0 f1 f2
      obtain ⟨a, e0, ha⟩ := str_open (show DataW.trod enc Tryz.prog W 0 (fun _ => true) true n 9 [c0] = some y0 from f0) (hp _ (by simp))
      obtain ⟨b, e1, hb⟩ := str_open (show DataW.trod enc Tryz.prog W 0 (fun _ => true) true n 9 [c1] = some y1 from f1) (hp _ (by simp))
      obtain ⟨c, e2, hc⟩ := str_open (show DataW.trod enc Tryz.prog W 0 (fun _ => true) true n 9 [c2] = some y2 from f2) (hp _ (by simp))
      simp at e0 e1 e2
      subst e0; subst e1; subst e2
      exact ⟨a, b, c, rfl, ha, hb, hc⟩
theorem okStr2 : Tryz.prog.readableRec 74 = true ∧ 74 < Tryz.prog.types.size := ⟨by kernel_rfl, of_decide_eq_true (by kernel_rfl)⟩
theorem cellsStr2 : Tryz.prog.cellsOf 74 = 2 := by kernel_rfl
theorem str2_arg {base : Nat} {v : Value} {d : DataW H} {p : List MemPlace} (hv : Value.okWide Tryz.prog W .any base 74 v) (h : DataW.Trod enc Tryz.prog W 0 (fun _ => true) true 74 v d p) (hw : Wt Tryz.prog 74 d) :
    ∃ a b : ByteArray, v = .agg #[.string a, .string b] ∧ a.size ≤ Big ∧ b.size ≤ Big := by
  obtain ⟨cs, rfl, hs⟩ := okWide_array Tryz.underlying74 hv
  obtain ⟨fuel, hf⟩ := h
  obtain ⟨xs, n, rfl, he, hl, hx, hf⟩ := DataW.trod_array Tryz.underlying74 hf
  rw [cellsStr2] at hl
  obtain ⟨cs⟩ := cs
  simp [Value.cells] at hl hf
  match cs, hl with
  | [c0, c1], _ =>
    match xs, hx with
    | [y0, y1], _ =>
      have hp := Wt.arr Tryz.underlying74 (show Wt Tryz.prog 74 (.agg [y0.1, y1.1]) from by have := (Prod.mk.inj he).1; rw [this] at hw; exact hw)
      have f0 := hf 0 (by omega)
      have f1 := hf 1 (by omega)
      rw [cellsOne.1] at f0 f1
      obtain ⟨a, e0, ha⟩ := str_open (show DataW.trod enc Tryz.prog W 0 (fun _ => true) true n 9 [c0] = some y0 from f0) (hp _ (by simp))
      obtain ⟨b, e1, hb⟩ := str_open (show DataW.trod enc Tryz.prog W 0 (fun _ => true) true n 9 [c1] = some y1 from f1) (hp _ (by simp))
      simp at e0 e1
      subst e0; subst e1
      exact ⟨a, b, rfl, ha, hb⟩
theorem okDot3 : Tryz.prog.readableRec 60 = true ∧ 60 < Tryz.prog.types.size := ⟨by kernel_rfl, of_decide_eq_true (by kernel_rfl)⟩
theorem cellsDot3 : Tryz.prog.cellsOf 60 = 6 := by kernel_rfl
theorem dot3_arg {base : Nat} {v : Value} {d : DataW H} {p : List MemPlace} (hv : Value.okWide Tryz.prog W .any base 60 v) (h : DataW.Trod enc Tryz.prog W 0 (fun _ => true) true 60 v d p) :
    ∃ a b c : Dt, v = .agg #[.int .i64 a.dc, .int .i64 a.n, .int .i64 b.dc, .int .i64 b.n, .int .i64 c.dc, .int .i64 c.n] ∧ a.Ok ∧ b.Ok ∧ c.Ok := by
  obtain ⟨cs, rfl, hs⟩ := okWide_array Tryz.underlying60 hv
  obtain ⟨fuel, hf⟩ := h
  obtain ⟨xs, n, rfl, _, hl, hx, hf⟩ := DataW.trod_array Tryz.underlying60 hf
  rw [cellsDot3] at hl
  obtain ⟨cs⟩ := cs
  simp [Value.cells] at hl hf
  match cs, hl with
  | [c0, c1, c2, c3, c4, c5], _ =>
    match xs, hx with
    | [y0, y1, y2], _ =>
      have f0 := hf 0 (by omega)
      have f1 := hf 1 (by omega)
      have f2 := hf 2 (by omega)
      rw [cellsDot] at f0 f1 f2
      obtain ⟨a, e0, ha⟩ := dot_open (show DataW.trod enc Tryz.prog W 0 (fun _ => true) true n 54 [c0, c1] = some y0 from f0)
      obtain ⟨b, e1, hb⟩ := dot_open (show DataW.trod enc Tryz.prog W 0 (fun _ => true) true n 54 [c2, c3] = some y1 from f1)
      obtain ⟨c, e2, hc⟩ := dot_open (show DataW.trod enc Tryz.prog W 0 (fun _ => true) true n 54 [c4, c5] = some y2 from f2)
      simp at e0 e1 e2
      obtain ⟨rfl, rfl⟩ := e0
      obtain ⟨rfl, rfl⟩ := e1
      obtain ⟨rfl, rfl⟩ := e2
      exact ⟨a, b, c, rfl, ha, hb, hc⟩
end
end Go.Proofs.YtmphgnjodangcaaGreat
