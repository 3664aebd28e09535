/- What the laws need, part 1: Plain law: many changes of a tree, joined. No condition. causal.JoinAll. Condition: not too big, all in all. The law FlagWins answers true. No condition. -/
import Derived.Test.YtkjijbogbelilaaGreatTb2
namespace Go.Proofs.YtkjijbogbelilaaGreat
open Go.RowKit
set_option maxRecDepth 100000

theorem jn_st {x y : Kn} (hx : KOk x) (hy : KOk y) (p : List ByteArray) (d : Dt) : stE (jn x y).1 p d = jnO (stE x.1 p d) (hasC x.2 d) (stE y.1 p d) (hasC y.2 d) := stE_join hx hy p d
theorem jn_has {x y : Kn} (hx : KOk x) (hy : KOk y) (d : Dt) : hasC (jn x y).2 d = (hasC x.2 d || hasC y.2 d) := hasC_union hx.ap hy.ap d
/-- What is joined of three, in two orders. -/
theorem ja_three {x y z : Kn} (hx : KOk x) (hy : KOk y) (hz : KOk z) {l : List Kn} (hp : l.Perm [x, y, z]) : jaE l = 0 ∧ jaR l = jn (jn x y) z ∧ KOk (jn (jn x y) z) := by
  have h : ∀ u ∈ [x, y, z], KOk u := fun u hu => by simp at hu; rcases hu with rfl | rfl | rfl <;> assumption
  have h' : ∀ u ∈ l, KOk u := fun u hu => h u (hp.subset hu)
  obtain ⟨h1, h2, h3⟩ := ja_ok h
  refine ⟨(ja_ok h').1, ?_, jn_okK (jn_okK hx hy) hz⟩
  rw [jaR_perm hp, h2, jnL_three hx]
theorem kn_sz {t : Tr} (h : t.sz ≤ 60) : (knC t).length ≤ 400 := by
  have hcl : (knC t).length ≤ 4 * (t.dots.length + 1) := ctxOfK_len t.dots 4
  have hdl := dots_len t
  omega
theorem seen_sz {t : Tr} {d : Dt} (h : t.sz ≤ 60) : (seenC t d).length ≤ 4000 := by have := seenC_len t d; omega
/-- The cells of the one entry. -/
theorem one_cells {X : Tr} {e : En} (hX : X = tOne e) {W : World} {B : Nat} {A : Option Addr} {n : Nat} {vk : Value} (h : X.rd W B (.slice A X.es.length n) vk) :
    ∃ b off, A = some ⟨b, off, none⟩ ∧ b < B ∧ W.cell? ⟨b, off, none⟩ = some (.int .i64 e.dc) ∧ W.cell? ⟨b, off + 1, none⟩ = some (.int .i64 e.n) := by
  subst hX
  obtain ⟨⟨A', c, hv, _, _, h3⟩, _⟩ := rd_iff.1 h
  cases hv
  obtain ⟨b, off, rfl, hb, hc⟩ := h3 (by simp)
  obtain ⟨cs, ⟨rfl, _⟩, _, hu⟩ := hc 0 e rfl
  exact ⟨b, off, rfl, hb, by simpa using hu 0 _ rfl, by simpa using hu 1 _ rfl⟩
end Go.Proofs.YtkjijbogbelilaaGreat

namespace Go.Proofs.YtkjijbogbelilaaGreat
open Go.RowKit
set_option maxRecDepth 100000

theorem jaK_take {l : List Kn} {k : Nat} {x : Kn} (h : l[k]? = some x) (hk : jaK (l.take k) = true) : jaK (l.take (k + 1)) = caK x := by
  unfold jaK at *
  rw [List.take_add_one, h, List.all_append, hk]; simp
theorem jaK_bad {l : List Kn} {x : Kn} (h : x ∈ l) (hk : caK x = false) : jaK l = false := List.all_eq_false.2 ⟨x, h, by simp [hk]⟩
theorem jnL_take {l : List Kn} {k : Nat} {x : Kn} (h : l[k]? = some x) : jnL (l.take (k + 1)) = jn (jnL (l.take k)) x := by
  rw [List.take_add_one, h]; exact jnL_snoc _ _
theorem sum_take {α : Type} (f : α → Nat) : ∀ (l : List α) (k : Nat), ((l.take k).map f).sum ≤ (l.map f).sum
  | [], k => by simp
  | x :: l, 0 => by simp
  | x :: l, k + 1 => by have := sum_take f l k; simp only [List.take_succ_cons, List.map_cons, List.sum_cons]; omega
theorem sum_mem {α : Type} (f : α → Nat) : ∀ {l : List α} {x : α}, x ∈ l → f x ≤ (l.map f).sum
  | y :: l, x, h => by
    rcases List.mem_cons.1 h with rfl | h
    · simp
    · have := sum_mem f h; simp; omega
/-- What stands in a loop of JoinAll. -/
def JaIn (w wr : World) (x : Kn) : Prop :=
  ∃ ve vk vc, wr.heap[w.heap.size + 1]? = some (.cells #[ve, vk, vc] 29 (0, 0)) ∧ x.1.rda wr (fun b => w.heap.size + 2 ≤ b ∧ b < wr.heap.size) ve vk ∧ SlA wr (fun b => w.heap.size + 2 ≤ b ∧ b < wr.heap.size) 3 SpE vc x.2
set_option maxHeartbeats 4000000 in
theorem joinAll_any (l : List Kn) (vl : Value) (w : World) (h : SlP w w.heap.size 3 (CaE w w.heap.size) vl l) (hz1 : (l.map fun x => x.1.sz).sum ≤ 4000) (hz2 : (l.map fun x => x.2.length).sum ≤ 20000) :
    Calls Tryz.prog 29 #[vl] w (RetCE w (jaR l).1 (jaR l).2 (jaE l)) := by
  obtain ⟨A, m, rfl, c1, c2, c3⟩ := h
  unfold Big at c2
  have hb0 : Below w.heap.size w ((w.alloc (.cells #[.slice none 0 0, .slice none 0 0, .slice none 0 0] 29)).alloc (.cells #[.slice none 0 0, .slice none 0 0, .slice none 0 0] 29)) := ((Below.refl _ w).alloc (Nat.le_refl _) _).alloc (by simp) _
  have HSZ : Hid (∀ k, jaK (l.take k) = true → KOk (jnL (l.take k)) ∧ (jnL (l.take k)).1.sz ≤ 4000 ∧ (jnL (l.take k)).2.length ≤ 20000) := fun k hk => by
    have h1 := jaK_iff.1 hk
    have h2 := foldl_sz (l.take k) kn0 kn0_ok h1
    have h3 := sum_take (fun x : Kn => x.1.sz) l k
    have h4 := sum_take (fun x : Kn => x.2.length) l k
    have e1 : kn0.1.sz = 0 := rfl
    have e2 : kn0.2.length = 0 := rfl
    exact ⟨jnL_ok h1, by unfold jnL; omega, by unfold jnL; omega⟩
  have HSM : Hid (∀ x ∈ l, x.1.sz ≤ 4000 ∧ x.2.length ≤ 20000) := fun x hx => by
    have h3 := sum_mem (fun x : Kn => x.1.sz) hx
    have h4 := sum_mem (fun x : Kn => x.2.length) hx
    omega
  go_enter Tryz.func29, Tryz.ntmps29
  go_wp2_with fail
  go_loopw [11] (fun i wr => ∃ k : Nat, k ≤ l.length ∧ i = .int .i64 k ∧ Hid (jaK (l.take k) = true) ∧ JaIn w wr (jnL (l.take k)) ∧ wr.heap[w.heap.size]? = some (.cells #[.slice none 0 0, .slice none 0 0, .slice none 0 0] 29 (0, 0)) ∧ Below w.heap.size w wr) (fun i _ => l.length - (intOf i).toNat)
  case atStart =>
    refine ⟨0, Nat.zero_le _, rfl, by unfold Hid; simp [jaK], ⟨_, _, _, heap_new (by simp), rda_nil _ _, SlA.nil⟩, (heap_old (by simp)).trans (heap_new rfl), hb0⟩
  case round =>
    obtain ⟨k, hk, rfl, hall, ⟨ve, vk, vc, hG1, hrd, hsl⟩, hG0, hb⟩ := hrel
    have hsz := hb.size
    have hlt1 := lt_of_block hG1
    obtain ⟨hX, hX1, hX2⟩ := HSZ.out k hall.out
    obtain ⟨A3, n3, A4, n4, rfl, rfl⟩ := rda_shape hrd
    obtain ⟨A5, n5, rfl⟩ := hsl.shape
    have q0 := cell_cells (i := 0) hG1
    have q1 := cell_cells (i := 1) hG1
    have q2 := cell_cells (i := 2) hG1
    simp only [List.getElem?_toArray, List.getElem?_cons_zero, List.getElem?_cons_succ] at q0 q1 q2
    by_cases hlt : k < l.length
    · obtain ⟨⟨t, c⟩, hx⟩ : ∃ x, l[k]? = some x := ⟨_, List.getElem?_eq_getElem hlt⟩
      obtain ⟨b, off, rfl, hbB, hc⟩ := c3 (by rintro rfl; simp at hlt)
      obtain ⟨cs, ⟨xe, xk, xc, rfl, hrx, hsx⟩, _, hu⟩ := hc k _ hx
      simp only at hrx hsx
      obtain ⟨A6, n6, A7, n7, rfl, rfl⟩ := rd_shape hrx
      obtain ⟨A8, n8, rfl, _⟩ := id hsx
      have e0 : wr.cell? ⟨b, off + k * 3, none⟩ = some (.slice A6 t.es.length n6) := (hb.cell hbB).trans (hu 0 _ rfl)
      have e1 : wr.cell? ⟨b, off + k * 3 + 1, none⟩ = some (.slice A7 t.ks.length n7) := (hb.cell hbB).trans (hu 1 _ rfl)
      have e2 : wr.cell? ⟨b, off + k * 3 + 2, none⟩ = some (.slice A8 c.length n8) := (hb.cell hbB).trans (hu 2 _ rfl)
      have hmem := List.mem_of_getElem? hx
      obtain ⟨hs1, hs2⟩ := HSM.out _ hmem
      simp only at hs1 hs2
      have HTK := hid (jnL_take hx)
      have HJK := hid (jaK_take hx hall.out)
      have HBAD : Hid (caK (t, c) = false → jaE l = 1 ∧ jaR l = kn0) := fun h => by unfold jaE jaR; rw [jaK_bad hmem h]; exact ⟨rfl, rfl⟩
      have HXO := hid hX
      generalize hXe : jnL (l.take k) = X at *
      obtain ⟨XT, XC⟩ := X
      simp only at hX1 hX2 hrd hsl q0 q1 q2
      have hbA : Below wr.heap.size wr (wr.alloc (.cells #[.slice A6 t.es.length n6, .slice A7 t.ks.length n7, .slice A8 c.length n8] 29)) := (Below.refl _ wr).alloc (Nat.le_refl _) _
      have hbB' := hb.trans (hbA.mono hsz)
      have HRX := hid (rd_below hbB' hbB'.size _ _ _ hrx)
      have HSX : Hid (SlP (wr.alloc (.cells #[.slice A6 t.es.length n6, .slice A7 t.ks.length n7, .slice A8 c.length n8] 29)) (wr.alloc (.cells #[.slice A6 t.es.length n6, .slice A7 t.ks.length n7, .slice A8 c.length n8] 29)).heap.size 3 SpE (.slice A8 c.length n8) c) := hsx.imp hbB' hbB'.size fun _ _ _ h => h
      have HRD := hid (rda_rd hrd (fun b hb => hb.2) hbA)
      have HSL := hid (hsl.slp (fun b hb => hb.2) hbA)
      have hneb : b ≠ wr.heap.size := by omega
      have hne1 : w.heap.size + 1 ≠ wr.heap.size := by omega
      have hltb : b < wr.heap.size := by omega
      have HG0 := hid hG0
      have HG1 := hid hG1
      have HBW := hid hbB'
      clear hu hc c3 hx hmem hXe hrd hsl hrx hsx hG0 hG1 hbA hbB' hX
      have hjE : jnE XT t XC c = if caK (t, c) then 0 else 1 := by unfold jnE caK; rw [caR_iff.2 HXO.out]; rfl
      have HJE := hid hjE
      clear hjE
      go_wp2_with fail
      refine (cJoin_any XC c XT t _ _ _ _ _ _ _ HRD.out HRX.out HSL.out HSX.out hX1 hs1 hX2 hs2).mono ?_
      rw [HJE.out]
      cases hca : caK (t, c)
      · rintro e w1 ⟨ve1, vk1, vc1, rfl, hrd1, hsl1, hb1⟩
        obtain ⟨Av, nv, Aw, nw, rfl, rfl⟩ := rda_shape hrd1
        obtain ⟨Ac, nc, rfl⟩ := hsl1.shape
        obtain ⟨hE1, hE2⟩ := HBAD.out hca
        have HE1 := hid hE1
        have HE2 := hid hE2
        simp only [World.size_alloc] at hb1
        have hsz1 := hb1.size
        simp only [World.size_alloc] at hsz1
        have hG0' : w1.heap[w.heap.size]? = some (.cells #[.slice none 0 0, .slice none 0 0, .slice none 0 0] 29 (0, 0)) := (hb1.block _ (by omega)).trans ((heap_old (by omega)).trans HG0.out)
        have HG := hid hG0'
        have HBW2 := hid (HBW.out.trans (hb1.mono (by omega)))
        have k0 := cell_cells (i := 0) hG0'
        have k1 := cell_cells (i := 1) hG0'
        have k2 := cell_cells (i := 2) hG0'
        simp only [List.getElem?_toArray, List.getElem?_cons_zero, List.getElem?_cons_succ] at k0 k1 k2
        have z0 := cells_frz (i := 0) hG0'
        have z1 := cells_frz (i := 1) hG0'
        have z2 := cells_frz (i := 2) hG0'
        have hl0 : w.heap.size < w1.heap.size := by omega
        have hl0' : w.heap.size ≠ w1.heap.size := by omega
        clear hE1 hE2 hrd1 hsl1 hb1 hG0' hca
        go_wp2_with fail
        obtain ⟨r0, r1, r2, _⟩ := box3a HG.out (.slice none 0 0) (.slice none 0 0) (.slice none 0 0) (.cells #[.slice Av (jnT XT t XC c).es.length nv, .slice Aw (jnT XT t XC c).ks.length nw, .slice Ac (jnC XT t XC c).length nc] 29)
        have hBW := below_box3 HBW2.out (Nat.le_refl _) (by omega) (.slice none 0 0) (.slice none 0 0) (.slice none 0 0) (.cells #[.slice Av (jnT XT t XC c).es.length nv, .slice Aw (jnT XT t XC c).ks.length nw, .slice Ac (jnC XT t XC c).length nc] 29)
        refine bodyPost_ret (v := .tuple #[.agg #[.slice none 0 0, .slice none 0 0, .slice none 0 0], .int .i64 1]) (by simp [results, Tryz.results29, go_sem, r0, r1, r2]) rfl ⟨_, _, _, by rw [HE1.out], ?_, ?_, hBW⟩
        · rw [HE2.out]; exact rda_nil _ _
        · rw [HE2.out]; exact SlA.nil
      · have HCA := hid hca
        have hjj := jn_ok HXO.out (caK_iff.1 hca)
        simp only at hjj
        rw [hjj.2.1, hjj.2.2]
        rintro e w1 ⟨ve1, vk1, vc1, rfl, hrd1, hsl1, hb1⟩
        clear hjj hca
        have HTK' : Hid (jnL (l.take (k + 1)) = (jT XT t XC c, jC XC c)) := HTK.out
        have HJK' : Hid (jaK (l.take (k + 1)) = true) := HJK.out.trans HCA.out
        clear HTK HJK
        generalize jT XT t XC c = YT at *
        generalize jC XC c = YC at *
        obtain ⟨Av, nv, Aw, nw, rfl, rfl⟩ := rda_shape hrd1
        obtain ⟨Ac, nc, rfl⟩ := hsl1.shape
        simp only [World.size_alloc] at hb1 hrd1 hsl1
        have hsz1 := hb1.size
        simp only [World.size_alloc] at hsz1
        have hG1' : w1.heap[w.heap.size + 1]? = some (.cells #[.slice A3 XT.es.length n3, .slice A4 XT.ks.length n4, .slice A5 XC.length n5] 29 (0, 0)) := (hb1.block _ (by omega)).trans ((heap_old (by omega)).trans HG1.out)
        have hG0' : w1.heap[w.heap.size]? = some (.cells #[.slice none 0 0, .slice none 0 0, .slice none 0 0] 29 (0, 0)) := (hb1.block _ (by omega)).trans ((heap_old (by omega)).trans HG0.out)
        have HGX := hid hG1'
        have HGZ := hid hG0'
        have HBW2 := hid (HBW.out.trans (hb1.mono (by omega)))
        have HR1 := hid hrd1
        have HS1 := hid hsl1
        have k0 := cell_cells (i := 0) hG1'
        have k1 := cell_cells (i := 1) hG1'
        have k2 := cell_cells (i := 2) hG1'
        simp only [List.getElem?_toArray, List.getElem?_cons_zero, List.getElem?_cons_succ] at k0 k1 k2
        have z0 := cells_frz (i := 0) hG1'
        have z1 := cells_frz (i := 1) hG1'
        have z2 := cells_frz (i := 2) hG1'
        have hl0 : w.heap.size + 1 < w1.heap.size := by omega
        have hl0' : w.heap.size + 1 ≠ w1.heap.size := by omega
        have hl1' : w1.heap.size ≠ w.heap.size + 1 := by omega
        clear hrd1 hsl1 hb1 hG1' hG0' q0 q1 q2
        go_wp2_with fail
        obtain ⟨r0, r1, r2, hK, hS, hWW⟩ := box3a HGX.out (.slice Av YT.es.length nv) (.slice Aw YT.ks.length nw) (.slice Ac YC.length nc) (.cells #[.slice Av YT.es.length nv, .slice Aw YT.ks.length nw, .slice Ac YC.length nc] 29)
        go_roundw
        case rel =>
          refine ⟨k + 1, by omega, by go_num, HJK', ⟨.slice Av YT.es.length nv, .slice Aw YT.ks.length nw, .slice Ac YC.length nc, hWW, ?_, ?_⟩, (hK _ (by omega) (by omega)).trans HGZ.out, below_box3 HBW2.out (by omega) (by omega) _ _ _ _⟩
          · rw [HTK'.out]
            exact rda_up (fun b hb => hK b (by omega) hb.2) (fun b hb => ⟨by omega, by rw [hS]; omega⟩) _ _ _ HR1.out
          · rw [HTK'.out]
            exact HS1.out.up (fun b hb => hK b (by omega) hb.2) (fun b hb => ⟨by omega, by rw [hS]; omega⟩) (fun _ _ _ h => h)
        case measure => simp [intOf]; omega
    · obtain rfl : k = l.length := by omega
      rw [List.take_of_length_le (Nat.le_refl _)] at hrd hsl hall
      have HE : Hid (jaE l = 0) := by unfold Hid jaE; rw [hall.out]; rfl
      have HR : Hid (jaR l = jnL l) := by unfold Hid jaR; rw [hall.out]; rfl
      rw [List.take_of_length_le (Nat.le_refl _)] at q0 q1 q2 hG1
      have HRD := hid hrd
      have HSL := hid hsl
      have HG0 := hid hG0
      have HBW := hid hb
      have k0 := cell_cells (i := 0) hG0
      have k1 := cell_cells (i := 1) hG0
      have k2 := cell_cells (i := 2) hG0
      simp only [List.getElem?_toArray, List.getElem?_cons_zero, List.getElem?_cons_succ] at k0 k1 k2
      have z0 := cells_frz (i := 0) hG0
      have z1 := cells_frz (i := 1) hG0
      have z2 := cells_frz (i := 2) hG0
      generalize jnL l = X at *
      obtain ⟨XT, XC⟩ := X
      simp only at HRD HSL q0 q1 q2
      clear hrd hsl hG0 hG1 hX hX1 hX2
      go_wp2_with fail
      obtain ⟨r0, r1, r2, hK, hS⟩ := box3 HG0.out (.slice A3 XT.es.length n3) (.slice A4 XT.ks.length n4) (.slice A5 XC.length n5)
      have hBW := ((HBW.out.setCell (p := ⟨w.heap.size, 0, none⟩) (by simp) (.slice A3 XT.es.length n3)).setCell (p := ⟨w.heap.size, 1, none⟩) (by simp) (.slice A4 XT.ks.length n4)).setCell (p := ⟨w.heap.size, 2, none⟩) (by simp) (.slice A5 XC.length n5)
      refine bodyPost_ret (v := .tuple #[.agg #[.slice A3 XT.es.length n3, .slice A4 XT.ks.length n4, .slice A5 XC.length n5], .int .i64 0]) (by simp [results, Tryz.results29, go_sem, r0, r1, r2]) rfl ⟨_, _, _, by rw [HE.out], ?_, ?_, hBW⟩
      · rw [HR.out]
        exact rda_up (fun b hb => hK b (by omega)) (fun b hb => ⟨by omega, by rw [hS]; omega⟩) _ _ _ HRD.out
      · rw [HR.out]
        exact HSL.out.up (fun b hb => hK b (by omega)) (fun b hb => ⟨by omega, by rw [hS]; omega⟩) (fun _ _ _ h => h)
end Go.Proofs.YtkjijbogbelilaaGreat

namespace Go.Proofs.YtkjijbogbelilaaGreat
open Go.RowKit
set_option maxRecDepth 100000

theorem fw_plain {t : Tr} {d e : Dt} (hc : chkT t d = true) (hc2 : chkT t e = true) (hde : d ≠ e) (hz : t.sz ≤ 40) : ∃ (X Y : Tr) (S R U : List Sp), Hid (enT t d = X) ∧ Hid (disC t d = S) ∧ Hid (chkI t d = 0) ∧ Hid (disC t e = R) ∧ Hid (chkI t e = 0) ∧ Hid (Y = .mk [] []) ∧
    Hid ((jaR [(t, knC t), (X, S), (Y, R)]).1 = X) ∧ Hid ((jaR [(t, knC t), (X, S), (Y, R)]).2 = U) ∧ Hid (jaE [(t, knC t), (X, S), (Y, R)] = 0) ∧
    Hid ((jaR [(Y, R), (t, knC t), (X, S)]).1 = X) ∧ Hid ((jaR [(Y, R), (t, knC t), (X, S)]).2 = U) ∧ Hid (jaE [(Y, R), (t, knC t), (X, S)] = 0) ∧
    Hid (onB X = true) ∧ Hid (kSame X X U U = true) ∧ Hid (X = tOne ⟨d.dc, d.n, ByteArray.empty, 0⟩) ∧ X.sz ≤ 40 ∧ Y.sz ≤ 40 ∧ S.length ≤ 4000 ∧ R.length ≤ 4000 ∧ (knC t).length ≤ 400 ∧ U.length ≤ 10000 ∧ Hid (∀ d ∈ t.dots, 0 ≤ d.n ∧ d.n ≤ 1099511627778) := by
  obtain ⟨g1, g2, g3⟩ := chkT_dots hc
  obtain ⟨_, g4, g5⟩ := chkT_dots hc2
  have hk := known_ok g1
  have he : (⟨d.dc, d.n, ByteArray.empty, 0⟩ : En).right = true := dot_en_right g2
  have hed : (⟨d.dc, d.n, ByteArray.empty, 0⟩ : En).dot = d := rfl
  obtain ⟨p1, p2⟩ := turn_on (e := ⟨d.dc, d.n, ByteArray.empty, 0⟩) (by rw [hed]; exact hc) he
  rw [hed] at p1 p2
  obtain ⟨q1, q2⟩ := turn_off hc2
  have hK : KOk (t, knC t) := hk
  have hX : KOk (tOne ⟨d.dc, d.n, ByteArray.empty, 0⟩, seenC t d) := p1
  have hY : KOk (Tr.mk [] [], seenC t e) := q1
  obtain ⟨a1, a2, a3⟩ := ja_three hK hX hY (List.Perm.refl _)
  have hperm : [(Tr.mk [] [], seenC t e), (t, knC t), (tOne ⟨d.dc, d.n, ByteArray.empty, 0⟩, seenC t d)].Perm [(t, knC t), (tOne ⟨d.dc, d.n, ByteArray.empty, 0⟩, seenC t d), (Tr.mk [] [], seenC t e)] := (List.perm_append_comm (l₁ := [(Tr.mk [] [], seenC t e)]) (l₂ := [(t, knC t), (tOne ⟨d.dc, d.n, ByteArray.empty, 0⟩, seenC t d)]))
  obtain ⟨b1, b2, _⟩ := ja_three hK hX hY hperm
  have hT : (jn (jn (t, knC t) (tOne ⟨d.dc, d.n, ByteArray.empty, 0⟩, seenC t d)) (Tr.mk [] [], seenC t e)).1 = tOne ⟨d.dc, d.n, ByteArray.empty, 0⟩ := by
    refine st_ext a3.ord (tOne_ord _) fun p x => ?_
    rw [jn_st (jn_okK hK hX) hY, jn_has hK hX]
    have h1 : (jn (t, knC t) (tOne ⟨d.dc, d.n, ByteArray.empty, 0⟩, seenC t d)).1 = tOne ⟨d.dc, d.n, ByteArray.empty, 0⟩ := p2
    rw [h1, stE_one, stE_nil, seen_hasB g1 g4]
    by_cases hx : p = [] ∧ x = (⟨d.dc, d.n, ByteArray.empty, 0⟩ : En).dot
    · obtain ⟨rfl, rfl⟩ := hx
      rw [hed]
      simp [jnO, g3, hde]
    · rw [if_neg hx]; rfl
  refine ⟨_, .mk [] [], _, _, _, if_pos hc, if_pos hc, if_pos hc, if_pos hc2, if_pos hc2, rfl, (congrArg Prod.fst a2).trans hT, congrArg Prod.snd a2, a1, (congrArg Prod.fst b2).trans hT, congrArg Prod.snd b2, b1, onB_one he, ?_, rfl, by simp [Tr.sz, Tr.szL], by simp [Tr.sz, Tr.szL], seen_sz (by omega), seen_sz (by omega), kn_sz (by omega), ?_, right_nums g1⟩
  · have hs := (kSame_ok a3 a3).2 rfl
    rw [hT] at hs
    exact hs
  · have s1 := (jn_sz hK hX).2
    have s2 := (jn_sz (jn_okK hK hX) hY).2
    have s3 := kn_sz (t := t) (by omega)
    have s4 := seen_sz (t := t) (d := d) (by omega)
    have s5 := seen_sz (t := t) (d := e) (by omega)
    simp only at s1 s2 ⊢
    omega
set_option maxHeartbeats 4000000 in
theorem lawFW_any (t : Tr) (d : Dt) (e : Dt) (w : World) (ve0 vk0 : Value) (h0 : t.rd w w.heap.size ve0 vk0) (h1 : d.Ok) (h2 : e.Ok) :
    Calls Tryz.prog 13 #[.agg #[ve0, vk0], .agg #[.int .i64 d.dc, .int .i64 d.n], .agg #[.int .i64 e.dc, .int .i64 e.n]] w fun e w' => e = .returned (.bool true) ∧ Below w.heap.size w w' := by
  have HC0 : Hid (∀ w', Below w.heap.size w w' → t.rd w' w'.heap.size ve0 vk0) := fun w' hb => rd_below hb hb.size _ _ _ h0
  obtain ⟨A0, n0, B0, m0, rfl, rfl⟩ := rd_shape h0
  clear h0
  have HX0 : Hid (∀ W, Below (w.heap.size + 3) (((w.alloc (.cells #[.slice A0 t.es.length n0, .slice B0 t.ks.length m0] 25)).alloc (.cells #[.int .i64 d.dc, .int .i64 d.n] 42)).alloc (.cells #[.int .i64 e.dc, .int .i64 e.n] 42)) W → (Below w.heap.size w W ∧ w.heap.size + 3 ≤ (W).heap.size ∧ t.rd W (W).heap.size (.slice A0 t.es.length n0) (.slice B0 t.ks.length m0) ∧ (W).cell? ⟨w.heap.size, 0, none⟩ = some (.slice A0 t.es.length n0) ∧ (W).cell? ⟨w.heap.size, 1, none⟩ = some (.slice B0 t.ks.length m0) ∧ (W).cell? ⟨(w.heap.size + 1), 0, none⟩ = some (.int .i64 d.dc) ∧ (W).cell? ⟨(w.heap.size + 1), 1, none⟩ = some (.int .i64 d.n) ∧ (W).cell? ⟨(w.heap.size + 2), 0, none⟩ = some (.int .i64 e.dc) ∧ (W).cell? ⟨(w.heap.size + 2), 1, none⟩ = some (.int .i64 e.n))) := fun W hW => by
    have g0 : W.heap[w.heap.size]? = some (.cells #[.slice A0 t.es.length n0, .slice B0 t.ks.length m0] 25 (0, 0)) := (hW.block _ (by omega)).trans ((heap_old (by simp <;> omega)).trans ((heap_old (by simp <;> omega)).trans (heap_new rfl)))
    have g1 : W.heap[(w.heap.size + 1)]? = some (.cells #[.int .i64 d.dc, .int .i64 d.n] 42 (0, 0)) := (hW.block _ (by omega)).trans ((heap_old (by simp <;> omega)).trans (heap_new (by simp)))
    have g2 : W.heap[(w.heap.size + 2)]? = some (.cells #[.int .i64 e.dc, .int .i64 e.n] 42 (0, 0)) := (hW.block _ (by omega)).trans (heap_new (by simp))
    have hB : Below w.heap.size w W := ((((Below.refl _ w).alloc (Nat.le_refl _) _).alloc (by simp <;> omega) _).alloc (by simp <;> omega) _).trans (hW.mono (by omega))
    exact ⟨hB, by have := hW.size; simpa using this, HC0.out _ hB, cell_cells (i := 0) g0, cell_cells (i := 1) g0, cell_cells (i := 0) g1, cell_cells (i := 1) g1, cell_cells (i := 0) g2, cell_cells (i := 1) g2⟩
  have hnb1 : w.heap.size + 1 ≠ w.heap.size := by omega
  have hnb2 : w.heap.size + 2 ≠ w.heap.size := by omega
  go_enter Tryz.func13, Tryz.ntmps13
  have gg := guardDot
  have nn := eqlDot d e
  go_wp2_with fail
  obtain ⟨hB, hs, rt0, c00, c01, c10, c11, c20, c21⟩ := HX0.out _ (Below.refl _ _)
  refine (awake10_any _).mono ?_
  rintro e w1 ⟨rfl, hb⟩
  have hbk1 : Hid (Below (w.heap.size + 3) (((w.alloc (.cells #[.slice A0 t.es.length n0, .slice B0 t.ks.length m0] 25)).alloc (.cells #[.int .i64 d.dc, .int .i64 d.n] 42)).alloc (.cells #[.int .i64 e.dc, .int .i64 e.n] 42)) w1) := hid (hb.mono (by first | omega | (simp; done) | (simp; omega)))
  clear hb
  clear hB hs rt0 c00 c01 c10 c11 c20 c21
  obtain ⟨hB, hs, rt0, c00, c01, c10, c11, c20, c21⟩ := HX0.out _ hbk1.out
  go_wp2_with fail
  refine (small10_any t _ _ _ rt0).mono ?_
  rintro e w2 ⟨rfl, hb⟩
  have hbk2 : Hid (Below (w.heap.size + 3) (((w.alloc (.cells #[.slice A0 t.es.length n0, .slice B0 t.ks.length m0] 25)).alloc (.cells #[.int .i64 d.dc, .int .i64 d.n] 42)).alloc (.cells #[.int .i64 e.dc, .int .i64 e.n] 42)) w2) := hid (hbk1.out.trans (hb.mono (by first | omega | (simp; done) | (simp; omega))))
  clear hb
  clear hB hs rt0 c00 c01 c10 c11 c20 c21
  obtain ⟨hB, hs, rt0, c00, c01, c10, c11, c20, c21⟩ := HX0.out _ hbk2.out
  cases hs : smlB t 40
  · clear hs
    go_wp2_with fail
    refine (awake10_any _).mono ?_
    rintro e w3 ⟨rfl, hb⟩
    have hbk3 : Hid (Below (w.heap.size + 3) (((w.alloc (.cells #[.slice A0 t.es.length n0, .slice B0 t.ks.length m0] 25)).alloc (.cells #[.int .i64 d.dc, .int .i64 d.n] 42)).alloc (.cells #[.int .i64 e.dc, .int .i64 e.n] 42)) w3) := hid (hbk2.out.trans (hb.mono (by first | omega | (simp; done) | (simp; omega))))
    clear hb
    clear hB hs rt0 c00 c01 c10 c11 c20 c21
    obtain ⟨hB, hs, rt0, c00, c01, c10, c11, c20, c21⟩ := HX0.out _ hbk3.out
    go_wp2_with fail
    go_ret
    exact ⟨rfl, hB⟩
  have hsz : t.sz ≤ 40 := by have := sml_sz hs; omega
  clear hs
  have hnd := fun (h : decide (d = e) = true) => h
  cases hde : decide (d = e)
  · skip
    clear hnd
    go_wp2_with fail
    refine (r10check_any t d _ _ _ rt0 (by omega)).mono ?_
    rintro e w3 ⟨rfl, hb⟩
    have hbk3 : Hid (Below (w.heap.size + 3) (((w.alloc (.cells #[.slice A0 t.es.length n0, .slice B0 t.ks.length m0] 25)).alloc (.cells #[.int .i64 d.dc, .int .i64 d.n] 42)).alloc (.cells #[.int .i64 e.dc, .int .i64 e.n] 42)) w3) := hid (hbk2.out.trans (hb.mono (by first | omega | (simp; done) | (simp; omega))))
    clear hb
    clear hB hs rt0 c00 c01 c10 c11 c20 c21
    obtain ⟨hB, hs, rt0, c00, c01, c10, c11, c20, c21⟩ := HX0.out _ hbk3.out
    cases hc : chkT t d
    · clear hc
      go_wp2_with fail
      refine (awake10_any _).mono ?_
      rintro e w4 ⟨rfl, hb⟩
      have hbk4 : Hid (Below (w.heap.size + 3) (((w.alloc (.cells #[.slice A0 t.es.length n0, .slice B0 t.ks.length m0] 25)).alloc (.cells #[.int .i64 d.dc, .int .i64 d.n] 42)).alloc (.cells #[.int .i64 e.dc, .int .i64 e.n] 42)) w4) := hid (hbk3.out.trans (hb.mono (by first | omega | (simp; done) | (simp; omega))))
      clear hb
      clear hB hs rt0 c00 c01 c10 c11 c20 c21
      obtain ⟨hB, hs, rt0, c00, c01, c10, c11, c20, c21⟩ := HX0.out _ hbk4.out
      go_wp2_with fail
      go_ret
      exact ⟨rfl, hB⟩
    go_wp2_with fail
    refine (r10check_any t e _ _ _ rt0 (by omega)).mono ?_
    rintro e w4 ⟨rfl, hb⟩
    have hbk4 : Hid (Below (w.heap.size + 3) (((w.alloc (.cells #[.slice A0 t.es.length n0, .slice B0 t.ks.length m0] 25)).alloc (.cells #[.int .i64 d.dc, .int .i64 d.n] 42)).alloc (.cells #[.int .i64 e.dc, .int .i64 e.n] 42)) w4) := hid (hbk3.out.trans (hb.mono (by first | omega | (simp; done) | (simp; omega))))
    clear hb
    clear hB hs rt0 c00 c01 c10 c11 c20 c21
    obtain ⟨hB, hs, rt0, c00, c01, c10, c11, c20, c21⟩ := HX0.out _ hbk4.out
    cases hc2 : chkT t e
    · clear hc2
      go_wp2_with fail
      refine (awake10_any _).mono ?_
      rintro e w5 ⟨rfl, hb⟩
      have hbk5 : Hid (Below (w.heap.size + 3) (((w.alloc (.cells #[.slice A0 t.es.length n0, .slice B0 t.ks.length m0] 25)).alloc (.cells #[.int .i64 d.dc, .int .i64 d.n] 42)).alloc (.cells #[.int .i64 e.dc, .int .i64 e.n] 42)) w5) := hid (hbk4.out.trans (hb.mono (by first | omega | (simp; done) | (simp; omega))))
      clear hb
      clear hB hs rt0 c00 c01 c10 c11 c20 c21
      obtain ⟨hB, hs, rt0, c00, c01, c10, c11, c20, c21⟩ := HX0.out _ hbk5.out
      go_wp2_with fail
      go_ret
      exact ⟨rfl, hB⟩
    obtain ⟨X, Y, S, R, U, HEN, HDI1, HCI1, HDI, HCI, HYN, HA1, HA2, HA3, HB1, HB2, HB3, HON, HSM, HXO, hX1, hY1, hS1, hR1, hK1, hU1, HN⟩ := fw_plain hc hc2 (by simpa using hde) hsz
    clear hc hc2 hde nn
    go_wp2_with fail
    refine (fenable_any t d _ _ _ rt0 (by omega) h1).mono ?_
    rw [HEN.out, HDI1.out, HCI1.out]
    rintro e w5 ⟨xe5, xk5, xc5, rfl, hrd5, hsl5, hb⟩
    obtain ⟨A5x, n5x, B5x, m5x, rfl, rfl⟩ := rda_shape hrd5
    obtain ⟨D5x, k5x, rfl⟩ := hsl5.shape
    have hbk5 : Hid (Below (w.heap.size + 3) (((w.alloc (.cells #[.slice A0 t.es.length n0, .slice B0 t.ks.length m0] 25)).alloc (.cells #[.int .i64 d.dc, .int .i64 d.n] 42)).alloc (.cells #[.int .i64 e.dc, .int .i64 e.n] 42)) w5) := hid (hbk4.out.trans (hb.mono (by first | omega | (simp; done) | (simp; omega))))
    clear hb
    clear hB hs rt0 c00 c01 c10 c11 c20 c21
    obtain ⟨hB, hs, rt0, c00, c01, c10, c11, c20, c21⟩ := HX0.out _ hbk5.out
    have hlt5382 : w.heap.size < w5.heap.size := by omega
    have hne5382 : w.heap.size ≠ w5.heap.size := by omega
    have hlt5650 : (w.heap.size + 1) < w5.heap.size := by omega
    have hne5650 : (w.heap.size + 1) ≠ w5.heap.size := by omega
    have hlt5805 : (w.heap.size + 2) < w5.heap.size := by omega
    have hne5805 : (w.heap.size + 2) ≠ w5.heap.size := by omega
    have HX1 : Hid (∀ W, Below (w5.heap.size + 1) (w5.alloc (.cells #[.slice A5x X.es.length n5x, .slice B5x X.ks.length m5x, .slice D5x S.length k5x] 29)) W → (w5.heap.size + 1 ≤ (W).heap.size ∧ X.rd W (W).heap.size (.slice A5x X.es.length n5x) (.slice B5x X.ks.length m5x) ∧ SlP W (W).heap.size 3 SpE (.slice D5x S.length k5x) S ∧ (W).cell? ⟨w5.heap.size, 0, none⟩ = some (.slice A5x X.es.length n5x) ∧ (W).cell? ⟨w5.heap.size, 1, none⟩ = some (.slice B5x X.ks.length m5x) ∧ (W).cell? ⟨w5.heap.size, 2, none⟩ = some (.slice D5x S.length k5x) ∧ Below w.heap.size w W ∧ w.heap.size + 3 ≤ (W).heap.size ∧ t.rd W (W).heap.size (.slice A0 t.es.length n0) (.slice B0 t.ks.length m0) ∧ (W).cell? ⟨w.heap.size, 0, none⟩ = some (.slice A0 t.es.length n0) ∧ (W).cell? ⟨w.heap.size, 1, none⟩ = some (.slice B0 t.ks.length m0) ∧ (W).cell? ⟨(w.heap.size + 1), 0, none⟩ = some (.int .i64 d.dc) ∧ (W).cell? ⟨(w.heap.size + 1), 1, none⟩ = some (.int .i64 d.n) ∧ (W).cell? ⟨(w.heap.size + 2), 0, none⟩ = some (.int .i64 e.dc) ∧ (W).cell? ⟨(w.heap.size + 2), 1, none⟩ = some (.int .i64 e.n))) := fun W hW => by
      have g0 := (hW.block w5.heap.size (by omega)).trans (heap_new rfl)
      have hB : Below w5.heap.size w5 W := ((Below.refl _ w5).alloc (Nat.le_refl _) _).trans (hW.mono (by omega))
      exact ⟨by have := hW.size; simpa using this, rda_rd hrd5 (fun b hb => hb.2) hB, hsl5.slp (fun b hb => hb.2) hB, cell_cells (i := 0) g0, cell_cells (i := 1) g0, cell_cells (i := 2) g0, HX0.out W (hbk5.out.trans (hB.mono (by omega)))⟩
    clear hrd5 hsl5
    go_wp2_with fail
    clear hB hs rt0 c00 c01 c10 c11 c20 c21
    obtain ⟨hs_x, rt_x, rc_x, c0_x, c1_x, c2_x, hB, hs, rt0, c00, c01, c10, c11, c20, c21⟩ := HX1.out _ (Below.refl _ _)
    refine (fdisable_any t e _ _ _ rt0 (by omega) h2).mono ?_
    rw [HDI.out, HCI.out, ← HYN.out]
    rintro e w6 ⟨xe6, xk6, xc6, rfl, hrd6, hsl6, hb⟩
    obtain ⟨A6x, n6x, B6x, m6x, rfl, rfl⟩ := rda_shape hrd6
    obtain ⟨D6x, k6x, rfl⟩ := hsl6.shape
    have hbk6 : Hid (Below (w5.heap.size + 1) (w5.alloc (.cells #[.slice A5x X.es.length n5x, .slice B5x X.ks.length m5x, .slice D5x S.length k5x] 29)) w6) := hid (hb.mono (by first | omega | (simp; done) | (simp; omega)))
    clear hb
    clear hs_x rt_x rc_x c0_x c1_x c2_x hB hs rt0 c00 c01 c10 c11 c20 c21
    obtain ⟨hs_x, rt_x, rc_x, c0_x, c1_x, c2_x, hB, hs, rt0, c00, c01, c10, c11, c20, c21⟩ := HX1.out _ hbk6.out
    have hlt6382 : w.heap.size < w6.heap.size := by omega
    have hne6382 : w.heap.size ≠ w6.heap.size := by omega
    have hlt6650 : (w.heap.size + 1) < w6.heap.size := by omega
    have hne6650 : (w.heap.size + 1) ≠ w6.heap.size := by omega
    have hlt6805 : (w.heap.size + 2) < w6.heap.size := by omega
    have hne6805 : (w.heap.size + 2) ≠ w6.heap.size := by omega
    have hlt6887 : w5.heap.size < w6.heap.size := by omega
    have hne6887 : w5.heap.size ≠ w6.heap.size := by omega
    have HX2 : Hid (∀ W, Below (w6.heap.size + 1) (w6.alloc (.cells #[.slice A6x Y.es.length n6x, .slice B6x Y.ks.length m6x, .slice D6x R.length k6x] 29)) W → (w6.heap.size + 1 ≤ (W).heap.size ∧ Y.rd W (W).heap.size (.slice A6x Y.es.length n6x) (.slice B6x Y.ks.length m6x) ∧ SlP W (W).heap.size 3 SpE (.slice D6x R.length k6x) R ∧ (W).cell? ⟨w6.heap.size, 0, none⟩ = some (.slice A6x Y.es.length n6x) ∧ (W).cell? ⟨w6.heap.size, 1, none⟩ = some (.slice B6x Y.ks.length m6x) ∧ (W).cell? ⟨w6.heap.size, 2, none⟩ = some (.slice D6x R.length k6x) ∧ w5.heap.size + 1 ≤ (W).heap.size ∧ X.rd W (W).heap.size (.slice A5x X.es.length n5x) (.slice B5x X.ks.length m5x) ∧ SlP W (W).heap.size 3 SpE (.slice D5x S.length k5x) S ∧ (W).cell? ⟨w5.heap.size, 0, none⟩ = some (.slice A5x X.es.length n5x) ∧ (W).cell? ⟨w5.heap.size, 1, none⟩ = some (.slice B5x X.ks.length m5x) ∧ (W).cell? ⟨w5.heap.size, 2, none⟩ = some (.slice D5x S.length k5x) ∧ Below w.heap.size w W ∧ w.heap.size + 3 ≤ (W).heap.size ∧ t.rd W (W).heap.size (.slice A0 t.es.length n0) (.slice B0 t.ks.length m0) ∧ (W).cell? ⟨w.heap.size, 0, none⟩ = some (.slice A0 t.es.length n0) ∧ (W).cell? ⟨w.heap.size, 1, none⟩ = some (.slice B0 t.ks.length m0) ∧ (W).cell? ⟨(w.heap.size + 1), 0, none⟩ = some (.int .i64 d.dc) ∧ (W).cell? ⟨(w.heap.size + 1), 1, none⟩ = some (.int .i64 d.n) ∧ (W).cell? ⟨(w.heap.size + 2), 0, none⟩ = some (.int .i64 e.dc) ∧ (W).cell? ⟨(w.heap.size + 2), 1, none⟩ = some (.int .i64 e.n))) := fun W hW => by
      have g0 := (hW.block w6.heap.size (by omega)).trans (heap_new rfl)
      have hB : Below w6.heap.size w6 W := ((Below.refl _ w6).alloc (Nat.le_refl _) _).trans (hW.mono (by omega))
      exact ⟨by have := hW.size; simpa using this, rda_rd hrd6 (fun b hb => hb.2) hB, hsl6.slp (fun b hb => hb.2) hB, cell_cells (i := 0) g0, cell_cells (i := 1) g0, cell_cells (i := 2) g0, HX1.out W (hbk6.out.trans (hB.mono (by omega)))⟩
    clear hrd6 hsl6
    go_upto_region 5 with (fail)
    clear hs_x rt_x rc_x c0_x c1_x c2_x hB hs rt0 c00 c01 c10 c11 c20 c21
    obtain ⟨hs_y, rt_y, rc_y, c0_y, c1_y, c2_y, hs_x, rt_x, rc_x, c0_x, c1_x, c2_x, hB, hs, rt0, c00, c01, c10, c11, c20, c21⟩ := HX2.out _ (Below.refl _ _)
    have HK1 : Hid (∀ W, Below (w6.heap.size + 1) (w6.alloc (.cells #[.slice A6x Y.es.length n6x, .slice B6x Y.ks.length m6x, .slice D6x R.length k6x] 29)) W → ((W).cell? ⟨w6.heap.size, 0, none⟩ = some (.slice A6x Y.es.length n6x) ∧ (W).cell? ⟨w6.heap.size, 1, none⟩ = some (.slice B6x Y.ks.length m6x) ∧ (W).cell? ⟨w6.heap.size, 2, none⟩ = some (.slice D6x R.length k6x) ∧ (W).cell? ⟨w5.heap.size, 0, none⟩ = some (.slice A5x X.es.length n5x) ∧ (W).cell? ⟨w5.heap.size, 1, none⟩ = some (.slice B5x X.ks.length m5x) ∧ (W).cell? ⟨w5.heap.size, 2, none⟩ = some (.slice D5x S.length k5x) ∧ (W).cell? ⟨w.heap.size, 0, none⟩ = some (.slice A0 t.es.length n0) ∧ (W).cell? ⟨w.heap.size, 1, none⟩ = some (.slice B0 t.ks.length m0))) := fun W hW => by
      obtain ⟨_, _, _, z_c0_y, z_c1_y, z_c2_y, _, _, _, z_c0_x, z_c1_x, z_c2_x, _, _, _, z_c00, z_c01, _, _, _, _⟩ := HX2.out W hW
      exact ⟨z_c0_y, z_c1_y, z_c2_y, z_c0_x, z_c1_x, z_c2_x, z_c00, z_c01⟩
    have Hrt_y_1 : Hid (∀ W, Below (w6.heap.size + 1) (w6.alloc (.cells #[.slice A6x Y.es.length n6x, .slice B6x Y.ks.length m6x, .slice D6x R.length k6x] 29)) W → Y.rd W (W).heap.size (.slice A6x Y.es.length n6x) (.slice B6x Y.ks.length m6x)) := fun W hW => by
      obtain ⟨_, z, _, _, _, _, _, _, _, _, _, _, _, _, _, _, _, _, _, _, _⟩ := HX2.out W hW
      exact z
    have Hrc_y_1 : Hid (∀ W, Below (w6.heap.size + 1) (w6.alloc (.cells #[.slice A6x Y.es.length n6x, .slice B6x Y.ks.length m6x, .slice D6x R.length k6x] 29)) W → SlP W (W).heap.size 3 SpE (.slice D6x R.length k6x) R) := fun W hW => by
      obtain ⟨_, _, z, _, _, _, _, _, _, _, _, _, _, _, _, _, _, _, _, _, _⟩ := HX2.out W hW
      exact z
    have Hrt_x_1 : Hid (∀ W, Below (w6.heap.size + 1) (w6.alloc (.cells #[.slice A6x Y.es.length n6x, .slice B6x Y.ks.length m6x, .slice D6x R.length k6x] 29)) W → X.rd W (W).heap.size (.slice A5x X.es.length n5x) (.slice B5x X.ks.length m5x)) := fun W hW => by
      obtain ⟨_, _, _, _, _, _, _, z, _, _, _, _, _, _, _, _, _, _, _, _, _⟩ := HX2.out W hW
      exact z
    have Hrc_x_1 : Hid (∀ W, Below (w6.heap.size + 1) (w6.alloc (.cells #[.slice A6x Y.es.length n6x, .slice B6x Y.ks.length m6x, .slice D6x R.length k6x] 29)) W → SlP W (W).heap.size 3 SpE (.slice D5x S.length k5x) S) := fun W hW => by
      obtain ⟨_, _, _, _, _, _, _, _, z, _, _, _, _, _, _, _, _, _, _, _, _⟩ := HX2.out W hW
      exact z
    have Hrt0_1 : Hid (∀ W, Below (w6.heap.size + 1) (w6.alloc (.cells #[.slice A6x Y.es.length n6x, .slice B6x Y.ks.length m6x, .slice D6x R.length k6x] 29)) W → t.rd W (W).heap.size (.slice A0 t.es.length n0) (.slice B0 t.ks.length m0)) := fun W hW => by
      obtain ⟨_, _, _, _, _, _, _, _, _, _, _, _, _, _, z, _, _, _, _, _, _⟩ := HX2.out W hW
      exact z
    have HS_1 : Hid (∀ W, Below (w6.heap.size + 1) (w6.alloc (.cells #[.slice A6x Y.es.length n6x, .slice B6x Y.ks.length m6x, .slice D6x R.length k6x] 29)) W → (w6.heap.size + 1) ≤ W.heap.size) := fun W hW => by
      have := hW.size
      first | omega | (simp at this; omega)
    have hsb1 := HS_1.out _ (Below.refl _ _)
    clear rt_y rc_y rt_x rc_x hB rt0 c10 c11 c20 c21
    go_cut [11, 12] (fun s11 s12 wx => s12 = .int .i64 0 ∧ Box3 (w6.heap.size + 1) (w6.alloc (.cells #[.slice A6x Y.es.length n6x, .slice B6x Y.ks.length m6x, .slice D6x R.length k6x] 29)) 29 X U s11 wx)
    case first =>
      go_region_held3 (fun W => (W).cell? ⟨w6.heap.size, 0, none⟩ = some (.slice A6x Y.es.length n6x) ∧ (W).cell? ⟨w6.heap.size, 1, none⟩ = some (.slice B6x Y.ks.length m6x) ∧ (W).cell? ⟨w6.heap.size, 2, none⟩ = some (.slice D6x R.length k6x) ∧ (W).cell? ⟨w5.heap.size, 0, none⟩ = some (.slice A5x X.es.length n5x) ∧ (W).cell? ⟨w5.heap.size, 1, none⟩ = some (.slice B5x X.ks.length m5x) ∧ (W).cell? ⟨w5.heap.size, 2, none⟩ = some (.slice D5x S.length k5x) ∧ (W).cell? ⟨w.heap.size, 0, none⟩ = some (.slice A0 t.es.length n0) ∧ (W).cell? ⟨w.heap.size, 1, none⟩ = some (.slice B0 t.ks.length m0))
        (first | go_keep | exact HK1.out _ hbr8.out | exact HK1.out _ (hbr8.out.trans (by go_grown)) | exact HK1.out _ hbr7.out | exact HK1.out _ (hbr7.out.trans (by go_grown)) | exact HK1.out _ (by go_grown) | fail)
        (first
          | (go_at_call 29; go_loud ((refine (joinAll_any [(t, knC t), (X, S), (Y, R)] _ _ (slp3 (by first | exact heap_new rfl | exact heap_new (by simp) | exact (heap_old (by simp)).trans (heap_new rfl) | exact (heap_old (by simp)).trans (heap_new (by simp))) (kn_at (Hrt0_1.out _ (hbr7.out.trans (by go_grown))) (HLK.out _ (by go_grown))) (kn_at (Hrt_x_1.out _ (hbr7.out.trans (by go_grown))) (Hrc_x_1.out _ (hbr7.out.trans (by go_grown)))) (kn_at (Hrt_y_1.out _ (hbr7.out.trans (by go_grown))) (Hrc_y_1.out _ (hbr7.out.trans (by go_grown)))) (by first | (simp; done) | (simp; omega))) (by simp; omega) (by simp; omega)).mono ?_); rw [HA1.out, HA2.out, HA3.out]; rintro e w8 ⟨xe8, xk8, xc8, rfl, hrd8, hsl8, hb⟩; have hbr8 : Hid (Below (w6.heap.size + 1) (w6.alloc (.cells #[.slice A6x Y.es.length n6x, .slice B6x Y.ks.length m6x, .slice D6x R.length k6x] 29)) w8) := hid (Below.trans (hbr7.out.trans (by go_grown)) (hb.mono (by first | omega | (simp; done) | (simp; omega)))); have hsr8 := HS_1.out _ hbr8.out; have hch7_8 : Hid (Below w7.heap.size w7 w8) := hid (Below.trans (by go_grown) (hb.mono (by first | omega | (simp; done) | (simp; omega)))); obtain ⟨Ar8, nr8, Br8, mr8, hv1, hv2⟩ := rda_shape hrd8; subst hv1; subst hv2; obtain ⟨Dr8, kr8, hv3⟩ := hsl8.shape; subst hv3; have HR8 := hid hrd8; have HL8 := hid hsl8; clear hrd8 hsl8; (first | (have HG8 : Hid (w8.heap[w7.heap.size]? = some (.cells #[.slice none 0 0, .slice none 0 0, .slice none 0 0] 29 (0, 0))) := hid (z_newS hb); have k0 : w8.cell? ⟨w7.heap.size, 0, none⟩ = some (.slice none 0 0) := cell_cells (i := 0) HG8.out; have k1 : w8.cell? ⟨w7.heap.size, 1, none⟩ = some (.slice none 0 0) := cell_cells (i := 1) HG8.out; have k2 : w8.cell? ⟨w7.heap.size, 2, none⟩ = some (.slice none 0 0) := cell_cells (i := 2) HG8.out; have z0 := cells_frz (i := 0) HG8.out; have z1 := cells_frz (i := 1) HG8.out; have z2 := cells_frz (i := 2) HG8.out; have hna0 : w.heap.size ≠ w7.heap.size := (by omega); have hnb0 : w7.heap.size ≠ w.heap.size := (by omega); have hna1 : (w.heap.size + 1) ≠ w7.heap.size := (by omega); have hnb1 : w7.heap.size ≠ (w.heap.size + 1) := (by omega); have hna2 : (w.heap.size + 2) ≠ w7.heap.size := (by omega); have hnb2 : w7.heap.size ≠ (w.heap.size + 2) := (by omega); have hna3 : w5.heap.size ≠ w7.heap.size := (by omega); have hnb3 : w7.heap.size ≠ w5.heap.size := (by omega); have hna4 : w6.heap.size ≠ w7.heap.size := (by omega); have hnb4 : w7.heap.size ≠ w6.heap.size := (by omega)) | (have HG8 : Hid (w8.heap[(w7.heap.size + 1)]? = some (.cells #[.slice none 0 0, .slice none 0 0, .slice none 0 0] 29 (0, 0))) := hid (z_new2 hb); have k0 : w8.cell? ⟨(w7.heap.size + 1), 0, none⟩ = some (.slice none 0 0) := cell_cells (i := 0) HG8.out; have k1 : w8.cell? ⟨(w7.heap.size + 1), 1, none⟩ = some (.slice none 0 0) := cell_cells (i := 1) HG8.out; have k2 : w8.cell? ⟨(w7.heap.size + 1), 2, none⟩ = some (.slice none 0 0) := cell_cells (i := 2) HG8.out; have z0 := cells_frz (i := 0) HG8.out; have z1 := cells_frz (i := 1) HG8.out; have z2 := cells_frz (i := 2) HG8.out; have hna0 : w.heap.size ≠ (w7.heap.size + 1) := (by omega); have hnb0 : (w7.heap.size + 1) ≠ w.heap.size := (by omega); have hna1 : (w.heap.size + 1) ≠ (w7.heap.size + 1) := (by omega); have hnb1 : (w7.heap.size + 1) ≠ (w.heap.size + 1) := (by omega); have hna2 : (w.heap.size + 2) ≠ (w7.heap.size + 1) := (by omega); have hnb2 : (w7.heap.size + 1) ≠ (w.heap.size + 2) := (by omega); have hna3 : w5.heap.size ≠ (w7.heap.size + 1) := (by omega); have hnb3 : (w7.heap.size + 1) ≠ w5.heap.size := (by omega); have hna4 : w6.heap.size ≠ (w7.heap.size + 1) := (by omega); have hnb4 : (w7.heap.size + 1) ≠ w6.heap.size := (by omega)) | (have HG8 : Hid (w8.heap[(w6.heap.size + 1)]? = some (.cells #[.slice none 0 0, .slice none 0 0, .slice none 0 0] 29 (0, 0))) := hid ((hb.block _ (by have := lt_of_block HGA.out; first | omega | (simp; omega))).trans ((heap_old (lt_of_block HGA.out)).trans HGA.out)); have k0 : w8.cell? ⟨(w6.heap.size + 1), 0, none⟩ = some (.slice none 0 0) := cell_cells (i := 0) HG8.out; have k1 : w8.cell? ⟨(w6.heap.size + 1), 1, none⟩ = some (.slice none 0 0) := cell_cells (i := 1) HG8.out; have k2 : w8.cell? ⟨(w6.heap.size + 1), 2, none⟩ = some (.slice none 0 0) := cell_cells (i := 2) HG8.out; have z0 := cells_frz (i := 0) HG8.out; have z1 := cells_frz (i := 1) HG8.out; have z2 := cells_frz (i := 2) HG8.out; have hna0 : w.heap.size ≠ (w6.heap.size + 1) := (by omega); have hnb0 : (w6.heap.size + 1) ≠ w.heap.size := (by omega); have hna1 : (w.heap.size + 1) ≠ (w6.heap.size + 1) := (by omega); have hnb1 : (w6.heap.size + 1) ≠ (w.heap.size + 1) := (by omega); have hna2 : (w.heap.size + 2) ≠ (w6.heap.size + 1) := (by omega); have hnb2 : (w6.heap.size + 1) ≠ (w.heap.size + 2) := (by omega); have hna3 : w5.heap.size ≠ (w6.heap.size + 1) := (by omega); have hnb3 : (w6.heap.size + 1) ≠ w5.heap.size := (by omega); have hna4 : w6.heap.size ≠ (w6.heap.size + 1) := (by omega); have hnb4 : (w6.heap.size + 1) ≠ w6.heap.size := (by omega)) | skip); clear hb))
          | (go_at_call 47; go_loud ((refine (r10known_any t _ _ _ (Hrt0_1.out _ (by go_grown)) (by omega) HN.out).mono ?_); rintro e w7 ⟨vc7, rfl, hsl7, hb⟩; have hbr7 : Hid (Below (w6.heap.size + 1) (w6.alloc (.cells #[.slice A6x Y.es.length n6x, .slice B6x Y.ks.length m6x, .slice D6x R.length k6x] 29)) w7) := hid (Below.trans (by go_grown) (hb.mono (by first | omega | (simp; done) | (simp; omega)))); have hsr7 := HS_1.out _ hbr7.out; (first | (have HGA : Hid (w7.heap[(w6.heap.size + 1)]? = some (.cells #[.slice none 0 0, .slice none 0 0, .slice none 0 0] 29 (0, 0))) := hid (z_new2D hb)) | (have HGA : Hid (w7.heap[(w6.heap.size + 1)]? = some (.cells #[.slice none 0 0, .slice none 0 0, .slice none 0 0] 29 (0, 0))) := hid (z_newD hb)) | (have HGA : Hid (w7.heap[(w6.heap.size + 1)]? = some (.cells #[.slice none 0 0, .slice none 0 0, .slice none 0 0] 29 (0, 0))) := hid (z_new2 hb)) | (have HGA : Hid (w7.heap[(w6.heap.size + 1)]? = some (.cells #[.slice none 0 0, .slice none 0 0, .slice none 0 0] 29 (0, 0))) := hid (z_new hb)) | skip); obtain ⟨Dr7, kr7, hv3⟩ := hsl7.shape; subst hv3; have HL7 := hid hsl7; clear hsl7; have HLK : Hid (∀ W, Below w7.heap.size w7 W → SlP W W.heap.size 3 SpE (.slice Dr7 ((ctxOf t.dots)).length kr7) (ctxOf t.dots)) := fun W hW => HL7.out.slp (fun b hb => hb.2) hW; clear hb)))
      all_goals
        go_wp2_with fail
        go_meet
        case rel => exact ⟨rfl, (by first | exact box_new hbr8.out (HS_1.out _ hbr8.out) HR8.out HL8.out | exact box_set HG8.out hbr8.out (by omega) (by first | (simp; done) | (simp; omega) | exact lt_of_block HGA.out | (have := lt_of_block HGA.out; simp; omega)) HR8.out HL8.out)⟩
    case rest =>
      obtain ⟨rfl, g9, xe9, xk9, xc9, rfl, hG9, hrd9, hsl9, hbz⟩ := hcut
      obtain ⟨A9x, n9x, B9x, m9x, rfl, rfl⟩ := rd_shape hrd9
      obtain ⟨D9x, k9x, rfl, _⟩ := id hsl9
      have hlg9 := lt_of_block hG9
      obtain ⟨wq9, hwq9⟩ : ∃ z : World, z = wc := ⟨wc, rfl⟩
      subst hwq9
      have HSZ9 : Hid ((w6.heap.size + 1) ≤ wq9.heap.size) := HS_1.out _ hbz
      have HX3 : Hid (∀ W, Below wq9.heap.size wq9 W → (wq9.heap.size ≤ (W).heap.size ∧ X.rd W (W).heap.size (.slice A9x X.es.length n9x) (.slice B9x X.ks.length m9x) ∧ SlP W (W).heap.size 3 SpE (.slice D9x U.length k9x) U ∧ (W).cell? ⟨g9, 0, none⟩ = some (.slice A9x X.es.length n9x) ∧ (W).cell? ⟨g9, 1, none⟩ = some (.slice B9x X.ks.length m9x) ∧ (W).cell? ⟨g9, 2, none⟩ = some (.slice D9x U.length k9x) ∧ w6.heap.size + 1 ≤ (W).heap.size ∧ Y.rd W (W).heap.size (.slice A6x Y.es.length n6x) (.slice B6x Y.ks.length m6x) ∧ SlP W (W).heap.size 3 SpE (.slice D6x R.length k6x) R ∧ (W).cell? ⟨w6.heap.size, 0, none⟩ = some (.slice A6x Y.es.length n6x) ∧ (W).cell? ⟨w6.heap.size, 1, none⟩ = some (.slice B6x Y.ks.length m6x) ∧ (W).cell? ⟨w6.heap.size, 2, none⟩ = some (.slice D6x R.length k6x) ∧ w5.heap.size + 1 ≤ (W).heap.size ∧ X.rd W (W).heap.size (.slice A5x X.es.length n5x) (.slice B5x X.ks.length m5x) ∧ SlP W (W).heap.size 3 SpE (.slice D5x S.length k5x) S ∧ (W).cell? ⟨w5.heap.size, 0, none⟩ = some (.slice A5x X.es.length n5x) ∧ (W).cell? ⟨w5.heap.size, 1, none⟩ = some (.slice B5x X.ks.length m5x) ∧ (W).cell? ⟨w5.heap.size, 2, none⟩ = some (.slice D5x S.length k5x) ∧ Below w.heap.size w W ∧ w.heap.size + 3 ≤ (W).heap.size ∧ t.rd W (W).heap.size (.slice A0 t.es.length n0) (.slice B0 t.ks.length m0) ∧ (W).cell? ⟨w.heap.size, 0, none⟩ = some (.slice A0 t.es.length n0) ∧ (W).cell? ⟨w.heap.size, 1, none⟩ = some (.slice B0 t.ks.length m0) ∧ (W).cell? ⟨(w.heap.size + 1), 0, none⟩ = some (.int .i64 d.dc) ∧ (W).cell? ⟨(w.heap.size + 1), 1, none⟩ = some (.int .i64 d.n) ∧ (W).cell? ⟨(w.heap.size + 2), 0, none⟩ = some (.int .i64 e.dc) ∧ (W).cell? ⟨(w.heap.size + 2), 1, none⟩ = some (.int .i64 e.n))) := fun W hW => by
        have g0 := (hW.block g9 hlg9).trans hG9
        exact ⟨hW.size, rd_below hW hW.size _ _ _ hrd9, hsl9.imp hW hW.size (fun _ _ _ h => h), cell_cells (i := 0) g0, cell_cells (i := 1) g0, cell_cells (i := 2) g0, HX2.out W (hbz.trans (hW.mono HSZ9.out))⟩
      clear hrd9 hsl9 hG9
      clear hs_y c0_y c1_y c2_y hs_x c0_x c1_x c2_x hs c00 c01
      obtain ⟨hs_a, rt_a, rc_a, c0_a, c1_a, c2_a, hs_y, rt_y, rc_y, c0_y, c1_y, c2_y, hs_x, rt_x, rc_x, c0_x, c1_x, c2_x, hB, hs, rt0, c00, c01, c10, c11, c20, c21⟩ := HX3.out _ (Below.refl _ _)
      go_upto_region 6 with (fail)
      have HK2 : Hid (∀ W, Below wq9.heap.size wq9 W → ((W).cell? ⟨w6.heap.size, 0, none⟩ = some (.slice A6x Y.es.length n6x) ∧ (W).cell? ⟨w6.heap.size, 1, none⟩ = some (.slice B6x Y.ks.length m6x) ∧ (W).cell? ⟨w6.heap.size, 2, none⟩ = some (.slice D6x R.length k6x) ∧ (W).cell? ⟨w5.heap.size, 0, none⟩ = some (.slice A5x X.es.length n5x) ∧ (W).cell? ⟨w5.heap.size, 1, none⟩ = some (.slice B5x X.ks.length m5x) ∧ (W).cell? ⟨w5.heap.size, 2, none⟩ = some (.slice D5x S.length k5x) ∧ (W).cell? ⟨w.heap.size, 0, none⟩ = some (.slice A0 t.es.length n0) ∧ (W).cell? ⟨w.heap.size, 1, none⟩ = some (.slice B0 t.ks.length m0))) := fun W hW => by
        obtain ⟨_, _, _, _, _, _, _, _, _, z_c0_y, z_c1_y, z_c2_y, _, _, _, z_c0_x, z_c1_x, z_c2_x, _, _, _, z_c00, z_c01, _, _, _, _⟩ := HX3.out W hW
        exact ⟨z_c0_y, z_c1_y, z_c2_y, z_c0_x, z_c1_x, z_c2_x, z_c00, z_c01⟩
      have Hrt_a_2 : Hid (∀ W, Below wq9.heap.size wq9 W → X.rd W (W).heap.size (.slice A9x X.es.length n9x) (.slice B9x X.ks.length m9x)) := fun W hW => by
        obtain ⟨_, z, _, _, _, _, _, _, _, _, _, _, _, _, _, _, _, _, _, _, _, _, _, _, _, _, _⟩ := HX3.out W hW
        exact z
      have Hrc_a_2 : Hid (∀ W, Below wq9.heap.size wq9 W → SlP W (W).heap.size 3 SpE (.slice D9x U.length k9x) U) := fun W hW => by
        obtain ⟨_, _, z, _, _, _, _, _, _, _, _, _, _, _, _, _, _, _, _, _, _, _, _, _, _, _, _⟩ := HX3.out W hW
        exact z
      have Hrt_y_2 : Hid (∀ W, Below wq9.heap.size wq9 W → Y.rd W (W).heap.size (.slice A6x Y.es.length n6x) (.slice B6x Y.ks.length m6x)) := fun W hW => by
        obtain ⟨_, _, _, _, _, _, _, z, _, _, _, _, _, _, _, _, _, _, _, _, _, _, _, _, _, _, _⟩ := HX3.out W hW
        exact z
      have Hrc_y_2 : Hid (∀ W, Below wq9.heap.size wq9 W → SlP W (W).heap.size 3 SpE (.slice D6x R.length k6x) R) := fun W hW => by
        obtain ⟨_, _, _, _, _, _, _, _, z, _, _, _, _, _, _, _, _, _, _, _, _, _, _, _, _, _, _⟩ := HX3.out W hW
        exact z
      have Hrt_x_2 : Hid (∀ W, Below wq9.heap.size wq9 W → X.rd W (W).heap.size (.slice A5x X.es.length n5x) (.slice B5x X.ks.length m5x)) := fun W hW => by
        obtain ⟨_, _, _, _, _, _, _, _, _, _, _, _, _, z, _, _, _, _, _, _, _, _, _, _, _, _, _⟩ := HX3.out W hW
        exact z
      have Hrc_x_2 : Hid (∀ W, Below wq9.heap.size wq9 W → SlP W (W).heap.size 3 SpE (.slice D5x S.length k5x) S) := fun W hW => by
        obtain ⟨_, _, _, _, _, _, _, _, _, _, _, _, _, _, z, _, _, _, _, _, _, _, _, _, _, _, _⟩ := HX3.out W hW
        exact z
      have Hrt0_2 : Hid (∀ W, Below wq9.heap.size wq9 W → t.rd W (W).heap.size (.slice A0 t.es.length n0) (.slice B0 t.ks.length m0)) := fun W hW => by
        obtain ⟨_, _, _, _, _, _, _, _, _, _, _, _, _, _, _, _, _, _, _, _, z, _, _, _, _, _, _⟩ := HX3.out W hW
        exact z
      have HS_2 : Hid (∀ W, Below wq9.heap.size wq9 W → wq9.heap.size ≤ W.heap.size) := fun W hW => by
        have := hW.size
        first | omega | (simp at this; omega)
      have hsb2 := HS_2.out _ (Below.refl _ _)
      clear rt_a rc_a c0_a c1_a c2_a rt_y rc_y rt_x rc_x hB rt0 c10 c11 c20 c21
      go_cut [13, 14] (fun s13 s14 wx => s14 = .int .i64 0 ∧ Box3 wq9.heap.size wq9 29 X U s13 wx)
      case first =>
        go_region_held3 (fun W => (W).cell? ⟨w6.heap.size, 0, none⟩ = some (.slice A6x Y.es.length n6x) ∧ (W).cell? ⟨w6.heap.size, 1, none⟩ = some (.slice B6x Y.ks.length m6x) ∧ (W).cell? ⟨w6.heap.size, 2, none⟩ = some (.slice D6x R.length k6x) ∧ (W).cell? ⟨w5.heap.size, 0, none⟩ = some (.slice A5x X.es.length n5x) ∧ (W).cell? ⟨w5.heap.size, 1, none⟩ = some (.slice B5x X.ks.length m5x) ∧ (W).cell? ⟨w5.heap.size, 2, none⟩ = some (.slice D5x S.length k5x) ∧ (W).cell? ⟨w.heap.size, 0, none⟩ = some (.slice A0 t.es.length n0) ∧ (W).cell? ⟨w.heap.size, 1, none⟩ = some (.slice B0 t.ks.length m0))
          (first | go_keep | exact HK2.out _ hbr11.out | exact HK2.out _ (hbr11.out.trans (by go_grown)) | exact HK2.out _ hbr10.out | exact HK2.out _ (hbr10.out.trans (by go_grown)) | exact HK2.out _ (by go_grown) | fail)
          (first
            | (go_at_call 29; go_loud ((refine (joinAll_any [(Y, R), (t, knC t), (X, S)] _ _ (slp3 (by first | exact heap_new rfl | exact heap_new (by simp) | exact (heap_old (by simp)).trans (heap_new rfl) | exact (heap_old (by simp)).trans (heap_new (by simp))) (kn_at (Hrt_y_2.out _ (hbr10.out.trans (by go_grown))) (Hrc_y_2.out _ (hbr10.out.trans (by go_grown)))) (kn_at (Hrt0_2.out _ (hbr10.out.trans (by go_grown))) (HLK.out _ (by go_grown))) (kn_at (Hrt_x_2.out _ (hbr10.out.trans (by go_grown))) (Hrc_x_2.out _ (hbr10.out.trans (by go_grown)))) (by first | (simp; done) | (simp; omega))) (by simp; omega) (by simp; omega)).mono ?_); rw [HB1.out, HB2.out, HB3.out]; rintro e w11 ⟨xe11, xk11, xc11, rfl, hrd11, hsl11, hb⟩; have hbr11 : Hid (Below wq9.heap.size wq9 w11) := hid (Below.trans (hbr10.out.trans (by go_grown)) (hb.mono (by first | omega | (simp; done) | (simp; omega)))); have hsr11 := HS_2.out _ hbr11.out; have hch10_11 : Hid (Below w10.heap.size w10 w11) := hid (Below.trans (by go_grown) (hb.mono (by first | omega | (simp; done) | (simp; omega)))); obtain ⟨Ar11, nr11, Br11, mr11, hv1, hv2⟩ := rda_shape hrd11; subst hv1; subst hv2; obtain ⟨Dr11, kr11, hv3⟩ := hsl11.shape; subst hv3; have HR11 := hid hrd11; have HL11 := hid hsl11; clear hrd11 hsl11; (first | (have HG11 : Hid (w11.heap[w10.heap.size]? = some (.cells #[.slice none 0 0, .slice none 0 0, .slice none 0 0] 29 (0, 0))) := hid (z_newS hb); have k0 : w11.cell? ⟨w10.heap.size, 0, none⟩ = some (.slice none 0 0) := cell_cells (i := 0) HG11.out; have k1 : w11.cell? ⟨w10.heap.size, 1, none⟩ = some (.slice none 0 0) := cell_cells (i := 1) HG11.out; have k2 : w11.cell? ⟨w10.heap.size, 2, none⟩ = some (.slice none 0 0) := cell_cells (i := 2) HG11.out; have z0 := cells_frz (i := 0) HG11.out; have z1 := cells_frz (i := 1) HG11.out; have z2 := cells_frz (i := 2) HG11.out; have hna0 : w.heap.size ≠ w10.heap.size := (by omega); have hnb0 : w10.heap.size ≠ w.heap.size := (by omega); have hna1 : (w.heap.size + 1) ≠ w10.heap.size := (by omega); have hnb1 : w10.heap.size ≠ (w.heap.size + 1) := (by omega); have hna2 : (w.heap.size + 2) ≠ w10.heap.size := (by omega); have hnb2 : w10.heap.size ≠ (w.heap.size + 2) := (by omega); have hna3 : w5.heap.size ≠ w10.heap.size := (by omega); have hnb3 : w10.heap.size ≠ w5.heap.size := (by omega); have hna4 : w6.heap.size ≠ w10.heap.size := (by omega); have hnb4 : w10.heap.size ≠ w6.heap.size := (by omega); have hna5 : g9 ≠ w10.heap.size := (by omega); have hnb5 : w10.heap.size ≠ g9 := (by omega)) | (have HG11 : Hid (w11.heap[(w10.heap.size + 1)]? = some (.cells #[.slice none 0 0, .slice none 0 0, .slice none 0 0] 29 (0, 0))) := hid (z_new2 hb); have k0 : w11.cell? ⟨(w10.heap.size + 1), 0, none⟩ = some (.slice none 0 0) := cell_cells (i := 0) HG11.out; have k1 : w11.cell? ⟨(w10.heap.size + 1), 1, none⟩ = some (.slice none 0 0) := cell_cells (i := 1) HG11.out; have k2 : w11.cell? ⟨(w10.heap.size + 1), 2, none⟩ = some (.slice none 0 0) := cell_cells (i := 2) HG11.out; have z0 := cells_frz (i := 0) HG11.out; have z1 := cells_frz (i := 1) HG11.out; have z2 := cells_frz (i := 2) HG11.out; have hna0 : w.heap.size ≠ (w10.heap.size + 1) := (by omega); have hnb0 : (w10.heap.size + 1) ≠ w.heap.size := (by omega); have hna1 : (w.heap.size + 1) ≠ (w10.heap.size + 1) := (by omega); have hnb1 : (w10.heap.size + 1) ≠ (w.heap.size + 1) := (by omega); have hna2 : (w.heap.size + 2) ≠ (w10.heap.size + 1) := (by omega); have hnb2 : (w10.heap.size + 1) ≠ (w.heap.size + 2) := (by omega); have hna3 : w5.heap.size ≠ (w10.heap.size + 1) := (by omega); have hnb3 : (w10.heap.size + 1) ≠ w5.heap.size := (by omega); have hna4 : w6.heap.size ≠ (w10.heap.size + 1) := (by omega); have hnb4 : (w10.heap.size + 1) ≠ w6.heap.size := (by omega); have hna5 : g9 ≠ (w10.heap.size + 1) := (by omega); have hnb5 : (w10.heap.size + 1) ≠ g9 := (by omega)) | (have HG11 : Hid (w11.heap[wq9.heap.size]? = some (.cells #[.slice none 0 0, .slice none 0 0, .slice none 0 0] 29 (0, 0))) := hid ((hb.block _ (by have := lt_of_block HGA.out; first | omega | (simp; omega))).trans ((heap_old (lt_of_block HGA.out)).trans HGA.out)); have k0 : w11.cell? ⟨wq9.heap.size, 0, none⟩ = some (.slice none 0 0) := cell_cells (i := 0) HG11.out; have k1 : w11.cell? ⟨wq9.heap.size, 1, none⟩ = some (.slice none 0 0) := cell_cells (i := 1) HG11.out; have k2 : w11.cell? ⟨wq9.heap.size, 2, none⟩ = some (.slice none 0 0) := cell_cells (i := 2) HG11.out; have z0 := cells_frz (i := 0) HG11.out; have z1 := cells_frz (i := 1) HG11.out; have z2 := cells_frz (i := 2) HG11.out; have hna0 : w.heap.size ≠ wq9.heap.size := (by omega); have hnb0 : wq9.heap.size ≠ w.heap.size := (by omega); have hna1 : (w.heap.size + 1) ≠ wq9.heap.size := (by omega); have hnb1 : wq9.heap.size ≠ (w.heap.size + 1) := (by omega); have hna2 : (w.heap.size + 2) ≠ wq9.heap.size := (by omega); have hnb2 : wq9.heap.size ≠ (w.heap.size + 2) := (by omega); have hna3 : w5.heap.size ≠ wq9.heap.size := (by omega); have hnb3 : wq9.heap.size ≠ w5.heap.size := (by omega); have hna4 : w6.heap.size ≠ wq9.heap.size := (by omega); have hnb4 : wq9.heap.size ≠ w6.heap.size := (by omega); have hna5 : g9 ≠ wq9.heap.size := (by omega); have hnb5 : wq9.heap.size ≠ g9 := (by omega)) | skip); clear hb))
            | (go_at_call 47; go_loud ((refine (r10known_any t _ _ _ (Hrt0_2.out _ (by go_grown)) (by omega) HN.out).mono ?_); rintro e w10 ⟨vc10, rfl, hsl10, hb⟩; have hbr10 : Hid (Below wq9.heap.size wq9 w10) := hid (Below.trans (by go_grown) (hb.mono (by first | omega | (simp; done) | (simp; omega)))); have hsr10 := HS_2.out _ hbr10.out; (first | (have HGA : Hid (w10.heap[wq9.heap.size]? = some (.cells #[.slice none 0 0, .slice none 0 0, .slice none 0 0] 29 (0, 0))) := hid (z_new2D hb)) | (have HGA : Hid (w10.heap[wq9.heap.size]? = some (.cells #[.slice none 0 0, .slice none 0 0, .slice none 0 0] 29 (0, 0))) := hid (z_newD hb)) | (have HGA : Hid (w10.heap[wq9.heap.size]? = some (.cells #[.slice none 0 0, .slice none 0 0, .slice none 0 0] 29 (0, 0))) := hid (z_new2 hb)) | (have HGA : Hid (w10.heap[wq9.heap.size]? = some (.cells #[.slice none 0 0, .slice none 0 0, .slice none 0 0] 29 (0, 0))) := hid (z_new hb)) | skip); obtain ⟨Dr10, kr10, hv3⟩ := hsl10.shape; subst hv3; have HL10 := hid hsl10; clear hsl10; have HLK : Hid (∀ W, Below w10.heap.size w10 W → SlP W W.heap.size 3 SpE (.slice Dr10 ((ctxOf t.dots)).length kr10) (ctxOf t.dots)) := fun W hW => HL10.out.slp (fun b hb => hb.2) hW; clear hb)))
        all_goals
          go_wp2_with fail
          go_meet
          case rel => exact ⟨rfl, (by first | exact box_new hbr11.out (HS_2.out _ hbr11.out) HR11.out HL11.out | exact box_set HG11.out hbr11.out (by omega) (by first | (simp; done) | (simp; omega) | exact lt_of_block HGA.out | (have := lt_of_block HGA.out; simp; omega)) HR11.out HL11.out)⟩
      case rest =>
        obtain ⟨rfl, g12, xe12, xk12, xc12, rfl, hG12, hrd12, hsl12, hbz⟩ := hcut
        obtain ⟨A12x, n12x, B12x, m12x, rfl, rfl⟩ := rd_shape hrd12
        obtain ⟨D12x, k12x, rfl, _⟩ := id hsl12
        have hlg12 := lt_of_block hG12
        obtain ⟨wq12, hwq12⟩ : ∃ z : World, z = wc := ⟨wc, rfl⟩
        subst hwq12
        have HSZ12 : Hid (wq9.heap.size ≤ wq12.heap.size) := HS_2.out _ hbz
        have HX4 : Hid (∀ W, Below wq12.heap.size wq12 W → (wq12.heap.size ≤ (W).heap.size ∧ X.rd W (W).heap.size (.slice A12x X.es.length n12x) (.slice B12x X.ks.length m12x) ∧ SlP W (W).heap.size 3 SpE (.slice D12x U.length k12x) U ∧ (W).cell? ⟨g12, 0, none⟩ = some (.slice A12x X.es.length n12x) ∧ (W).cell? ⟨g12, 1, none⟩ = some (.slice B12x X.ks.length m12x) ∧ (W).cell? ⟨g12, 2, none⟩ = some (.slice D12x U.length k12x) ∧ wq9.heap.size ≤ (W).heap.size ∧ X.rd W (W).heap.size (.slice A9x X.es.length n9x) (.slice B9x X.ks.length m9x) ∧ SlP W (W).heap.size 3 SpE (.slice D9x U.length k9x) U ∧ (W).cell? ⟨g9, 0, none⟩ = some (.slice A9x X.es.length n9x) ∧ (W).cell? ⟨g9, 1, none⟩ = some (.slice B9x X.ks.length m9x) ∧ (W).cell? ⟨g9, 2, none⟩ = some (.slice D9x U.length k9x) ∧ w6.heap.size + 1 ≤ (W).heap.size ∧ Y.rd W (W).heap.size (.slice A6x Y.es.length n6x) (.slice B6x Y.ks.length m6x) ∧ SlP W (W).heap.size 3 SpE (.slice D6x R.length k6x) R ∧ (W).cell? ⟨w6.heap.size, 0, none⟩ = some (.slice A6x Y.es.length n6x) ∧ (W).cell? ⟨w6.heap.size, 1, none⟩ = some (.slice B6x Y.ks.length m6x) ∧ (W).cell? ⟨w6.heap.size, 2, none⟩ = some (.slice D6x R.length k6x) ∧ w5.heap.size + 1 ≤ (W).heap.size ∧ X.rd W (W).heap.size (.slice A5x X.es.length n5x) (.slice B5x X.ks.length m5x) ∧ SlP W (W).heap.size 3 SpE (.slice D5x S.length k5x) S ∧ (W).cell? ⟨w5.heap.size, 0, none⟩ = some (.slice A5x X.es.length n5x) ∧ (W).cell? ⟨w5.heap.size, 1, none⟩ = some (.slice B5x X.ks.length m5x) ∧ (W).cell? ⟨w5.heap.size, 2, none⟩ = some (.slice D5x S.length k5x) ∧ Below w.heap.size w W ∧ w.heap.size + 3 ≤ (W).heap.size ∧ t.rd W (W).heap.size (.slice A0 t.es.length n0) (.slice B0 t.ks.length m0) ∧ (W).cell? ⟨w.heap.size, 0, none⟩ = some (.slice A0 t.es.length n0) ∧ (W).cell? ⟨w.heap.size, 1, none⟩ = some (.slice B0 t.ks.length m0) ∧ (W).cell? ⟨(w.heap.size + 1), 0, none⟩ = some (.int .i64 d.dc) ∧ (W).cell? ⟨(w.heap.size + 1), 1, none⟩ = some (.int .i64 d.n) ∧ (W).cell? ⟨(w.heap.size + 2), 0, none⟩ = some (.int .i64 e.dc) ∧ (W).cell? ⟨(w.heap.size + 2), 1, none⟩ = some (.int .i64 e.n))) := fun W hW => by
          have g0 := (hW.block g12 hlg12).trans hG12
          exact ⟨hW.size, rd_below hW hW.size _ _ _ hrd12, hsl12.imp hW hW.size (fun _ _ _ h => h), cell_cells (i := 0) g0, cell_cells (i := 1) g0, cell_cells (i := 2) g0, HX3.out W (hbz.trans (hW.mono HSZ12.out))⟩
        clear hrd12 hsl12 hG12
        clear hs_a hs_y c0_y c1_y c2_y hs_x c0_x c1_x c2_x hs c00 c01
        obtain ⟨hs_b, rt_b, rc_b, c0_b, c1_b, c2_b, hs_a, rt_a, rc_a, c0_a, c1_a, c2_a, hs_y, rt_y, rc_y, c0_y, c1_y, c2_y, hs_x, rt_x, rc_x, c0_x, c1_x, c2_x, hB, hs, rt0, c00, c01, c10, c11, c20, c21⟩ := HX4.out _ (Below.refl _ _)
        obtain ⟨b0, o0, hbo, hbl, f0, f1⟩ := one_cells HXO.out rt_a
        subst hbo
        have hle : X.es.length = 1 := by rw [HXO.out]; rfl
        have hl1 : ((X.es.length : Int) == 1) = true := by rw [hle]; rfl
        have hl0 : (0 : Int) < (X.es.length : Int) := by rw [hle]; decide
        have hl2 : 0 < X.es.length := by omega
        have nd := eqlDot d d
        have hdd : decide (d = d) = true := by simp
        rw [hdd] at nd
        clear hle hdd
        have HX5 : Hid (∀ W, Below wq12.heap.size wq12 W → ((W).cell? ⟨b0, o0, none⟩ = some (.int .i64 d.dc) ∧ (W).cell? ⟨b0, o0 + 1, none⟩ = some (.int .i64 d.n) ∧ wq12.heap.size ≤ (W).heap.size ∧ X.rd W (W).heap.size (.slice A12x X.es.length n12x) (.slice B12x X.ks.length m12x) ∧ SlP W (W).heap.size 3 SpE (.slice D12x U.length k12x) U ∧ (W).cell? ⟨g12, 0, none⟩ = some (.slice A12x X.es.length n12x) ∧ (W).cell? ⟨g12, 1, none⟩ = some (.slice B12x X.ks.length m12x) ∧ (W).cell? ⟨g12, 2, none⟩ = some (.slice D12x U.length k12x) ∧ wq9.heap.size ≤ (W).heap.size ∧ X.rd W (W).heap.size (.slice (some ⟨b0, o0, none⟩) X.es.length n9x) (.slice B9x X.ks.length m9x) ∧ SlP W (W).heap.size 3 SpE (.slice D9x U.length k9x) U ∧ (W).cell? ⟨g9, 0, none⟩ = some (.slice (some ⟨b0, o0, none⟩) X.es.length n9x) ∧ (W).cell? ⟨g9, 1, none⟩ = some (.slice B9x X.ks.length m9x) ∧ (W).cell? ⟨g9, 2, none⟩ = some (.slice D9x U.length k9x) ∧ w6.heap.size + 1 ≤ (W).heap.size ∧ Y.rd W (W).heap.size (.slice A6x Y.es.length n6x) (.slice B6x Y.ks.length m6x) ∧ SlP W (W).heap.size 3 SpE (.slice D6x R.length k6x) R ∧ (W).cell? ⟨w6.heap.size, 0, none⟩ = some (.slice A6x Y.es.length n6x) ∧ (W).cell? ⟨w6.heap.size, 1, none⟩ = some (.slice B6x Y.ks.length m6x) ∧ (W).cell? ⟨w6.heap.size, 2, none⟩ = some (.slice D6x R.length k6x) ∧ w5.heap.size + 1 ≤ (W).heap.size ∧ X.rd W (W).heap.size (.slice A5x X.es.length n5x) (.slice B5x X.ks.length m5x) ∧ SlP W (W).heap.size 3 SpE (.slice D5x S.length k5x) S ∧ (W).cell? ⟨w5.heap.size, 0, none⟩ = some (.slice A5x X.es.length n5x) ∧ (W).cell? ⟨w5.heap.size, 1, none⟩ = some (.slice B5x X.ks.length m5x) ∧ (W).cell? ⟨w5.heap.size, 2, none⟩ = some (.slice D5x S.length k5x) ∧ Below w.heap.size w W ∧ w.heap.size + 3 ≤ (W).heap.size ∧ t.rd W (W).heap.size (.slice A0 t.es.length n0) (.slice B0 t.ks.length m0) ∧ (W).cell? ⟨w.heap.size, 0, none⟩ = some (.slice A0 t.es.length n0) ∧ (W).cell? ⟨w.heap.size, 1, none⟩ = some (.slice B0 t.ks.length m0) ∧ (W).cell? ⟨(w.heap.size + 1), 0, none⟩ = some (.int .i64 d.dc) ∧ (W).cell? ⟨(w.heap.size + 1), 1, none⟩ = some (.int .i64 d.n) ∧ (W).cell? ⟨(w.heap.size + 2), 0, none⟩ = some (.int .i64 e.dc) ∧ (W).cell? ⟨(w.heap.size + 2), 1, none⟩ = some (.int .i64 e.n))) := fun W hW =>
          ⟨(hW.cell (p := ⟨b0, o0, none⟩) hbl).trans f0, (hW.cell (p := ⟨b0, o0 + 1, none⟩) hbl).trans f1, HX4.out W hW⟩
        clear f0 f1
        clear hs_b rt_b rc_b c0_b c1_b c2_b hs_a rt_a rc_a c0_a c1_a c2_a hs_y rt_y rc_y c0_y c1_y c2_y hs_x rt_x rc_x c0_x c1_x c2_x hB hs rt0 c00 c01 c10 c11 c20 c21
        obtain ⟨f0, f1, hs_b, rt_b, rc_b, c0_b, c1_b, c2_b, hs_a, rt_a, rc_a, c0_a, c1_a, c2_a, hs_y, rt_y, rc_y, c0_y, c1_y, c2_y, hs_x, rt_x, rc_x, c0_x, c1_x, c2_x, hB, hs, rt0, c00, c01, c10, c11, c20, c21⟩ := HX5.out _ (Below.refl _ _)
        go_upto_region 7 with (fail)
        have HK3 : Hid (∀ W, Below wq12.heap.size wq12 W → ((W).cell? ⟨b0, o0, none⟩ = some (.int .i64 d.dc) ∧ (W).cell? ⟨b0, o0 + 1, none⟩ = some (.int .i64 d.n) ∧ (W).cell? ⟨g12, 0, none⟩ = some (.slice A12x X.es.length n12x) ∧ (W).cell? ⟨g12, 1, none⟩ = some (.slice B12x X.ks.length m12x) ∧ (W).cell? ⟨g12, 2, none⟩ = some (.slice D12x U.length k12x) ∧ (W).cell? ⟨g9, 0, none⟩ = some (.slice (some ⟨b0, o0, none⟩) X.es.length n9x) ∧ (W).cell? ⟨g9, 1, none⟩ = some (.slice B9x X.ks.length m9x) ∧ (W).cell? ⟨g9, 2, none⟩ = some (.slice D9x U.length k9x) ∧ (W).cell? ⟨(w.heap.size + 1), 0, none⟩ = some (.int .i64 d.dc) ∧ (W).cell? ⟨(w.heap.size + 1), 1, none⟩ = some (.int .i64 d.n))) := fun W hW => by
          obtain ⟨z_f0, z_f1, _, _, _, z_c0_b, z_c1_b, z_c2_b, _, _, _, z_c0_a, z_c1_a, z_c2_a, _, _, _, _, _, _, _, _, _, _, _, _, _, _, _, _, _, z_c10, z_c11, _, _⟩ := HX5.out W hW
          exact ⟨z_f0, z_f1, z_c0_b, z_c1_b, z_c2_b, z_c0_a, z_c1_a, z_c2_a, z_c10, z_c11⟩
        have Hrt_b_3 : Hid (∀ W, Below wq12.heap.size wq12 W → X.rd W (W).heap.size (.slice A12x X.es.length n12x) (.slice B12x X.ks.length m12x)) := fun W hW => by
          obtain ⟨_, _, _, z, _, _, _, _, _, _, _, _, _, _, _, _, _, _, _, _, _, _, _, _, _, _, _, _, _, _, _, _, _, _, _⟩ := HX5.out W hW
          exact z
        have Hrc_b_3 : Hid (∀ W, Below wq12.heap.size wq12 W → SlP W (W).heap.size 3 SpE (.slice D12x U.length k12x) U) := fun W hW => by
          obtain ⟨_, _, _, _, z, _, _, _, _, _, _, _, _, _, _, _, _, _, _, _, _, _, _, _, _, _, _, _, _, _, _, _, _, _, _⟩ := HX5.out W hW
          exact z
        have Hrt_a_3 : Hid (∀ W, Below wq12.heap.size wq12 W → X.rd W (W).heap.size (.slice (some ⟨b0, o0, none⟩) X.es.length n9x) (.slice B9x X.ks.length m9x)) := fun W hW => by
          obtain ⟨_, _, _, _, _, _, _, _, _, z, _, _, _, _, _, _, _, _, _, _, _, _, _, _, _, _, _, _, _, _, _, _, _, _, _⟩ := HX5.out W hW
          exact z
        have Hrc_a_3 : Hid (∀ W, Below wq12.heap.size wq12 W → SlP W (W).heap.size 3 SpE (.slice D9x U.length k9x) U) := fun W hW => by
          obtain ⟨_, _, _, _, _, _, _, _, _, _, z, _, _, _, _, _, _, _, _, _, _, _, _, _, _, _, _, _, _, _, _, _, _, _, _⟩ := HX5.out W hW
          exact z
        have Hrt_y_3 : Hid (∀ W, Below wq12.heap.size wq12 W → Y.rd W (W).heap.size (.slice A6x Y.es.length n6x) (.slice B6x Y.ks.length m6x)) := fun W hW => by
          obtain ⟨_, _, _, _, _, _, _, _, _, _, _, _, _, _, _, z, _, _, _, _, _, _, _, _, _, _, _, _, _, _, _, _, _, _, _⟩ := HX5.out W hW
          exact z
        have Hrc_y_3 : Hid (∀ W, Below wq12.heap.size wq12 W → SlP W (W).heap.size 3 SpE (.slice D6x R.length k6x) R) := fun W hW => by
          obtain ⟨_, _, _, _, _, _, _, _, _, _, _, _, _, _, _, _, z, _, _, _, _, _, _, _, _, _, _, _, _, _, _, _, _, _, _⟩ := HX5.out W hW
          exact z
        have Hrt_x_3 : Hid (∀ W, Below wq12.heap.size wq12 W → X.rd W (W).heap.size (.slice A5x X.es.length n5x) (.slice B5x X.ks.length m5x)) := fun W hW => by
          obtain ⟨_, _, _, _, _, _, _, _, _, _, _, _, _, _, _, _, _, _, _, _, _, z, _, _, _, _, _, _, _, _, _, _, _, _, _⟩ := HX5.out W hW
          exact z
        have Hrc_x_3 : Hid (∀ W, Below wq12.heap.size wq12 W → SlP W (W).heap.size 3 SpE (.slice D5x S.length k5x) S) := fun W hW => by
          obtain ⟨_, _, _, _, _, _, _, _, _, _, _, _, _, _, _, _, _, _, _, _, _, _, z, _, _, _, _, _, _, _, _, _, _, _, _⟩ := HX5.out W hW
          exact z
        have Hrt0_3 : Hid (∀ W, Below wq12.heap.size wq12 W → t.rd W (W).heap.size (.slice A0 t.es.length n0) (.slice B0 t.ks.length m0)) := fun W hW => by
          obtain ⟨_, _, _, _, _, _, _, _, _, _, _, _, _, _, _, _, _, _, _, _, _, _, _, _, _, _, _, _, z, _, _, _, _, _, _⟩ := HX5.out W hW
          exact z
        have HS_3 : Hid (∀ W, Below wq12.heap.size wq12 W → wq12.heap.size ≤ W.heap.size) := fun W hW => by
          have := hW.size
          first | omega | (simp at this; omega)
        have hsb3 := HS_3.out _ (Below.refl _ _)
        clear rt_b rc_b rt_a rc_a rt_y rc_y c0_y c1_y c2_y rt_x rc_x c0_x c1_x c2_x hB rt0 c00 c01 c20 c21
        go_region_held3 (fun W => (W).cell? ⟨b0, o0, none⟩ = some (.int .i64 d.dc) ∧ (W).cell? ⟨b0, o0 + 1, none⟩ = some (.int .i64 d.n) ∧ (W).cell? ⟨g12, 0, none⟩ = some (.slice A12x X.es.length n12x) ∧ (W).cell? ⟨g12, 1, none⟩ = some (.slice B12x X.ks.length m12x) ∧ (W).cell? ⟨g12, 2, none⟩ = some (.slice D12x U.length k12x) ∧ (W).cell? ⟨g9, 0, none⟩ = some (.slice (some ⟨b0, o0, none⟩) X.es.length n9x) ∧ (W).cell? ⟨g9, 1, none⟩ = some (.slice B9x X.ks.length m9x) ∧ (W).cell? ⟨g9, 2, none⟩ = some (.slice D9x U.length k9x) ∧ (W).cell? ⟨(w.heap.size + 1), 0, none⟩ = some (.int .i64 d.dc) ∧ (W).cell? ⟨(w.heap.size + 1), 1, none⟩ = some (.int .i64 d.n))
          (first | go_keep | exact HK3.out _ hbr14.out | exact HK3.out _ (hbr14.out.trans (by go_grown)) | exact HK3.out _ hbr13.out | exact HK3.out _ (hbr13.out.trans (by go_grown)) | exact HK3.out _ (by go_grown) | fail)
          (first
            | (go_at_call 31; go_loud ((refine (csame_any U U X X _ _ _ _ _ _ _ (Hrt_a_3.out _ (hbr13.out.trans (by go_grown))) (Hrt_b_3.out _ (hbr13.out.trans (by go_grown))) (Hrc_a_3.out _ (hbr13.out.trans (by go_grown))) (Hrc_b_3.out _ (hbr13.out.trans (by go_grown))) (by omega) (by omega) (by omega) (by omega)).mono ?_); rw [HSM.out]; rintro e w14 ⟨rfl, hb⟩; have hbr14 : Hid (Below wq12.heap.size wq12 w14) := hid (Below.trans (hbr13.out.trans (by go_grown)) (hb.mono (by first | omega | (simp; done) | (simp; omega)))); have hsr14 := HS_3.out _ hbr14.out; have hch13_14 : Hid (Below w13.heap.size w13 w14) := hid (Below.trans (by go_grown) (hb.mono (by first | omega | (simp; done) | (simp; omega)))); clear hb))
            | (go_at_call 48; go_loud ((refine (fon_any X _ _ _ (Hrt_a_3.out _ (by go_grown))).mono ?_); rw [HON.out]; rintro e w13 ⟨rfl, hb⟩; have hbr13 : Hid (Below wq12.heap.size wq12 w13) := hid (Below.trans (by go_grown) (hb.mono (by first | omega | (simp; done) | (simp; omega)))); have hsr13 := HS_3.out _ hbr13.out; clear hb)))
        all_goals (
          obtain ⟨f0, f1, hs_b, rt_b, rc_b, c0_b, c1_b, c2_b, hs_a, rt_a, rc_a, c0_a, c1_a, c2_a, hs_y, rt_y, rc_y, c0_y, c1_y, c2_y, hs_x, rt_x, rc_x, c0_x, c1_x, c2_x, hB, hs, rt0, c00, c01, c10, c11, c20, c21⟩ := HX5.out _ hbr14.out
          go_wp2_with fail
          go_ret
          exact ⟨rfl, hB⟩)
  · clear hnd
    go_wp2_with fail
    refine (awake10_any _).mono ?_
    rintro e w3 ⟨rfl, hb⟩
    have hbk3 : Hid (Below (w.heap.size + 3) (((w.alloc (.cells #[.slice A0 t.es.length n0, .slice B0 t.ks.length m0] 25)).alloc (.cells #[.int .i64 d.dc, .int .i64 d.n] 42)).alloc (.cells #[.int .i64 e.dc, .int .i64 e.n] 42)) w3) := hid (hbk2.out.trans (hb.mono (by first | omega | (simp; done) | (simp; omega))))
    clear hb
    clear hB hs rt0 c00 c01 c10 c11 c20 c21
    obtain ⟨hB, hs, rt0, c00, c01, c10, c11, c20, c21⟩ := HX0.out _ hbk3.out
    go_wp2_with fail
    go_ret
    exact ⟨rfl, hB⟩
end Go.Proofs.YtkjijbogbelilaaGreat
