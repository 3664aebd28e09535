/- What the laws need, part 3: slices.Grow at no kid, slices.Concat at two lists of kids. No condition but that there are not too many. span.joined, and what it makes of runs in order: a set. No condition but that there are not too many, and that numbers are right. slices.Sort and slices.Compact at texts: the library's contracts laid at this program. No condition. slices.IndexFunc and slices.ContainsFunc at runs, whatever the test; span.Has. No condition. slices.IndexFunc and slices.ContainsFunc at texts and at kids, whatever the test; the closures of tree.Wrap and ormap.Update. No condition. tree.Get. No condition but that it is not too big. context.Has. No condition but that there are not too many. Contexts put together of sets, in plain Lean: they may be taken apart, into those sets; what context.Has tells of them. No condition. Small facts in plain Lean for the laws: a tree of one entry, a context of one dot. No condition. causal.entries. No condition but that there are not too many. slices.BinarySearchFunc at kids, causal.kid. No condition but that kids are in order. causal.kid. No condition but that the tree is in order. set.Elems, set.Has, tributaryref10.Elems, tributaryref10.Less, slices.Contains at texts. No condition but that there are not too many. The closure of ormap.Update: is a kid's key this one? No condition. slices.Equal at spans and at entries; slices.EqualFunc at kids. No condition. tree.same, tree.Same. No condition. slices.Sort and slices.Compact at a list of texts of the call's own. No condition but that there are not too many. register.Values. No condition but that there are not too many. Plain law: texts sorted and each once, as the library does it and as the reference does it. No condition. slices.SortFunc at runs: the library's contract laid at this program. No condition. -/
import Derived.Deep.QuietTactic
import Derived.Lib.RowBridge
import Derived.RegionTactic
import Derived.Shelf.Abstract
import Derived.Shelf.SlSortCmp.NoneTotal
import Derived.Shelf.Slices.CompactS
import Derived.Shelf.Slices.In.SortNone
import Derived.Shelf.Sort.Plain
import Derived.Sort.OwnSorted
import Derived.Test.YtlapdmgjfdelnaaGreatProg
import Derived.Test.YtlapdmgjfdelnaaGreatRt2
namespace Go.Proofs.YtlapdmgjfdelnaaGreat
open Go.RowKit
set_option maxRecDepth 100000

theorem KdE.one {w : World} {B : Nat} {x : Kd} {cs : List Value} (h : KdE w B x cs) : ∀ u ∈ cs, u.oneCell' = true := by
  obtain ⟨ve, vk, rfl, _, h⟩ := h
  obtain ⟨A, n, A', m, rfl, rfl⟩ := rd_shape h
  simp [Value.oneCell']
def RetGK {w0 : World} (B0 : Nat) (w : World) (e : Ending) (w' : World) : Prop := ∃ v, e = .returned v ∧ OwnP w' w.heap.size 126 3 (KdE w0 B0) v [] ∧ Below w.heap.size w w'
set_option maxHeartbeats 2000000 in
theorem growK_any (w0 : World) (B0 n : Nat) (w : World) (hn : n ≤ 900000) : Calls Tryz.prog 211 #[.slice none 0 0, .int .i64 n] w (RetGK (w0 := w0) B0 w) := by
  rcases Nat.eq_zero_or_pos n with rfl | hp
  · go_enter Tryz.func211, Tryz.ntmps211
    go_wp2_with fail
    go_ret
    exact ⟨_, rfl, OwnP.nil, Below.refl _ _⟩
  · have ht := Tryz.underlying23
    obtain ⟨i, hi, hz, hs, hby⟩ := info_parts (show (Tryz.prog.info? 126).map (fun i => (i.zero, i.size, i.bytes)) = some (some (.agg #[.string ByteArray.empty, .slice none 0 0, .slice none 0 0]), 3, 64) by kernel_rfl)
    have hold : (Builtin.firstCells i.size 0 (.slice none 0 0)).run Tryz.prog w.drew = .ok (#[] : Array Value) w.drew := run_firstCells_none w.drew i.size 0 0 0
    have hrz : ∀ ty, (Builtin.append_ #[23, 3] ty #[.slice none 0 0, .int .i64 (n : Int)]).run Tryz.prog w = .ok (.slice (some ⟨w.heap.size, 0, none⟩) n (grownCap w n 0 126)) (w.drew.alloc (.cells (#[] ++ Builtin.zeroCells #[.string ByteArray.empty, .slice none 0 0, .slice none 0 0] n ++ Builtin.zeroCells #[.string ByteArray.empty, .slice none 0 0, .slice none 0 0] (grownCap w n 0 126 - n)) 126)) := fun ty => by
      have h := Lib.run_append_grow_zeros w 23 3 ty 126 i (.agg #[.string ByteArray.empty, .slice none 0 0, .slice none 0 0]) .i64 .i64 ht Tryz.underlying3 hi hz none 0 0 [] hold n hp (by omega) (by omega) (by omega) (by rw [hby]; omega) (by rw [hby, Nat.zero_add]; exact growslice_fits hp (by omega))
      simpa [Value.cells] using h
    have hge := grownCap_ge w n 0 126
    have hle := grownCap_le_maxLen w n 0 126 (by unfold maxLen; omega)
    generalize grownCap w n 0 126 = G at *
    have hG63 : G ≤ 9223372036854775807 := by unfold maxLen at hle; omega
    have HLE := hid hle
    clear hle hold ht hi hz hs hby
    go_enter Tryz.func211, Tryz.ntmps211
    go_wp2_with (at_builtin; refine Lib.wpList_append_run _ rfl _ _ _ _ rfl _ _ rfl rfl _ _ (hrz _) ?_)
    all_goals
      go_ret
      refine ⟨_, rfl, ⟨[], ⟨rfl, fun j x h => by simp at h⟩, by simp, .inr ⟨w.heap.size, G, _, rfl, Nat.le_refl _, heap_alloc_new _ _, Nat.zero_le _, HLE.out, ?_, by simp⟩⟩, ((Below.refl w.heap.size w).drew).alloc (Nat.le_refl _) _⟩
      simp [size_zeroCells]
      omega

set_option maxHeartbeats 4000000 in
theorem concatK_any (w0 : World) (B0 : Nat) (a b : List Kd) (va vb : Value) (B : Nat) (w : World) (h0 : w.cell? ⟨B, 0, none⟩ = some va) (h1 : w.cell? ⟨B, 1, none⟩ = some vb) (hB : B < w.heap.size) (ha : SlP w w.heap.size 3 (KdE w0 B0) va a) (hb : SlP w w.heap.size 3 (KdE w0 B0) vb b) (hN : a.length ≤ 300000) (hN' : b.length ≤ 300000) :
    Calls Tryz.prog 174 #[.slice (some ⟨B, 0, none⟩) 2 2] w (RetO w 126 3 (fun _ => KdE w0 B0) (a ++ b)) := by
  have HA := hid ha
  have HB := hid hb
  obtain ⟨A1, c1, rfl, _⟩ := ha
  obtain ⟨A2, c2, rfl, _⟩ := hb
  have hla : ((catK a b 2).length : Int) = a.length + b.length := by simp [catK]
  go_enter Tryz.func174, Tryz.ntmps174
  go_wp2_with fail
  go_loop [3, 11] (fun s i => ∃ k : Nat, k ≤ 2 ∧ i = .int .i64 k ∧ s = .int .i64 ((catK a b k).length : Nat)) (fun _ i => 2 - (intOf i).toNat)
  case atStart => exact ⟨0, by omega, rfl, rfl⟩
  case round =>
    obtain ⟨k, hk, rfl, rfl⟩ := hrel
    match k, hk with
    | 0, _ =>
      clear hla
      simp only [catK, List.length_nil]
      go_wp2_with fail
      go_round
      case rel => exact ⟨1, by omega, rfl, by simp⟩
      case measure => simp [intOf]
    | 1, _ =>
      clear hla
      simp only [catK]
      go_wp2_with fail
      go_round
      case rel => exact ⟨2, by omega, rfl, by simp⟩
      case measure => simp [intOf]
    | 2, _ =>
      obtain ⟨m, hm⟩ : ∃ m : Nat, m = (catK a b 2).length := ⟨_, rfl⟩
      rw [← hm] at hla ⊢
      have hm2 : m ≤ 600000 := by omega
      clear hla hm
      go_wp2_with fail
      refine (growK_any w0 B0 m w (by omega)).mono ?_
      rintro e w1 ⟨v1, rfl, ho1, hb1⟩
      have hs1 := hb1.size
      go_wp2_with fail
      go_loopw [6, 27] (fun v i wr => ∃ k : Nat, k ≤ 2 ∧ i = .int .i64 k ∧ OwnP wr w.heap.size 126 3 (KdE w0 B0) v (catK a b k) ∧ Below w.heap.size w wr) (fun _ i _ => 2 - (intOf i).toNat)
      case atStart => exact ⟨0, by omega, rfl, ho1, hb1⟩
      case round =>
        obtain ⟨k, hk, rfl, hown, hbr⟩ := hrel
        have hsz := hbr.size
        have e0 : wr.cell? ⟨B, 0, none⟩ = some (.slice A1 a.length c1) := (hbr.cell (p := ⟨B, 0, none⟩) hB).trans h0
        have e1 : wr.cell? ⟨B, 1, none⟩ = some (.slice A2 b.length c2) := (hbr.cell (p := ⟨B, 1, none⟩) hB).trans h1
        have HSA := hid (HA.out.imp hbr hsz fun _ _ _ h => h)
        have HSB := hid (HB.out.imp hbr hsz fun _ _ _ h => h)
        match k, hk with
        | 0, _ =>
          have HL : Hid ((catK a b 0).length + a.length ≤ Few) := by unfold Hid Few; simp [catK]; omega
          go_wp2_with (at_builtin; refine wpList_few rfl (.tmp 31) (.tmp 32) _ rfl eiKid (by decide) (by decide) (fun _ _ h => h.one) rfl hown rfl HSA.out HL.out hsz ?_; intro v2 w2 hown2 hb2 _)
          go_roundw
          case rel => exact ⟨1, by omega, rfl, by simpa [catK] using hown2, hbr.trans hb2⟩
          case measure => simp [intOf]
        | 1, _ =>
          have HL : Hid ((catK a b 1).length + b.length ≤ Few) := by unfold Hid Few; simp [catK]; omega
          go_wp2_with (at_builtin; refine wpList_few rfl (.tmp 31) (.tmp 32) _ rfl eiKid (by decide) (by decide) (fun _ _ h => h.one) rfl hown rfl HSB.out HL.out hsz ?_; intro v2 w2 hown2 hb2 _)
          go_roundw
          case rel => exact ⟨2, by omega, rfl, by simpa [catK] using hown2, hbr.trans hb2⟩
          case measure => simp [intOf]
        | 2, _ =>
          go_wp2_with fail
          go_ret
          exact ⟨_, rfl, hown, hbr⟩
end Go.Proofs.YtlapdmgjfdelnaaGreat

namespace Go.Proofs.YtlapdmgjfdelnaaGreat
open Go.RowKit
set_option maxRecDepth 100000

def joinS (out : List (Int × Int)) (r : Int × Int) : List (Int × Int) :=
  match out.getLast? with
  | some q => if r.1 ≤ q.2 + 1 then out.set (out.length - 1) (q.1, max q.2 r.2) else out ++ [r]
  | none => [r]
def joinL (l : List (Int × Int)) : List (Int × Int) := l.foldl joinS []
theorem joinL_take {l : List (Int × Int)} {k : Nat} {x : Int × Int} (h : l[k]? = some x) : joinL (l.take (k + 1)) = joinS (joinL (l.take k)) x := by
  unfold joinL; rw [List.take_add_one, h, List.foldl_append]; rfl
theorem joinS_len (out : List (Int × Int)) (r : Int × Int) : (joinS out r).length ≤ out.length + 1 := by
  unfold joinS; split
  · split <;> simp
  · simp
theorem joinL_len (l : List (Int × Int)) : ∀ k, (joinL (l.take k)).length ≤ k
  | 0 => by simp [joinL]
  | k + 1 => by
    cases h : l[k]? with
    | none =>
      have h1 := List.getElem?_eq_none_iff.1 h
      rw [List.take_of_length_le (by omega), ← List.take_of_length_le (i := k) h1]
      have := joinL_len l k
      rw [List.take_of_length_le h1] at this ⊢; omega
    | some x =>
      rw [joinL_take h]
      have := joinL_len l k
      have := joinS_len (joinL (l.take k)) x
      omega
theorem joinS_ok {out : List (Int × Int)} {r : Int × Int} (h : RunsOk out) (hr : 0 ≤ r.1 ∧ r.1 ≤ 1099511627777 ∧ 0 ≤ r.2 ∧ r.2 ≤ 1099511627777) : RunsOk (joinS out r) := by
  intro x hx
  unfold joinS at hx
  split at hx
  · rename_i q hq
    split at hx
    · rcases List.mem_or_eq_of_mem_set hx with hx | rfl
      · exact h x hx
      · have := h q (List.mem_of_getLast? hq)
        refine ⟨this.1, this.2.1, ?_, ?_⟩ <;> simp only [Int.max_def] <;> split <;> omega
    · rcases List.mem_append.1 hx with hx | hx
      · exact h x hx
      · simp at hx; subst hx; exact hr
  · simp at hx; subst hx; exact hr
theorem joinL_ok {l : List (Int × Int)} (h : RunsOk l) : RunsOk (joinL l) := by
  unfold joinL
  suffices ∀ (l out : List (Int × Int)), RunsOk l → RunsOk out → RunsOk (l.foldl joinS out) from this l [] h (fun _ h => by cases h)
  intro l
  induction l with
  | nil => intro out _ ho; exact ho
  | cons x l ih => intro out hl ho; exact ih _ (fun r hr => hl r (List.mem_cons_of_mem _ hr)) (joinS_ok ho (hl x (by simp)))

theorem joinS_snoc (L : List (Int × Int)) (q r : Int × Int) : joinS (L ++ [q]) r = if r.1 ≤ q.2 + 1 then L ++ [(q.1, max q.2 r.2)] else L ++ [q] ++ [r] := by
  unfold joinS
  rw [List.getLast?_concat]
  simp
/-- What is joined behind a set, in order, is a set: of the numbers of both. -/
theorem joinS_right {out : List (Int × Int)} {r : Int × Int} (h : runsR none out = true) (hr : runOk r) (ho : ∀ q, out.getLast? = some q → q.1 ≤ r.1) :
    runsR none (joinS out r) = true ∧ (∀ n, hasL (joinS out r) n = (hasL out n || inR r n)) ∧ (∀ q, (joinS out r).getLast? = some q → q.1 ≤ r.1) := by
  rcases List.eq_nil_or_concat out with rfl | ⟨L, q, rfl⟩
  · refine ⟨?_, fun n => ?_, fun q hq => ?_⟩
    · exact (runsR_one none r).2 ⟨hr, rfl⟩
    · simp [joinS, hasL]
    · simp [joinS] at hq; subst hq; exact Int.le_refl _
  · rw [List.concat_eq_append] at *
    have hq := ho q (by simp)
    have hqo := runsR_last L none q h
    rw [joinS_snoc]
    unfold runOk at *
    split
    · rename_i hc
      refine ⟨runsR_wide L none q _ h (by omega) (by omega), fun n => ?_, fun x hx => ?_⟩
      · rw [hasL_app, hasL_app, Bool.or_assoc]
        congr 1
        rw [Bool.eq_iff_iff]
        simp [hasL, inR]
        omega
      · simp at hx; subst hx; exact hq
    · rename_i hc
      refine ⟨(runsR_snoc L none q r).2 ⟨h, hr, by omega⟩, fun n => ?_, fun x hx => ?_⟩
      · rw [hasL_app]; simp [hasL]
      · simp at hx; subst hx; exact Int.le_refl _
theorem joinL_right {l : List (Int × Int)} (hl : ∀ r ∈ l, runOk r) (hs : l.Pairwise fun a b => a.1 ≤ b.1) : runsR none (joinL l) = true ∧ ∀ n, hasL (joinL l) n = hasL l n := by
  suffices ∀ (l out : List (Int × Int)), (∀ r ∈ l, runOk r) → l.Pairwise (fun a b => a.1 ≤ b.1) → runsR none out = true → (∀ q, out.getLast? = some q → ∀ r ∈ l, q.1 ≤ r.1) →
      runsR none (l.foldl joinS out) = true ∧ ∀ n, hasL (l.foldl joinS out) n = (hasL out n || hasL l n) by
    have := this l [] hl hs rfl (fun q h => by simp at h)
    exact ⟨this.1, fun n => by rw [joinL, this.2]; simp [hasL]⟩
  intro l
  induction l with
  | nil => intro out _ _ h _; exact ⟨h, fun n => by simp [hasL]⟩
  | cons r l ih =>
    intro out hl hs h ho
    rw [List.pairwise_cons] at hs
    obtain ⟨j1, j2, j3⟩ := joinS_right h (hl r (by simp)) (fun q hq => ho q hq r (by simp))
    obtain ⟨k1, k2⟩ := ih (joinS out r) (fun x hx => hl x (by simp [hx])) hs.2 j1 (fun q hq x hx => Int.le_trans (j3 q hq) (hs.1 x hx))
    refine ⟨k1, fun n => ?_⟩
    rw [List.foldl_cons, k2, j2, Bool.or_assoc]; simp [hasL]

theorem OwnP.drewN {α : Type} {w : World} {base : Nat} {e : TypeId} {sz : Nat} {E : α → List Value → Prop} {v : Value} {xs : List α} (h : OwnP w base e sz E v xs) (n : Nat) : OwnP (w.drewN n) base e sz E v xs := h.keep fun _ _ => rfl
theorem below_dn {B : Nat} {a w : World} (h : Below B a w) (n : Nat) : Below B a (w.drewN n) := h.trans ⟨rfl, rfl, rfl, Nat.le_refl _, fun _ _ => rfl⟩
set_option maxHeartbeats 4000000 in
theorem sjoined_any (l : List (Int × Int)) (v : Value) (w : World) (h : SlP w w.heap.size 2 RuE v l) (hN : l.length ≤ 900000) (hR : RunsOk l) :
    Calls Tryz.prog 172 #[v] w (RetO w 201 2 (fun _ => RuE) (joinL l)) := by
  obtain ⟨A, n, rfl, b1, b2, b3⟩ := h
  unfold Big at b2
  go_enter Tryz.func172, Tryz.ntmps172
  go_wp2_with fail
  go_loopw [3, 9] (fun v i wr => ∃ k : Nat, k ≤ l.length ∧ i = .int .i64 k ∧ OwnP wr w.heap.size 201 2 RuE v (joinL (l.take k)) ∧ Below w.heap.size w wr) (fun _ i _ => l.length - (intOf i).toNat)
  case atStart => exact ⟨0, Nat.zero_le _, rfl, OwnP.nil, Below.refl _ _⟩
  case round =>
    obtain ⟨k, hk, rfl, hown, hb⟩ := hrel
    have hsz := hb.size
    by_cases hlt : k < l.length
    · obtain ⟨r, hx⟩ : ∃ x, l[k]? = some x := ⟨_, List.getElem?_eq_getElem hlt⟩
      obtain ⟨b, off, rfl, hbB, hc⟩ := b3 (by rintro rfl; simp at hlt)
      obtain ⟨cs, ⟨rfl, hok⟩, _, hu⟩ := hc k _ hx
      have e0 : wr.cell? ⟨b, off + k * 2, none⟩ = some (.int .i64 r.1) := (hb.cell hbB).trans (hu 0 _ rfl)
      have e1 : wr.cell? ⟨b, off + k * 2 + 1, none⟩ = some (.int .i64 r.2) := (hb.cell hbB).trans (hu 1 _ rfl)
      have hr := hR r (List.mem_of_getElem? hx)
      have HJ : Hid (joinL (l.take (k + 1)) = joinS (joinL (l.take k)) r) := joinL_take hx
      have hol := joinL_len l k
      have hjo : RunsOk (joinL (l.take k)) := joinL_ok fun x hx => hR x (List.mem_of_mem_take hx)
      have HRE : Hid (RuE r [.int .i64 r.1, .int .i64 r.2]) := ⟨rfl, hok⟩
      generalize joinL (l.take k) = out at *
      have HL : Hid (out.length + [r].length ≤ Few) := by unfold Hid Few; simp; omega
      clear hu hc b3 hx hok
      rcases Nat.eq_zero_or_pos out.length with hz | hz
      · obtain rfl : out = [] := List.eq_nil_of_length_eq_zero hz
        have HX : Hid (joinL (l.take (k + 1)) = [] ++ [r]) := by unfold Hid; rw [HJ.out]; rfl
        obtain ⟨A8, c8, rfl⟩ := hown.shape
        clear hz hol
        simp only [List.length_nil] at hown ⊢
        go_wp2_with fail
        go_quiet (fail)
        go_wp2_with (at_builtin; go_loud ((refine wpList_few rfl (.tmp 43) (.tmp 45) _ rfl eiRun (by decide) (by decide) (fun _ _ h => h.one) rfl (((hown.alloc _).drewN _).alloc _) rfl (SlP.one (x := r) HRE.out rfl _ (by rw [World.heap_drewN, World.size_alloc])) HL.out (by rw [World.size_alloc, World.heap_drewN, World.size_alloc]; omega) ?_); intro v1 w1 hown1 hb1 _; have hb2 := (((below_dn ((Below.refl w.heap.size wr).alloc hsz _) _).alloc (by rw [World.heap_drewN, World.size_alloc]; omega) _).trans hb1)))
        go_roundw
        case rel => exact ⟨k + 1, by omega, by go_num, by rw [HX.out]; exact hown1, hb.trans hb2⟩
        case measure => simp [intOf]; omega
      · obtain ⟨q, hq⟩ : ∃ q, out[out.length - 1]? = some q := ⟨_, List.getElem?_eq_getElem (by omega)⟩
        have hqo := hjo q (List.mem_of_getElem? hq)
        obtain ⟨g, cap, rfl, hg1, hg2, c0, c1, hfz, _⟩ := hown.setRun hq (z := max q.2 r.2) ⟨by omega, by omega⟩
        have hmx : max q.2 r.2 = if q.2 < r.2 then r.2 else q.2 := by split <;> omega
        have hset : ∀ n, OwnP (((wr.alloc (.cells #[.int .i64 r.1, .int .i64 r.2] 201)).drewN n).setCell ⟨g, (out.length - 1) * 2 + 1, none⟩ (.int .i64 (if q.2 < r.2 then r.2 else q.2))) w.heap.size 201 2 RuE (.slice (some ⟨g, 0, none⟩) out.length cap) (out.set (out.length - 1) (q.1, max q.2 r.2)) := fun n => by
          rw [← hmx]
          obtain ⟨g', cap', e, _, _, _, _, _, h⟩ := ((hown.alloc (.cells #[.int .i64 r.1, .int .i64 r.2] 201)).drewN n).setRun hq (z := max q.2 r.2) ⟨by omega, by omega⟩
          cases e; exact h
        have hfz1 := hfz ((out.length - 1) * 2 + 1)
        have HJS : Hid (joinS out r = if r.1 ≤ q.2 + 1 then out.set (out.length - 1) (q.1, max q.2 r.2) else out ++ [r]) := by
          unfold Hid joinS; rw [List.getLast?_eq_getElem?, hq]
        have HMX := hid hmx
        have HS2 : Hid (∀ n, OwnP (((wr.alloc (.cells #[.int .i64 r.1, .int .i64 r.2] 201)).drewN n).setCell ⟨g, (out.length - 1) * 2 + 1, none⟩ (.int .i64 (if q.2 < r.2 then r.2 else q.2))) w.heap.size 201 2 RuE (.slice (some ⟨g, 0, none⟩) out.length cap) (out.set (out.length - 1) (q.1, if q.2 < r.2 then r.2 else q.2))) := fun n => by
          have h1 := hset n
          rw [hmx] at h1; exact h1
        clear hq hfz hjo hmx
        have h1l : (1 : Int) ≤ (out.length : Int) := by omega
        have h2l : (out.length : Int) - 1 < (out.length : Int) := by omega
        have h0' : decide (0 < out.length) = true := by simp; omega
        have h0'' : decide ((0 : Int) < (out.length : Int)) = true := by simp; omega
        have hwq : IntKind.i64.wrap (q.2 + 1) = q.2 + 1 := IntWalk.i64_in _ (by omega)
        have hwk : IntKind.i64.wrap ((out.length : Int) - 1) = (out.length : Int) - 1 := IntWalk.i64_in _ (by omega)
        rcases t5 : decide (r.1 ≤ q.2 + 1)
        · have HX : Hid (joinL (l.take (k + 1)) = out ++ [r]) := by unfold Hid; rw [HJ.out, HJS.out, if_neg (of_decide_eq_false t5)]
          clear hset HJS HJ
          go_wp2_with fail
          go_quiet (fail)
          go_wp2_with (at_builtin; go_loud ((refine wpList_few rfl (.tmp 43) (.tmp 45) _ rfl eiRun (by decide) (by decide) (fun _ _ h => h.one) rfl (((hown.alloc _).drewN _).alloc _) rfl (SlP.one (x := r) HRE.out rfl _ (by rw [World.heap_drewN, World.size_alloc])) HL.out (by rw [World.size_alloc, World.heap_drewN, World.size_alloc]; omega) ?_); intro v1 w1 hown1 hb1 _; have hb2 := (((below_dn ((Below.refl w.heap.size wr).alloc hsz _) _).alloc (by rw [World.heap_drewN, World.size_alloc]; omega) _).trans hb1)))
          go_roundw
          case rel => exact ⟨k + 1, by omega, by go_num, by rw [HX.out]; exact hown1, hb.trans hb2⟩
          case measure => simp [intOf]; omega
        · have HX : Hid (joinL (l.take (k + 1)) = out.set (out.length - 1) (q.1, max q.2 r.2)) := by unfold Hid; rw [HJ.out, HJS.out, if_pos (of_decide_eq_true t5)]
          have HS := hid hset
          clear hset HJS HJ
          go_wp2_with fail
          go_quiet (fail)
          go_wp2_with fail
          go_region
          all_goals
            go_wp2_with fail
            go_roundw
            case rel => exact ⟨k + 1, by omega, by go_num, by rw [HX.out]; first | exact HS.out _ | exact HS2.out _ | (rw [HMX.out]; exact HS.out _) | (rw [HMX.out]; exact HS2.out _), hb.trans ((below_dn ((Below.refl w.heap.size wr).alloc hsz _) _).setCell (by exact hg1) _)⟩
            case measure => simp [intOf]; omega
    · obtain rfl : k = l.length := by omega
      rw [List.take_of_length_le (Nat.le_refl _)] at hown
      go_wp2_with fail
      go_ret
      exact ⟨_, rfl, hown, hb⟩
end Go.Proofs.YtlapdmgjfdelnaaGreat

namespace Go.Proofs
open Go.Shelf
def Tryz.sortStr_ren : Go.Shelf.Ren := ⟨fun | 190 => 151 | 125 => 198 | 258 => 197 | 128 => 232 | 129 => 233 | 302 => 223 | 303 => 224 | 304 => 225 | 305 => 226 | 306 => 227 | 307 => 228 | 308 => 229 | 309 => 230 | 310 => 231 | 333 => 249 | 329 => 250 | 330 => 251 | 334 => 252 | 335 => 253 | 336 => 246 | 344 => 258 | n => n, fun | 31 => 30 | 9 => 9 | 3 => 3 | 46 => 224 | 0 => 0 | 51 => 256 | 53 => 258 | 4 => 4 | 183 => 249 | 182 => 248 | 131 => 238 | 5 => 5 | 218 => 270 | 222 => 274 | 228 => 279 | 229 => 280 | n => n, fun | n => n⟩
theorem Tryz.sortStr : Go.Proofs.Lays.n190 Tryz.prog Tryz.sortStr_ren := {
  mixed := by kernel_rfl
  f125 := Tryz.func198.trans (congrArg some (by kernel_rfl))
  f128 := Tryz.func232.trans (congrArg some (by kernel_rfl))
  f129 := Tryz.func233.trans (congrArg some (by kernel_rfl))
  f190 := Tryz.func151.trans (congrArg some (by kernel_rfl))
  f258 := Tryz.func197.trans (congrArg some (by kernel_rfl))
  f302 := Tryz.func223.trans (congrArg some (by kernel_rfl))
  f303 := Tryz.func224.trans (congrArg some (by kernel_rfl))
  f304 := Tryz.func225.trans (congrArg some (by kernel_rfl))
  f305 := Tryz.func226.trans (congrArg some (by kernel_rfl))
  f306 := Tryz.func227.trans (congrArg some (by kernel_rfl))
  f307 := Tryz.func228.trans (congrArg some (by kernel_rfl))
  f308 := Tryz.func229.trans (congrArg some (by kernel_rfl))
  f309 := Tryz.func230.trans (congrArg some (by kernel_rfl))
  f310 := Tryz.func231.trans (congrArg some (by kernel_rfl))
  f329 := Tryz.func250.trans (congrArg some (by kernel_rfl))
  f330 := Tryz.func251.trans (congrArg some (by kernel_rfl))
  f333 := Tryz.func249.trans (congrArg some (by kernel_rfl))
  f334 := Tryz.func252.trans (congrArg some (by kernel_rfl))
  f335 := Tryz.func253.trans (congrArg some (by kernel_rfl))
  f336 := Tryz.func246.trans (congrArg some (by kernel_rfl))
  f344 := Tryz.func258.trans (congrArg some (by kernel_rfl))
  t0 := Tryz.underlying0
  a0 := Tryz.isAgg0
  z0 := Tryz.sizeOf0
  v0 := Tryz.zeroValue0
  t3 := Tryz.underlying3
  a3 := Tryz.isAgg3
  z3 := Tryz.sizeOf3
  v3 := Tryz.zeroValue3
  t4 := Tryz.underlying4
  a4 := Tryz.isAgg4
  z4 := Tryz.sizeOf4
  v4 := Tryz.zeroValue4
  t5 := Tryz.underlying5
  a5 := Tryz.isAgg5
  z5 := Tryz.sizeOf5
  v5 := Tryz.zeroValue5
  t9 := Tryz.underlying9
  a9 := Tryz.isAgg9
  z9 := Tryz.sizeOf9
  v9 := Tryz.zeroValue9
  t31 := Tryz.underlying30
  a31 := Tryz.isAgg30
  z31 := Tryz.sizeOf30
  v31 := Tryz.zeroValue30
  t46 := Tryz.underlying224
  a46 := Tryz.isAgg224
  z46 := Tryz.sizeOf224
  v46 := Tryz.zeroValue224
  t51 := Tryz.underlying256
  a51 := Tryz.isAgg256
  z51 := Tryz.sizeOf256
  v51 := Tryz.zeroValue256
  t53 := Tryz.underlying258
  a53 := Tryz.isAgg258
  z53 := Tryz.sizeOf258
  v53 := Tryz.zeroValue258
  t131 := Tryz.underlying238
  a131 := Tryz.isAgg238
  z131 := Tryz.sizeOf238
  v131 := Tryz.zeroValue238
  t182 := Tryz.underlying248
  a182 := Tryz.isAgg248
  z182 := Tryz.sizeOf248
  v182 := Tryz.zeroValue248
  t183 := Tryz.underlying249
  a183 := Tryz.isAgg249
  z183 := Tryz.sizeOf249
  v183 := Tryz.zeroValue249
  t218 := Tryz.underlying270
  a218 := Tryz.isAgg270
  z218 := Tryz.sizeOf270
  v218 := Tryz.zeroValue270
  t222 := Tryz.underlying274
  a222 := Tryz.isAgg274
  z222 := Tryz.sizeOf274
  v222 := Tryz.zeroValue274
  t228 := Tryz.underlying279
  a228 := Tryz.isAgg279
  z228 := Tryz.sizeOf279
  v228 := Tryz.zeroValue279
  t229 := Tryz.underlying280
  a229 := Tryz.isAgg280
  z229 := Tryz.sizeOf280
  v229 := Tryz.zeroValue280 }
def Tryz.compactStr_ren : Go.Shelf.Ren := ⟨fun | 194 => 152 | n => n, fun | 31 => 30 | 9 => 9 | 3 => 3 | 4 => 4 | 0 => 0 | n => n, fun | n => n⟩
theorem Tryz.compactStr : Go.Proofs.Lays.n194 Tryz.prog Tryz.compactStr_ren := {
  mixed := by kernel_rfl
  f194 := Tryz.func152.trans (congrArg some (by kernel_rfl))
  t0 := Tryz.underlying0
  a0 := Tryz.isAgg0
  z0 := Tryz.sizeOf0
  v0 := Tryz.zeroValue0
  t3 := Tryz.underlying3
  a3 := Tryz.isAgg3
  z3 := Tryz.sizeOf3
  v3 := Tryz.zeroValue3
  t4 := Tryz.underlying4
  a4 := Tryz.isAgg4
  z4 := Tryz.sizeOf4
  v4 := Tryz.zeroValue4
  t9 := Tryz.underlying9
  a9 := Tryz.isAgg9
  z9 := Tryz.sizeOf9
  v9 := Tryz.zeroValue9
  t31 := Tryz.underlying30
  a31 := Tryz.isAgg30
  z31 := Tryz.sizeOf30
  v31 := Tryz.zeroValue30 }
end Go.Proofs

namespace Go.Proofs.YtlapdmgjfdelnaaGreat
open Go.RowKit
set_option maxRecDepth 100000

def idxI {α : Type} (p : α → Bool) (l : List α) : Int := match l.findIdx? p with | some i => (i : Int) | none => -1
theorem idxI_hit {α : Type} {p : α → Bool} {l : List α} {k : Nat} {x : α} (h : ∀ (j : Nat) y, j < k → l[j]? = some y → p y = false) (hx : l[k]? = some x) (hp : p x = true) : idxI p l = (k : Int) := by
  have hlt := (List.getElem?_eq_some_iff.1 hx).1
  have : l.findIdx? p = some k := by
    rw [List.findIdx?_eq_some_iff_getElem]
    refine ⟨hlt, by rw [(List.getElem?_eq_some_iff.1 hx).2]; exact hp, fun j hj => ?_⟩
    rw [h j _ hj (List.getElem?_eq_getElem (by omega))]; simp
  unfold idxI; rw [this]
theorem idxI_miss {α : Type} {p : α → Bool} {l : List α} (h : ∀ (j : Nat) y, j < l.length → l[j]? = some y → p y = false) : idxI p l = -1 := by
  have : l.findIdx? p = none := by
    rw [List.findIdx?_eq_none_iff]
    intro x hx
    obtain ⟨j, hj⟩ := List.getElem?_of_mem hx
    exact h j x (List.getElem?_eq_some_iff.1 hj).1 hj
  unfold idxI; rw [this]
theorem idxI_any {α : Type} (p : α → Bool) (l : List α) : decide (0 ≤ idxI p l) = l.any p := by
  unfold idxI
  cases h : l.findIdx? p with
  | none =>
    rw [List.findIdx?_eq_none_iff] at h
    rw [Bool.eq_iff_iff]
    simp [List.any_eq_true]
    exact h
  | some i =>
    rw [List.findIdx?_eq_some_iff_getElem] at h
    obtain ⟨hlt, hp, _⟩ := h
    have : l.any p = true := List.any_eq_true.2 ⟨l[i], List.getElem_mem hlt, hp⟩
    rw [this]; simp
theorem idxI_bd {α : Type} (p : α → Bool) (l : List α) : -1 ≤ idxI p l ∧ idxI p l < l.length + 1 := by
  unfold idxI
  cases h : l.findIdx? p with
  | none => simp; omega
  | some i =>
    rw [List.findIdx?_eq_some_iff_getElem] at h
    obtain ⟨hlt, _⟩ := h
    simp; omega

/-- A test on runs: it tells p, and turns nothing that was there. -/
def TestRun (g : Nat) (lb : Array Value) (p : Int × Int → Bool) (w : World) : Prop :=
  (∀ args W, (callFunc g args).run Tryz.prog W = .ok (.enter g args) W) ∧
  ∀ (x : Int × Int) (W : World), Below w.heap.size w W → Calls Tryz.prog g (#[.agg #[.int .i64 x.1, .int .i64 x.2]] ++ lb) W fun e w' => e = .returned (.bool (p x)) ∧ Below W.heap.size W w'

set_option maxHeartbeats 1000000 in
theorem idxRun_any (p : Int × Int → Bool) (g : Nat) (lb : Array Value) (l : List (Int × Int)) (v : Value) (w : World) (h : SlP w w.heap.size 2 RuE v l) (ht : TestRun g lb p w) :
    Calls Tryz.prog 235 #[v, .func (.func g) #[] lb] w fun e w' => e = .returned (.int .i64 (idxI p l)) ∧ Below w.heap.size w w' := by
  obtain ⟨A, n, rfl, b1, b2, b3⟩ := h
  obtain ⟨eg, ht⟩ := ht
  unfold Big at b2
  go_enter Tryz.func235, Tryz.ntmps235
  go_wp2_with fail
  go_loopw [8] (fun i wr => ∃ k : Nat, k ≤ l.length ∧ i = .int .i64 k ∧ Hid (∀ (j : Nat) y, j < k → l[j]? = some y → p y = false) ∧ Below w.heap.size w wr) (fun i _ => l.length - (intOf i).toNat)
  case atStart => exact ⟨0, Nat.zero_le _, rfl, fun j y hj => absurd hj (Nat.not_lt_zero _), Below.refl _ _⟩
  case round =>
    obtain ⟨k, hk, rfl, hrel, hb⟩ := hrel
    have hsz := hb.size
    by_cases hlt : k < l.length
    · obtain ⟨x, hx⟩ : ∃ x, l[k]? = some x := ⟨_, List.getElem?_eq_getElem hlt⟩
      obtain ⟨b, off, rfl, hbB, hc⟩ := b3 (by rintro rfl; simp at hlt)
      obtain ⟨cs, ⟨rfl, hok⟩, _, hu⟩ := hc k _ hx
      have e0 : wr.cell? ⟨b, off + k * 2, none⟩ = some (.int .i64 x.1) := (hb.cell hbB).trans (hu 0 _ rfl)
      have e1 : wr.cell? ⟨b, off + k * 2 + 1, none⟩ = some (.int .i64 x.2) := (hb.cell hbB).trans (hu 1 _ rfl)
      have hcall := ht x wr hb
      have HX := hid hx
      clear hu hx hc b3 hok ht
      cases hq : p x
      · have HQ := hid hq
        rw [hq] at hcall
        clear hq
        go_wp2_with (go_at_fn g; refine hcall.mono ?_; rintro e w1 ⟨rfl, hb1⟩)
        go_roundw
        case rel =>
          refine ⟨k + 1, by omega, by go_num, fun j y hj hy => ?_, hb.trans (hb1.mono hsz)⟩
          by_cases hjk : j = k
          · subst hjk; have h2 := HX.out; rw [hy] at h2; cases h2; exact HQ.out
          · exact hrel.out j y (by omega) hy
        case measure => simp [intOf]; omega
      · have HQ := hid hq
        rw [hq] at hcall
        clear hq
        go_wp2_with (go_at_fn g; refine hcall.mono ?_; rintro e w1 ⟨rfl, hb1⟩)
        go_ret
        exact ⟨ret_int (idxI_hit hrel.out HX.out HQ.out).symm, hb.trans (hb1.mono hsz)⟩
    · obtain rfl : k = l.length := by omega
      go_wp2_with fail
      go_ret
      exact ⟨ret_int (idxI_miss hrel.out).symm, hb⟩

theorem conRun_any (p : Int × Int → Bool) (g : Nat) (lb : Array Value) (l : List (Int × Int)) (v : Value) (w : World) (h : SlP w w.heap.size 2 RuE v l) (ht : TestRun g lb p w) :
    Calls Tryz.prog 205 #[v, .func (.func g) #[] lb] w fun e w' => e = .returned (.bool (l.any p)) ∧ Below w.heap.size w w' := by
  have hbd := idxI_bd p l
  have HA := hid (idxI_any p l)
  obtain ⟨A, n, rfl, b1, b2, b3⟩ := h
  unfold Big at b2
  go_enter Tryz.func205, Tryz.ntmps205
  go_wp2_with fail
  refine (idxRun_any p g lb l _ w ⟨A, n, rfl, b1, by unfold Big; omega, b3⟩ ht).mono ?_
  rintro e w1 ⟨rfl, hb1⟩
  go_wp2_with fail
  go_ret
  exact ⟨ret_bool HA.out, hb1⟩

theorem hasClo_any (x : Int × Int) (n : Int) (B : Nat) (w : World) (hc : w.cell? ⟨B, 0, none⟩ = some (.int .i64 n)) (hB : B < w.heap.size) :
    Calls Tryz.prog 206 #[.agg #[.int .i64 x.1, .int .i64 x.2], .pointer (some ⟨B, 0, none⟩)] w fun e w' => e = .returned (.bool (inR x n)) ∧ Below w.heap.size w w' := by
  have hne : B ≠ w.heap.size := by omega
  rcases t1 : decide (x.1 ≤ n)
  · have HR : Hid (inR x n = false) := by unfold Hid inR; rw [t1]; rfl
    go_enter Tryz.func206, Tryz.ntmps206
    go_wp2_with fail
    go_ret
    exact ⟨ret_bool HR.out.symm, by go_grown⟩
  · have HR : Hid (inR x n = decide (n ≤ x.2)) := by unfold Hid inR; rw [t1]; rfl
    go_enter Tryz.func206, Tryz.ntmps206
    go_wp2_with fail
    go_ret
    exact ⟨ret_bool HR.out.symm, by go_grown⟩

/-- What span.Has tells. -/
def sHas (l : List (Int × Int)) (n : Int) : Bool := runsR none l && hasL l n
theorem shas_any (l : List (Int × Int)) (n : Int) (v : Value) (w : World) (h : SlP w w.heap.size 2 RuE v l) :
    Calls Tryz.prog 167 #[v, .int .i64 n] w fun e w' => e = .returned (.bool (sHas l n)) ∧ Below w.heap.size w w' := by
  have hs : SlP (w.alloc (.cells #[.int .i64 n] 2)) (w.alloc (.cells #[.int .i64 n] 2)).heap.size 2 RuE v l := SlP.imp h ((Below.refl _ w).alloc (Nat.le_refl _) _) (by simp) fun _ _ _ h => h
  have HS := hid hs
  clear hs h
  go_enter Tryz.func167, Tryz.ntmps167
  go_wp2_with fail
  refine (sright_any l v _ HS.out).mono ?_
  rintro e w1 ⟨rfl, hb1⟩
  have hs1 := hb1.size
  simp only [World.size_alloc] at hs1
  have hB : Below w.heap.size w w1 := ((Below.refl _ w).alloc (Nat.le_refl _) _).trans (hb1.mono (by simp))
  have hc : w1.cell? ⟨w.heap.size, 0, none⟩ = some (.int .i64 n) := by rw [hb1.cell (p := ⟨w.heap.size, 0, none⟩) (by simp)]; simp
  have HT : Hid (TestRun 206 #[.pointer (some ⟨w.heap.size, 0, none⟩)] (fun r => inR r n) w1) :=
    ⟨enters_of Tryz.func206 (by kernel_rfl) rfl, fun x W hW => hasClo_any x n w.heap.size W ((hW.cell (p := ⟨w.heap.size, 0, none⟩) (by show w.heap.size < _; omega)).trans hc) (by have := hW.size; omega)⟩
  have hs2 : SlP w1 w1.heap.size 2 RuE v l := SlP.imp HS.out hb1 (by simpa using hs1) fun _ _ _ h => h
  have HS2 := hid hs2
  clear hs2
  cases hr : runsR none l
  · have HR : Hid (sHas l n = false) := by unfold Hid sHas; rw [hr]; rfl
    clear hr
    go_wp2_with fail
    go_ret
    exact ⟨ret_bool HR.out.symm, hB⟩
  · have HR : Hid (sHas l n = l.any fun r => inR r n) := by unfold Hid sHas; rw [hr]; rfl
    clear hr
    go_wp2_with fail
    refine (conRun_any (fun r => inR r n) _ _ l v w1 HS2.out HT.out).mono ?_
    rintro e w2 ⟨rfl, hb2⟩
    go_wp2_with fail
    go_ret
    exact ⟨ret_bool HR.out.symm, hB.trans (hb2.mono (by omega))⟩
end Go.Proofs.YtlapdmgjfdelnaaGreat

namespace Go.Proofs.YtlapdmgjfdelnaaGreat
open Go.RowKit
set_option maxRecDepth 100000

/-- A test on texts. -/
def TestStr (g : Nat) (lb : Array Value) (p : ByteArray → Bool) (w : World) : Prop :=
  (∀ args W, (callFunc g args).run Tryz.prog W = .ok (.enter g args) W) ∧
  ∀ (x : ByteArray) (W : World), x.size ≤ Big → Below w.heap.size w W → Calls Tryz.prog g (#[.string x] ++ lb) W fun e w' => e = .returned (.bool (p x)) ∧ Below W.heap.size W w'
/-- A test on kids that looks at the key alone. -/
def TestKid (g : Nat) (lb : Array Value) (p : ByteArray → Bool) (w : World) : Prop :=
  (∀ args W, (callFunc g args).run Tryz.prog W = .ok (.enter g args) W) ∧
  ∀ (x : ByteArray) (A A' : Option Addr) (n c n' c' : Nat) (W : World), x.size ≤ Big → Below w.heap.size w W → Calls Tryz.prog g (#[.agg #[.string x, .slice A n c, .slice A' n' c']] ++ lb) W fun e w' => e = .returned (.bool (p x)) ∧ Below W.heap.size W w'

set_option maxHeartbeats 1000000 in
theorem idxStr_any (p : ByteArray → Bool) (g : Nat) (lb : Array Value) (l : List ByteArray) (v : Value) (w : World) (h : SlP w w.heap.size 1 StE v l) (ht : TestStr g lb p w) :
    Calls Tryz.prog 196 #[v, .func (.func g) #[] lb] w fun e w' => e = .returned (.int .i64 (idxI p l)) ∧ Below w.heap.size w w' := by
  obtain ⟨A, n, rfl, b1, b2, b3⟩ := h
  obtain ⟨eg, ht⟩ := ht
  unfold Big at b2
  go_enter Tryz.func196, Tryz.ntmps196
  go_wp2_with fail
  go_loopw [8] (fun i wr => ∃ k : Nat, k ≤ l.length ∧ i = .int .i64 k ∧ Hid (∀ (j : Nat) y, j < k → l[j]? = some y → p y = false) ∧ Below w.heap.size w wr) (fun i _ => l.length - (intOf i).toNat)
  case atStart => exact ⟨0, Nat.zero_le _, rfl, fun j y hj => absurd hj (Nat.not_lt_zero _), Below.refl _ _⟩
  case round =>
    obtain ⟨k, hk, rfl, hrel, hb⟩ := hrel
    have hsz := hb.size
    by_cases hlt : k < l.length
    · obtain ⟨x, hx⟩ : ∃ x, l[k]? = some x := ⟨_, List.getElem?_eq_getElem hlt⟩
      obtain ⟨b, off, rfl, hbB, hc⟩ := b3 (by rintro rfl; simp at hlt)
      obtain ⟨cs, ⟨rfl, hok⟩, _, hu⟩ := hc k _ hx
      have e0 : wr.cell? ⟨b, off + k, none⟩ = some (.string x) := (hb.cell hbB).trans (by simpa using hu 0 _ rfl)
      have hcall := ht x wr hok hb
      have HX := hid hx
      have hpx : p x = p x := rfl
      clear hu hx hc b3 ht
      cases hq : p x
      · have HQ : Hid (p x = false) := hpx.trans hq
        rw [hq] at hcall
        clear hq hpx
        go_wp2_with (go_at_fn g; refine hcall.mono ?_; rintro e w1 ⟨rfl, hb1⟩)
        go_roundw
        case rel =>
          refine ⟨k + 1, by omega, by go_num, fun j y hj hy => ?_, hb.trans (hb1.mono hsz)⟩
          by_cases hjk : j = k
          · subst hjk; have h2 := HX.out; rw [hy] at h2; cases h2; exact HQ.out
          · exact hrel.out j y (by omega) hy
        case measure => simp [intOf]; omega
      · have HQ : Hid (p x = true) := hpx.trans hq
        rw [hq] at hcall
        clear hq hpx
        go_wp2_with (go_at_fn g; refine hcall.mono ?_; rintro e w1 ⟨rfl, hb1⟩)
        go_ret
        exact ⟨ret_int (idxI_hit hrel.out HX.out HQ.out).symm, hb.trans (hb1.mono hsz)⟩
    · obtain rfl : k = l.length := by omega
      go_wp2_with fail
      go_ret
      exact ⟨ret_int (idxI_miss hrel.out).symm, hb⟩

theorem conStr_any (p : ByteArray → Bool) (g : Nat) (lb : Array Value) (l : List ByteArray) (v : Value) (w : World) (h : SlP w w.heap.size 1 StE v l) (ht : TestStr g lb p w) :
    Calls Tryz.prog 146 #[v, .func (.func g) #[] lb] w fun e w' => e = .returned (.bool (l.any p)) ∧ Below w.heap.size w w' := by
  have hbd := idxI_bd p l
  have HA := hid (idxI_any p l)
  obtain ⟨A, n, rfl, b1, b2, b3⟩ := h
  unfold Big at b2
  go_enter Tryz.func146, Tryz.ntmps146
  go_wp2_with fail
  refine (idxStr_any p g lb l _ w ⟨A, n, rfl, b1, by unfold Big; omega, b3⟩ ht).mono ?_
  rintro e w1 ⟨rfl, hb1⟩
  go_wp2_with fail
  go_ret
  exact ⟨ret_bool HA.out, hb1⟩

set_option maxHeartbeats 1000000 in
theorem idxKid_any (p : ByteArray → Bool) (g : Nat) (lb : Array Value) (l : List Kd) (v : Value) (w : World) (h : SlP w w.heap.size 3 (KdE w w.heap.size) v l) (ht : TestKid g lb p w) :
    Calls Tryz.prog 149 #[v, .func (.func g) #[] lb] w fun e w' => e = .returned (.int .i64 (idxI (fun y => p y.1) l)) ∧ Below w.heap.size w w' := by
  obtain ⟨A, n, rfl, b1, b2, b3⟩ := h
  obtain ⟨eg, ht⟩ := ht
  unfold Big at b2
  go_enter Tryz.func149, Tryz.ntmps149
  go_wp2_with fail
  go_loopw [8] (fun i wr => ∃ k : Nat, k ≤ l.length ∧ i = .int .i64 k ∧ Hid (∀ (j : Nat) y, j < k → l[j]? = some y → (fun y => p y.1) y = false) ∧ Below w.heap.size w wr) (fun i _ => l.length - (intOf i).toNat)
  case atStart => exact ⟨0, Nat.zero_le _, rfl, fun j y hj => absurd hj (Nat.not_lt_zero _), Below.refl _ _⟩
  case round =>
    obtain ⟨k, hk, rfl, hrel, hb⟩ := hrel
    have hsz := hb.size
    by_cases hlt : k < l.length
    · obtain ⟨x, hx⟩ : ∃ x, l[k]? = some x := ⟨_, List.getElem?_eq_getElem hlt⟩
      obtain ⟨b, off, rfl, hbB, hc⟩ := b3 (by rintro rfl; simp at hlt)
      obtain ⟨cs, ⟨ve, vk, rfl, hok, hrd⟩, _, hu⟩ := hc k _ hx
      obtain ⟨A3, n3, A4, n4, rfl, rfl⟩ := rd_shape hrd
      have e0 : wr.cell? ⟨b, off + k * 3, none⟩ = some (.string x.1) := (hb.cell hbB).trans (hu 0 _ rfl)
      have e1 : wr.cell? ⟨b, off + k * 3 + 1, none⟩ = some (.slice A3 x.2.es.length n3) := (hb.cell hbB).trans (hu 1 _ rfl)
      have e2 : wr.cell? ⟨b, off + k * 3 + 2, none⟩ = some (.slice A4 x.2.ks.length n4) := (hb.cell hbB).trans (hu 2 _ rfl)
      have hcall := ht x.1 A3 A4 x.2.es.length n3 x.2.ks.length n4 wr hok hb
      have HX := hid hx
      have hpx : (fun y => p y.1) x = p x.1 := rfl
      clear hu hx hc b3 ht
      cases hq : p x.1
      · have HQ : Hid ((fun y => p y.1) x = false) := hpx.trans hq
        rw [hq] at hcall
        clear hq hpx
        go_wp2_with (go_at_fn g; refine hcall.mono ?_; rintro e w1 ⟨rfl, hb1⟩)
        go_roundw
        case rel =>
          refine ⟨k + 1, by omega, by go_num, fun j y hj hy => ?_, hb.trans (hb1.mono hsz)⟩
          by_cases hjk : j = k
          · subst hjk; have h2 := HX.out; rw [hy] at h2; cases h2; exact HQ.out
          · exact hrel.out j y (by omega) hy
        case measure => simp [intOf]; omega
      · have HQ : Hid ((fun y => p y.1) x = true) := hpx.trans hq
        rw [hq] at hcall
        clear hq hpx
        go_wp2_with (go_at_fn g; refine hcall.mono ?_; rintro e w1 ⟨rfl, hb1⟩)
        go_ret
        exact ⟨ret_int (idxI_hit hrel.out HX.out HQ.out).symm, hb.trans (hb1.mono hsz)⟩
    · obtain rfl : k = l.length := by omega
      go_wp2_with fail
      go_ret
      exact ⟨ret_int (idxI_miss hrel.out).symm, hb⟩

theorem conKid_any (p : ByteArray → Bool) (g : Nat) (lb : Array Value) (l : List Kd) (v : Value) (w : World) (h : SlP w w.heap.size 3 (KdE w w.heap.size) v l) (ht : TestKid g lb p w) :
    Calls Tryz.prog 190 #[v, .func (.func g) #[] lb] w fun e w' => e = .returned (.bool (l.any (fun y => p y.1))) ∧ Below w.heap.size w w' := by
  have hbd := idxI_bd (fun y => p y.1) l
  have HA := hid (idxI_any (fun y => p y.1) l)
  obtain ⟨A, n, rfl, b1, b2, b3⟩ := h
  unfold Big at b2
  go_enter Tryz.func190, Tryz.ntmps190
  go_wp2_with fail
  refine (idxKid_any p g lb l _ w ⟨A, n, rfl, b1, by unfold Big; omega, b3⟩ ht).mono ?_
  rintro e w1 ⟨rfl, hb1⟩
  go_wp2_with fail
  go_ret
  exact ⟨ret_bool HA.out, hb1⟩

end Go.Proofs.YtlapdmgjfdelnaaGreat

namespace Go.Proofs.YtlapdmgjfdelnaaGreat
open Go.RowKit
set_option maxRecDepth 100000

theorem getClo_any (key x : ByteArray) (A A' : Option Addr) (n c n' c' : Nat) (B : Nat) (w : World) (hc : w.cell? ⟨B, 0, none⟩ = some (.string key)) (hB : B < w.heap.size) :
    Calls Tryz.prog 150 #[.agg #[.string x, .slice A n c, .slice A' n' c'], .pointer (some ⟨B, 0, none⟩)] w fun e w' => e = .returned (.bool (decide (x = key))) ∧ Below w.heap.size w w' := by
  have hne : B ≠ w.heap.size := by omega
  have HE : Hid ((x.toList == key.toList) = decide (x = key)) := by
    unfold Hid; rw [Bool.eq_iff_iff]; simp [bytes_inj]
  go_enter Tryz.func150, Tryz.ntmps150
  go_wp2_with fail
  go_ret
  exact ⟨ret_bool HE.out, by go_grown⟩
theorem getTest {key : ByteArray} {B : Nat} {w : World} (hc : w.cell? ⟨B, 0, none⟩ = some (.string key)) (hB : B < w.heap.size) : TestKid 150 #[.pointer (some ⟨B, 0, none⟩)] (fun x => decide (x = key)) w :=
  ⟨enters_of Tryz.func150 (by kernel_rfl) rfl, fun x A A' n c n' c' W _ hW => getClo_any key x A A' n c n' c' B W ((hW.cell (p := ⟨B, 0, none⟩) hB).trans hc) (by have := hW.size; omega)⟩

theorem kid_idx (t : Tr) (s : ByteArray) : (idxI (fun y : Kd => decide (y.1 = s)) t.ks = -1 ∧ kidT t s = .mk [] []) ∨ ∃ (k : Nat) (u : Tr), idxI (fun y : Kd => decide (y.1 = s)) t.ks = (k : Int) ∧ t.ks[k]? = some (s, u) ∧ kidT t s = u := by
  unfold idxI kidT
  cases h : t.ks.findIdx? fun y => decide (y.1 = s) with
  | none =>
    rw [List.findIdx?_eq_none_iff] at h
    exact .inl ⟨rfl, by rw [List.find?_eq_none.2 fun x hx => by simpa using h x hx]⟩
  | some i =>
    rw [List.findIdx?_eq_some_iff_getElem] at h
    obtain ⟨hlt, hp, hm⟩ := h
    have hf : t.ks.find? (fun x => decide (x.1 = s)) = some t.ks[i] := by
      rw [List.find?_eq_some_iff_getElem]
      exact ⟨hp, i, hlt, rfl, fun j hj => by simpa using hm j hj⟩
    refine .inr ⟨i, t.ks[i].2, rfl, ?_, by rw [hf]⟩
    rw [List.getElem?_eq_getElem hlt]
    have : t.ks[i].1 = s := by simpa using hp
    rw [← this]
theorem getK_nil : ∀ p : List ByteArray, getK (.mk [] []) p = .mk [] []
  | [] => rfl
  | s :: p => by
    show getK (kidT (.mk [] []) s) p = _
    rw [show kidT (.mk [] []) s = .mk [] [] from rfl]; exact getK_nil p
/-- What tree.Get tells. -/
def tgetT (t : Tr) (p : List ByteArray) : Tr := if t.right 5 then getK t p else .mk [] []

theorem kids_slp {t : Tr} {w : World} {B : Nat} {ve vk : Value} (h : t.rd w B ve vk) : SlP w B 3 (KdE w B) vk t.ks := by
  obtain ⟨es, ks⟩ := t; exact (rd_iff.1 h).2
set_option maxHeartbeats 4000000 in
theorem tget_any (t : Tr) (p : List ByteArray) (ve vk vp : Value) (w : World) (h : t.rd w w.heap.size ve vk) (hp : SlP w w.heap.size 1 StE vp p) (hN : t.sz ≤ 900000) :
    Calls Tryz.prog 89 #[.agg #[ve, vk], vp] w (RetT w (tgetT t p)) := by
  have HC : Hid (∀ w', Below w.heap.size w w' → t.rd w' w'.heap.size ve vk) := fun w' hb => rd_below hb hb.size _ _ _ h
  have HD := hid h
  obtain ⟨A3, n3, A4, n4, rfl, rfl⟩ := rd_shape h
  obtain ⟨Ap, cp, rfl, p1, p2, p3⟩ := hp
  unfold Big at p2
  have hb0 : Below w.heap.size w ((w.alloc (.cells #[.slice A3 t.es.length n3, .slice A4 t.ks.length n4] 25)).alloc (.cells #[.slice none 0 0, .slice none 0 0] 25)) := ((Below.refl _ w).alloc (Nat.le_refl _) _).alloc (by simp) _
  have HW : Hid (∀ w', Below (w.heap.size + 2) ((w.alloc (.cells #[.slice A3 t.es.length n3, .slice A4 t.ks.length n4] 25)).alloc (.cells #[.slice none 0 0, .slice none 0 0] 25)) w' → Below w.heap.size w w' ∧ w.heap.size + 2 ≤ w'.heap.size ∧ w'.heap[w.heap.size]? = some (.cells #[.slice A3 t.es.length n3, .slice A4 t.ks.length n4] 25 (0, 0)) ∧ w'.heap[w.heap.size + 1]? = some (.cells #[.slice none 0 0, .slice none 0 0] 25 (0, 0))) := fun w' hb => by
    have hB : Below w.heap.size w w' := hb0.trans (hb.mono (by omega))
    exact ⟨hB, by have := hb.size; simpa using this, (hb.block _ (by omega)).trans ((heap_old (by simp)).trans (heap_new rfl)), (hb.block _ (by omega)).trans (heap_new (by simp))⟩
  clear h
  go_enter Tryz.func89, Tryz.ntmps89
  go_wp2_with fail
  refine (tRight_any t _ _ _ (HC.out _ hb0)).mono ?_
  rintro e w1 ⟨rfl, hb1⟩
  obtain ⟨hB1, hs1, g2, g4⟩ := HW.out _ (hb1.mono (show w.heap.size + 2 ≤ _ by simp))
  have HG2 := hid g2
  have HG4 := hid g4
  have k0 : w1.cell? ⟨w.heap.size + 1, 0, none⟩ = some (.slice none 0 0) := cell_cells (i := 0) g4
  have k1 : w1.cell? ⟨w.heap.size + 1, 1, none⟩ = some (.slice none 0 0) := cell_cells (i := 1) g4
  have z0 := cells_frz (i := 0) g4
  have z1 := cells_frz (i := 1) g4
  clear hb1 g2 g4
  cases hr : t.right 5
  · have HTT : Hid (tgetT t p = .mk [] []) := by unfold Hid tgetT; rw [hr]; rfl
    clear hr
    go_wp2_with fail
    have hW0 := cells_set (i := 1) (cells_set (i := 0) HG4.out (.slice none 0 0)) (.slice none 0 0)
    have r0 := (cell_cells (i := 0) hW0).trans (show _ = some (.slice none 0 0) by simp)
    have r1 := (cell_cells (i := 1) hW0).trans (show _ = some (.slice none 0 0) by simp)
    refine bodyPost_ret (v := .agg #[.slice none 0 0, .slice none 0 0]) (by simp [results, Tryz.results89, go_sem, r0, r1]) rfl ⟨_, _, rfl, by rw [HTT.out]; exact rda_nil _ _, ((hB1).setCell (by simp) _).setCell (by simp) _⟩
  have HTT0 : Hid (tgetT t p = getK t p) := by unfold Hid tgetT; rw [hr]; rfl
  clear hr k0 k1 z0 z1
  go_wp2_with fail
  go_loopw [14] (fun i wr => ∃ (k : Nat) (u : Tr) (Ae : Option Addr) (ne : Nat) (Ak : Option Addr) (nk : Nat), k ≤ p.length ∧ i = .int .i64 k ∧ Hid (u.rd w w.heap.size (.slice Ae u.es.length ne) (.slice Ak u.ks.length nk)) ∧ u.sz ≤ 900000 ∧ Hid (getK u (p.drop k) = getK t p) ∧ Hid (wr.heap[w.heap.size]? = some (.cells #[.slice Ae u.es.length ne, .slice Ak u.ks.length nk] 25 (0, 0))) ∧ Hid (wr.heap[w.heap.size + 1]? = some (.cells #[.slice none 0 0, .slice none 0 0] 25 (0, 0))) ∧ w.heap.size + 2 ≤ wr.heap.size ∧ Below w.heap.size w wr) (fun i _ => p.length - (intOf i).toNat)
  case atStart => exact ⟨0, t, A3, n3, A4, n4, Nat.zero_le _, rfl, HD, hN, rfl, HG2, HG4, hs1, hB1⟩
  case round =>
    clear HG2 HG4 hs1 hB1
    obtain ⟨k, u, Ae, ne, Ak, nk, hk, rfl, HRD, husz, HK, HG2, HG4, hsw, hB⟩ := hrel
    have c0 : wr.cell? ⟨w.heap.size, 0, none⟩ = some (.slice Ae u.es.length ne) := cell_cells (i := 0) HG2.out
    have c1 : wr.cell? ⟨w.heap.size, 1, none⟩ = some (.slice Ak u.ks.length nk) := cell_cells (i := 1) HG2.out
    by_cases hlt : k < p.length
    · obtain ⟨x, hx⟩ : ∃ x, p[k]? = some x := ⟨_, List.getElem?_eq_getElem hlt⟩
      obtain ⟨b, off, rfl, hbB, hc⟩ := p3 (by rintro rfl; simp at hlt)
      obtain ⟨cs, ⟨rfl, hok⟩, _, hu⟩ := hc k _ hx
      have e0 : wr.cell? ⟨b, off + k, none⟩ = some (.string x) := (hB.cell (p := ⟨b, off + k, none⟩) hbB).trans (by simpa using hu 0 _ rfl)
      have HX : Hid (getK (kidT u x) (p.drop (k + 1)) = getK t p) := by unfold Hid; rw [← HK.out, drop_cons hx]; rfl
      have hne : w.heap.size ≠ wr.heap.size := by omega
      have hlt0 : w.heap.size < wr.heap.size := by omega
      clear hu hc p3 hx HK
      go_wp2_with fail
      refine (idxKid_any (fun y => decide (y = x)) _ _ u.ks _ _ (kids_slp (rd_below (hB.alloc (by omega) (.cells #[.string x] 9)) (hB.alloc (by omega) (.cells #[.string x] 9)).size u _ _ HRD.out)) (getTest (key := x) (B := wr.heap.size) (by simp) (by simp))).mono ?_
      rintro e w1 ⟨rfl, hb1⟩
      have hs1 := hb1.size
      simp only [World.size_alloc] at hs1
      have hB1 : Below w.heap.size w w1 := (hB.alloc (by omega) _).trans (hb1.mono (by rw [World.size_alloc]; omega))
      have HG2' := hid ((hb1.block w.heap.size (by rw [World.size_alloc]; omega)).trans ((heap_old (by omega)).trans HG2.out))
      have HG4' := hid ((hb1.block (w.heap.size + 1) (by rw [World.size_alloc]; omega)).trans ((heap_old (by omega)).trans HG4.out))
      clear hb1 c0 c1 e0 HG2 HG4
      have c0 : w1.cell? ⟨w.heap.size, 0, none⟩ = some (.slice Ae u.es.length ne) := cell_cells (i := 0) HG2'.out
      have c1 : w1.cell? ⟨w.heap.size, 1, none⟩ = some (.slice Ak u.ks.length nk) := cell_cells (i := 1) HG2'.out
      have k0 : w1.cell? ⟨w.heap.size + 1, 0, none⟩ = some (.slice none 0 0) := cell_cells (i := 0) HG4'.out
      have k1 : w1.cell? ⟨w.heap.size + 1, 1, none⟩ = some (.slice none 0 0) := cell_cells (i := 1) HG4'.out
      have y0 := cells_frz (i := 0) HG2'.out
      have y1 := cells_frz (i := 1) HG2'.out
      have z0 := cells_frz (i := 0) HG4'.out
      have z1 := cells_frz (i := 1) HG4'.out
      rcases kid_idx u x with ⟨hi, hkn⟩ | ⟨j, v, hi, hj, hkv⟩
      · have HTT : Hid (tgetT t p = .mk [] []) := by unfold Hid; rw [HTT0.out, ← HX.out, hkn, getK_nil]
        have HG4 := HG4'
        rw [hi]
        clear hi hkn y0 y1
        go_wp2_with fail
        have hW0 := cells_set (i := 1) (cells_set (i := 0) HG4.out (.slice none 0 0)) (.slice none 0 0)
        have r0 := (cell_cells (i := 0) hW0).trans (show _ = some (.slice none 0 0) by simp)
        have r1 := (cell_cells (i := 1) hW0).trans (show _ = some (.slice none 0 0) by simp)
        refine bodyPost_ret (v := .agg #[.slice none 0 0, .slice none 0 0]) (by simp [results, Tryz.results89, go_sem, r0, r1]) rfl ⟨_, _, rfl, by rw [HTT.out]; exact rda_nil _ _, ((hB1).setCell (by simp) _).setCell (by simp) _⟩
      · rw [hi]
        have hjl : j < u.ks.length := (List.getElem?_eq_some_iff.1 hj).1
        have hmem := List.mem_of_getElem? hj
        have hvs : v.sz ≤ 900000 := by
          have h1 := kidT_sz u x
          rw [hkv] at h1; omega
        have hkl : u.ks.length ≤ 140737488355328 := by
          have h1 := HRD.out; obtain ⟨es, ks⟩ := u; obtain ⟨_, _, _, _, h2, _⟩ := (rd_iff.1 h1).2; exact h2
        obtain ⟨b', off', rfl, hbB', vAe, vne, vAk, vnk, HRV, q1, q2⟩ : ∃ b' off', Ak = some ⟨b', off', none⟩ ∧ b' < w.heap.size ∧ ∃ vAe vne vAk vnk, Hid (v.rd w w.heap.size (.slice vAe v.es.length vne) (.slice vAk v.ks.length vnk)) ∧ w1.cell? ⟨b', off' + j * 3 + 1, none⟩ = some (.slice vAe v.es.length vne) ∧ w1.cell? ⟨b', off' + j * 3 + 2, none⟩ = some (.slice vAk v.ks.length vnk) := by
          have h1 := HRD.out
          obtain ⟨es, ks⟩ := u
          obtain ⟨Ak', ck', he, _, _, h3⟩ := (rd_iff.1 h1).2
          cases he
          obtain ⟨b', off', rfl, hbB', hc'⟩ := h3 (by rintro rfl; simp [Tr.ks] at hjl)
          obtain ⟨cs, ⟨ve', vk', rfl, _, hrd'⟩, _, hu'⟩ := hc' j _ hj
          obtain ⟨vAe, vne, vAk, vnk, rfl, rfl⟩ := rd_shape hrd'
          exact ⟨b', off', rfl, hbB', vAe, vne, vAk, vnk, hrd', (hB1.cell (p := ⟨b', off' + j * 3 + 1, none⟩) hbB').trans (hu' 1 _ rfl), (hB1.cell (p := ⟨b', off' + j * 3 + 2, none⟩) hbB').trans (hu' 2 _ rfl)⟩
        have HKV := hid hkv
        clear hi hj hmem hkv k0 k1 z0 z1
        go_wp2_with fail
        go_roundw
        case rel => exact ⟨k + 1, v, vAe, vne, vAk, vnk, by omega, by go_num, HRV, hvs, by unfold Hid; rw [← HX.out, HKV.out], hid (by simpa using cells_set (i := 1) (cells_set (i := 0) HG2'.out (.slice vAe v.es.length vne)) (.slice vAk v.ks.length vnk)), hid ((Below.heap_setCell _ _ _ _ (by simp)).trans ((Below.heap_setCell _ _ _ _ (by simp)).trans HG4'.out)), by simp; omega, (hB1.setCell (by simp) _).setCell (by simp) _⟩
        case measure => simp [intOf]; omega
    · obtain rfl : k = p.length := by omega
      have HU : Hid (tgetT t p = u) := by
        have := HK.out
        rw [List.drop_of_length_le (Nat.le_refl _)] at this
        unfold Hid; rw [HTT0.out, ← this]; rfl
      clear p3 HK
      go_wp2_with fail
      refine (tclone_any u wr _ _ (rd_below hB hB.size _ _ _ HRD.out) husz).mono ?_
      rintro e w2 ⟨ve2, vk2, rfl, hrd, hb2⟩
      obtain ⟨Av, nv, Aw, nw, rfl, rfl⟩ := rda_shape hrd
      have hs2 := hb2.size
      have hB2 : Below w.heap.size w w2 := hB.trans (hb2.mono (by omega))
      have HG4' := hid ((hb2.block (w.heap.size + 1) (by omega)).trans HG4.out)
      have HRU := hid hrd
      clear hb2 c0 c1 HG2 HG4 hrd
      have k0 : w2.cell? ⟨w.heap.size + 1, 0, none⟩ = some (.slice none 0 0) := cell_cells (i := 0) HG4'.out
      have k1 : w2.cell? ⟨w.heap.size + 1, 1, none⟩ = some (.slice none 0 0) := cell_cells (i := 1) HG4'.out
      have z0 := cells_frz (i := 0) HG4'.out
      have z1 := cells_frz (i := 1) HG4'.out
      go_wp2_with fail
      obtain ⟨r0, r1, hrW, hsW⟩ := box_tree HG4'.out HRU.out (fun b hb => by have := hb.1; omega)
      refine bodyPost_ret (v := .agg #[.slice Av u.es.length nv, .slice Aw u.ks.length nw]) (by simp [results, Tryz.results89, go_sem, r0, r1]) rfl ⟨_, _, rfl, ?_, (hB2.setCell (by simp) _).setCell (by simp) _⟩
      rw [HU.out]
      exact rda_up (fun _ _ => rfl) (fun b hb => ⟨by have := hb.1; omega, by rw [hsW]; exact hb.2⟩) _ _ _ hrW
end Go.Proofs.YtlapdmgjfdelnaaGreat

namespace Go.Proofs.YtlapdmgjfdelnaaGreat
open Go.RowKit
set_option maxRecDepth 100000

def cHas (c : List Sp) (d : Dt) : Bool := apartB c && (d.right && sHas (partL c d.dc) d.n)

set_option maxHeartbeats 4000000 in
theorem chas_any (c : List Sp) (d : Dt) (vc : Value) (w : World) (h : SlP w w.heap.size 3 SpE vc c) (hN : c.length ≤ 900000) :
    Calls Tryz.prog 128 #[vc, .agg #[.int .i64 d.dc, .int .i64 d.n]] w fun e w' => e = .returned (.bool (cHas c d)) ∧ Below w.heap.size w w' := by
  have HC : Hid (∀ w', Below w.heap.size w w' → SlP w' w'.heap.size 3 SpE vc c) := fun w' hb => h.imp hb hb.size (fun _ _ _ h => h)
  obtain ⟨A, n, rfl, _, _, _⟩ := h
  obtain ⟨dc, num⟩ := d
  go_enter Tryz.func128, Tryz.ntmps128
  go_wp2_with fail
  refine (apart_any c _ _ (HC.out _ ((Below.refl _ w).alloc (Nat.le_refl _) _)) hN).mono ?_
  rintro e w1 ⟨vs, rfl, hsl, hb1⟩
  have hs1 := hb1.size
  simp only [World.size_alloc] at hs1
  have hB1 : Below w.heap.size w w1 := ((Below.refl _ w).alloc (Nat.le_refl _) _).trans (hb1.mono (by simp))
  have b0 : w1.cell? ⟨w.heap.size, 0, none⟩ = some (.int .i64 dc) := by rw [hb1.cell (p := ⟨w.heap.size, 0, none⟩) (by simp)]; simp
  have b1 : w1.cell? ⟨w.heap.size, 1, none⟩ = some (.int .i64 num) := by rw [hb1.cell (p := ⟨w.heap.size, 1, none⟩) (by simp)]; simp
  obtain ⟨A0, m0, g0, _⟩ := hsl 0 (by omega)
  obtain ⟨A1, m1, g1, _⟩ := hsl 1 (by omega)
  obtain ⟨A2, m2, g2, _⟩ := hsl 2 (by omega)
  obtain ⟨A3, m3, g3, _⟩ := hsl 3 (by omega)
  have HSL := hid (fun i (hi : i < 4) => (hsl i hi).slp (fun b hb => hb.2) (Below.refl _ w1))
  clear hsl
  cases hap : apartB c
  · have HR : Hid (cHas c ⟨dc, num⟩ = false) := by unfold Hid cHas; rw [hap]; rfl
    simp only [hap, Bool.false_eq_true, if_false] at g0 g1 g2 g3
    simp only [g0, g1, g2, g3]
    clear hap g0 g1 g2 g3
    go_upto_region 2 with (fail)
    refine wp_region_far (w1.heap.size + 1) (by kernel_rfl) (by kernel_rfl) ?_
    repeat (go_big_quiet_step (fail))
    refine wpQuiet_nil ?_
    intro wq hbq
    have hbw : Below w.heap.size w wq := (hB1.alloc (by omega) _).trans (hbq.mono (by omega))
    go_wp2_with fail
    go_ret
    exact ⟨ret_bool HR.out.symm, hbw⟩
  simp only [hap, if_true] at g0 g1 g2 g3
  simp only [g0, g1, g2, g3]
  cases hr : Dt.right ⟨dc, num⟩
  · have HR : Hid (cHas c ⟨dc, num⟩ = false) := by unfold Hid cHas; rw [hap, hr]; rfl
    go_upto_region 2 with (fail)
    have f0 := far_cell (B := w1.heap.size + 1) (w := w1.alloc (.cells #[.slice A0 (partL c 0).length m0, .slice A1 (partL c 1).length m1, .slice A2 (partL c 2).length m2, .slice A3 (partL c 3).length m3] 171)) (b := w.heap.size) (o := 0) (v := .int .i64 dc) (by rw [World.cell?_alloc_lt _ _ _ (by show w.heap.size < _; omega)]; exact b0) (by omega)
    have f1 := far_cell (B := w1.heap.size + 1) (w := w1.alloc (.cells #[.slice A0 (partL c 0).length m0, .slice A1 (partL c 1).length m1, .slice A2 (partL c 2).length m2, .slice A3 (partL c 3).length m3] 171)) (b := w.heap.size) (o := 1) (v := .int .i64 num) (by rw [World.cell?_alloc_lt _ _ _ (by show w.heap.size < _; omega)]; exact b1) (by omega)
    have HRI := hid hr
    clear hap hr g0 g1 g2 g3
    refine wp_region_far (w1.heap.size + 1) (by kernel_rfl) (by kernel_rfl) ?_
    repeat (go_big_quiet_step ((go_at_call 109; exact Calls.far_of (by simp) (HRI.out ▸ dright_any ⟨dc, num⟩ _))))
    refine wpQuiet_nil ?_
    intro wq hbq
    have hbw : Below w.heap.size w wq := (hB1.alloc (by omega) _).trans (hbq.mono (by omega))
    go_wp2_with fail
    go_ret
    exact ⟨ret_bool HR.out.symm, hbw⟩
  · have hbd : (0 ≤ dc ∧ dc < 4) ∧ 1 ≤ num ∧ num ≤ 1099511627776 := by simpa [Dt.right, and_assoc] using hr
    obtain ⟨dn, rfl⟩ : ∃ dn : Nat, dc = (dn : Int) := ⟨dc.toNat, by omega⟩
    have hd4 : dn < 4 := by omega
    have hdi : (dn : Int) < 4 := by omega
    have HR : Hid (cHas c ⟨dn, num⟩ = sHas (partL c dn) num) := by unfold Hid cHas; rw [hap, hr]; rfl
    obtain ⟨Ad, md, gd, _⟩ := HSL.out dn hd4
    rw [if_pos hap] at gd
    have hcell : (w1.alloc (.cells #[.slice A0 (partL c 0).length m0, .slice A1 (partL c 1).length m1, .slice A2 (partL c 2).length m2, .slice A3 (partL c 3).length m3] 171)).cell? ⟨w1.heap.size, dn, none⟩ = some (.slice Ad (partL c dn).length md) := by
      rw [cell_cells (heap_new rfl), ← gd]
      match dn, hd4 with
      | 0, _ => rw [g0]; rfl
      | 1, _ => rw [g1]; rfl
      | 2, _ => rw [g2]; rfl
      | 3, _ => rw [g3]; rfl
    have HS3 : Hid (∀ w', Below w1.heap.size w1 w' → SlP w' w'.heap.size 2 RuE (.slice Ad (partL c dn).length md) (partL c dn)) := fun w' hb => by
      have := HSL.out dn hd4
      rw [if_pos hap, gd] at this
      exact this.imp hb hb.size fun _ _ _ h => h
    go_upto_region 2 with (fail)
    have f0 := far_cell (B := w1.heap.size + 1) (w := w1.alloc (.cells #[.slice A0 (partL c 0).length m0, .slice A1 (partL c 1).length m1, .slice A2 (partL c 2).length m2, .slice A3 (partL c 3).length m3] 171)) (b := w.heap.size) (o := 0) (v := .int .i64 (dn : Int)) (by rw [World.cell?_alloc_lt _ _ _ (by show w.heap.size < _; omega)]; exact b0) (by omega)
    have f1 := far_cell (B := w1.heap.size + 1) (w := w1.alloc (.cells #[.slice A0 (partL c 0).length m0, .slice A1 (partL c 1).length m1, .slice A2 (partL c 2).length m2, .slice A3 (partL c 3).length m3] 171)) (b := w.heap.size) (o := 1) (v := .int .i64 num) (by rw [World.cell?_alloc_lt _ _ _ (by show w.heap.size < _; omega)]; exact b1) (by omega)
    have f2 := far_cell (B := w1.heap.size + 1) hcell (by omega)
    have HRI := hid hr
    clear hap hr g0 g1 g2 g3 gd hcell
    refine wp_region_far (w1.heap.size + 1) (by kernel_rfl) (by kernel_rfl) ?_
    repeat (go_big_quiet_step (first | (go_at_call 109; exact Calls.far_of (by simp) (HRI.out ▸ dright_any ⟨dn, num⟩ _)) | (go_at_call 167; exact Calls.far_all (by simp) (fun w' hb' => shas_any (partL c dn) num _ w' (HS3.out w' (((Below.refl _ w1).alloc (Nat.le_refl _) _).trans (hb'.mono (by omega))))))))
    refine wpQuiet_nil ?_
    intro wq hbq
    have hbw : Below w.heap.size w wq := (hB1.alloc (by omega) _).trans (hbq.mono (by omega))
    go_wp2_with fail
    go_ret
    exact ⟨ret_bool HR.out.symm, hbw⟩
end Go.Proofs.YtlapdmgjfdelnaaGreat

namespace Go.Proofs.YtlapdmgjfdelnaaGreat
open Go.RowKit

theorem dcsOk_of : ∀ (c : List Sp) (L : Int), c.Pairwise (fun a b => a.dc ≤ b.dc) → (∀ s ∈ c, L ≤ s.dc ∧ s.dc < 4) → dcsOk L c = true
  | [], _, _, _ => rfl
  | s :: c, L, hp, ha => by
    rw [List.pairwise_cons] at hp
    rw [dcsOk, dcsOk_of c s.dc hp.2 (fun x hx => ⟨hp.1 x hx, (ha x (by simp [hx])).2⟩)]
    have := ha s (by simp)
    simp [this]
theorem wholeK_dc (ls : Nat → List (Int × Int)) : ∀ k, ∀ s ∈ wholeK ls k, 0 ≤ s.dc ∧ s.dc < k
  | 0, s, h => by simp [wholeK] at h
  | k + 1, s, h => by
    rw [wholeK_succ] at h
    rcases List.mem_append.1 h with h | h
    · have := wholeK_dc ls k s h; omega
    · obtain ⟨r, _, rfl⟩ := List.mem_map.1 h
      show 0 ≤ (k : Int) ∧ (k : Int) < _
      omega
theorem wholeK_pw (ls : Nat → List (Int × Int)) : ∀ k, (wholeK ls k).Pairwise fun a b => a.dc ≤ b.dc
  | 0 => by simp [wholeK]
  | k + 1 => by
    rw [wholeK_succ, List.pairwise_append]
    refine ⟨wholeK_pw ls k, ?_, fun a ha b hb => ?_⟩
    · unfold spansL
      rw [List.pairwise_map]
      exact List.pairwise_of_forall fun _ _ => Int.le_refl _
    · obtain ⟨r, _, rfl⟩ := List.mem_map.1 hb
      have := wholeK_dc ls k a ha
      show a.dc ≤ (k : Int)
      omega
theorem partL_app (a b : List Sp) (dc : Int) : partL (a ++ b) dc = partL a dc ++ partL b dc := by simp [partL]
theorem partL_spans (l : List (Int × Int)) (d dc : Int) : partL (spansL d l) dc = if d = dc then l else [] := by
  unfold partL spansL
  rw [List.filter_map, List.map_map]
  by_cases e : d = dc
  · rw [if_pos e]
    rw [List.filter_eq_self.2 (fun x _ => by simp [e])]
    exact List.map_id'' (fun x => rfl) l
  · rw [if_neg e, List.filter_eq_nil_iff.2 (fun x _ => by simp [e])]; rfl
theorem partL_whole (ls : Nat → List (Int × Int)) : ∀ (k d : Nat), partL (wholeK ls k) d = if d < k then ls d else []
  | 0, d => by simp [wholeK, partL]
  | k + 1, d => by
    rw [wholeK_succ, partL_app, partL_whole ls k d, partL_spans]
    by_cases e : d = k
    · subst e; rw [if_neg (Nat.lt_irrefl _), if_pos rfl, if_pos (Nat.lt_succ_self _)]; rfl
    · rw [if_neg (show ¬ (k : Int) = (d : Int) by omega), List.append_nil]
      by_cases h : d < k
      · rw [if_pos h, if_pos (by omega)]
      · rw [if_neg h, if_neg (by omega)]
theorem apart_whole {ls : Nat → List (Int × Int)} (h : ∀ i, i < 4 → runsR none (ls i) = true) : apartB (wholeK ls 4) = true := by
  unfold apartB
  rw [dcsOk_of _ 0 (wholeK_pw ls 4) (fun s hs => by have := wholeK_dc ls 4 s hs; omega), Bool.true_and, List.all_eq_true]
  intro i hi
  have hi4 : i < 4 := List.mem_range.1 hi
  rw [partL_whole, if_pos hi4]
  exact h i hi4
/-- Two contexts put together of sets of the same numbers are the same. -/
theorem whole_eq {ls ms : Nat → List (Int × Int)} (h : ∀ i, i < 4 → ls i = ms i) : wholeK ls 4 = wholeK ms 4 := by
  unfold wholeK
  rw [List.flatMap_def, List.flatMap_def]
  congr 1
  apply List.map_congr_left
  intro i hi
  rw [h i (List.mem_range.1 hi)]

theorem ctxOf_whole (l : List Dt) : ctxOf l = wholeK (fun i => ofL (numsL l i)) 4 := rfl
theorem nums_ok {l : List Dt} (h : ∀ d ∈ l, d.right = true) (dc : Int) : ∀ x ∈ numsL l dc, 1 ≤ x ∧ x ≤ 1099511627776 := fun x hx => by
  unfold numsL at hx
  obtain ⟨d, hd, rfl⟩ := List.mem_map.1 hx
  have h1 := h d (List.mem_filter.1 hd).1
  simp [Dt.right] at h1
  omega
theorem apart_ctxOf {l : List Dt} (h : ∀ d ∈ l, d.right = true) : apartB (ctxOf l) = true := by
  rw [ctxOf_whole]
  exact apart_whole fun i _ => (ofL_right (nums_ok h i)).1
theorem part_ctxOf (l : List Dt) {d : Nat} (hd : d < 4) : partL (ctxOf l) d = ofL (numsL l d) := by
  rw [ctxOf_whole, partL_whole, if_pos hd]
/-- Of right contexts, context.Has tells what the reference's tells. -/
theorem cHas_eq {c : List Sp} (h : apartB c = true) (d : Dt) : cHas c d = hasC c d := by
  unfold cHas hasC sHas
  rw [h, Bool.true_and]
  cases hd : d.right with
  | false => rfl
  | true =>
    simp only [Bool.true_and]
    have hb : 0 ≤ d.dc ∧ d.dc < 4 := by simp [Dt.right] at hd; omega
    obtain ⟨n, hn⟩ : ∃ n : Nat, d.dc = (n : Int) := ⟨d.dc.toNat, by omega⟩
    unfold apartB at h
    rw [Bool.and_eq_true, List.all_eq_true] at h
    have := h.2 n (List.mem_range.2 (by omega))
    rw [hn, this]; rfl
theorem hasC_ctxOf {l : List Dt} (h : ∀ d ∈ l, d.right = true) {d : Dt} (hd : d.right = true) : hasC (ctxOf l) d = decide (d ∈ l) := by
  have hb : 0 ≤ d.dc ∧ d.dc < 4 := by simp [Dt.right] at hd; omega
  obtain ⟨n, hn⟩ : ∃ n : Nat, d.dc = (n : Int) := ⟨d.dc.toNat, by omega⟩
  unfold hasC
  rw [hd, Bool.true_and, hn, part_ctxOf l (by omega), Bool.eq_iff_iff, (ofL_right (nums_ok h n)).2, decide_eq_true_eq]
  unfold numsL
  rw [List.mem_map]
  constructor
  · rintro ⟨x, hx, he⟩
    obtain ⟨hx1, hx2⟩ := List.mem_filter.1 hx
    have : x = d := by cases x; cases d; simp at *; exact ⟨hx2.trans hn.symm, he⟩
    rw [← this]; exact hx1
  · intro hm
    exact ⟨d, List.mem_filter.2 ⟨hm, by simp [hn]⟩, rfl⟩
end Go.Proofs.YtlapdmgjfdelnaaGreat

namespace Go.Proofs.YtlapdmgjfdelnaaGreat
open Go.RowKit

theorem right_bd {d : Dt} (h : d.right = true) : (0 ≤ d.dc ∧ d.dc < 4) ∧ 1 ≤ d.n ∧ d.n ≤ 1099511627776 := by simpa [Dt.right, and_assoc] using h
theorem ctxBy_whole (a b : List Sp) (how : Int) : ctxBy a b how = wholeK (fun i => byL (partL a i) (partL b i) how) 4 := rfl
theorem runs_ok : ∀ (l : List (Int × Int)) (p : Option Int), runsR p l = true → ∀ r ∈ l, runOk r
  | x :: l, p, h, r, hr => by
    rw [runsR_iff] at h
    rcases List.mem_cons.1 hr with rfl | hr
    · exact h.1
    · exact runs_ok l _ h.2.2 r hr
theorem apart_part {c : List Sp} (h : apartB c = true) {i : Nat} (hi : i < 4) : runsR none (partL c i) = true := by
  unfold apartB at h
  rw [Bool.and_eq_true, List.all_eq_true] at h
  exact h.2 i (List.mem_range.2 hi)
theorem apart_dcs : ∀ (c : List Sp) (L : Int), dcsOk L c = true → ∀ s ∈ c, L ≤ s.dc ∧ s.dc < 4
  | s :: c, L, h, x, hx => by
    rw [dcsOk, Bool.and_eq_true, Bool.and_eq_true, decide_eq_true_eq, decide_eq_true_eq] at h
    rcases List.mem_cons.1 hx with rfl | hx
    · exact ⟨h.1.1, h.1.2⟩
    · have := apart_dcs c s.dc h.2 x hx; exact ⟨by omega, this.2⟩
theorem dcs_split : ∀ (c : List Sp) (L : Nat), dcsOk (L : Int) c = true → ∀ n, L + n = 4 → c = (List.range' L n).flatMap fun (dc : Nat) => spansL (dc : Int) (partL c (dc : Int))
  | c, L, h, 0, hn => by
    cases c with
    | nil => rfl
    | cons s c => have := apart_dcs _ _ h s (by simp); omega
  | c, L, h, n + 1, hn => by
    rw [List.range'_succ, List.flatMap_cons]
    have key : ∀ (c : List Sp) (L : Int), dcsOk L c = true → ∃ c', c = spansL L (partL c L) ++ c' ∧ dcsOk (L + 1) c' = true := by
      intro c
      induction c with
      | nil => intro L _; exact ⟨[], by simp [partL, spansL], rfl⟩
      | cons s c ih =>
        intro L h
        rw [dcsOk, Bool.and_eq_true, Bool.and_eq_true, decide_eq_true_eq, decide_eq_true_eq] at h
        obtain ⟨⟨h1, h2⟩, h3⟩ := h
        by_cases e : s.dc = L
        · rw [e] at h3
          obtain ⟨c', hc, hd⟩ := ih L h3
          refine ⟨c', ?_, hd⟩
          have hp : partL (s :: c) L = (s.fr, s.hi) :: partL c L := by simp [partL, e]
          rw [hp]
          conv => lhs; rw [hc]
          unfold spansL
          rw [List.map_cons, List.cons_append]
          congr 1
          cases s; simp at e; simp [e]
        · refine ⟨s :: c, ?_, ?_⟩
          · have hp : partL (s :: c) L = [] := by
              unfold partL
              rw [List.filter_eq_nil_iff.2, List.map_nil]
              intro x hx
              have : s.dc ≤ x.dc := by
                rcases List.mem_cons.1 hx with rfl | hx
                · exact Int.le_refl _
                · exact (apart_dcs c s.dc h3 x hx).1
              simp; omega
            rw [hp]; rfl
          · rw [dcsOk, h3]; simp; omega
    obtain ⟨c', hc, hd⟩ := key c L h
    have ih := dcs_split c' (L + 1) (by exact_mod_cast hd) n (by omega)
    have hpc : ∀ dc : Nat, L + 1 ≤ dc → partL c dc = partL c' dc := fun dc hdc => by
      rw [hc, partL_app, partL_spans, if_neg (by omega)]; rfl
    conv => lhs; rw [hc, ih]
    congr 1
    rw [List.flatMap_def, List.flatMap_def]
    congr 1
    apply List.map_congr_left
    intro i hi
    rw [hpc i (by have := List.mem_range'_1.1 hi; omega)]
/-- A right context is put together of its parts. -/
theorem whole_part {c : List Sp} (h : apartB c = true) : wholeK (fun i => partL c i) 4 = c := by
  unfold apartB at h
  rw [Bool.and_eq_true] at h
  have := dcs_split c 0 h.1 4 rfl
  unfold wholeK
  rw [List.range_eq_range']
  exact this.symm
end Go.Proofs.YtlapdmgjfdelnaaGreat

namespace Go.Proofs.YtlapdmgjfdelnaaGreat
open Go.RowKit
set_option maxRecDepth 100000

/-- What of an entry stays that one alone has. -/
def stayL (c : List Sp) (x : En) : List En := if cHas c x.dot then [] else [x]
/-- Two lists of entries joined. -/
def entL (ca cb : List Sp) : List En → List En → List En
  | [], [] => []
  | x :: a, [] => stayL cb x ++ entL ca cb a []
  | [], y :: b => stayL ca y ++ entL ca cb [] b
  | x :: a, y :: b => if x.dot.lt y.dot then stayL cb x ++ entL ca cb a (y :: b) else if y.dot.lt x.dot then stayL ca y ++ entL ca cb (x :: a) b else grtE x y :: entL ca cb a b
termination_by a b => a.length + b.length
theorem stayL_len (c : List Sp) (x : En) : (stayL c x).length ≤ 1 := by unfold stayL; split <;> simp
theorem entL_len (ca cb : List Sp) : ∀ (n : Nat) (a b : List En), a.length + b.length ≤ n → (entL ca cb a b).length ≤ a.length + b.length
  | n, [], [], _ => by rw [entL]; simp
  | 0, x :: a, _, h => by simp at h
  | 0, [], y :: b, h => by simp at h
  | n + 1, x :: a, [], h => by
    have h1 := stayL_len cb x
    have h2 := entL_len ca cb n a [] (by simp at h ⊢; omega)
    rw [entL, List.length_append]; simp at h2 ⊢; omega
  | n + 1, [], y :: b, h => by
    have h1 := stayL_len ca y
    have h2 := entL_len ca cb n [] b (by simp at h ⊢; omega)
    rw [entL, List.length_append]; simp at h2 ⊢; omega
  | n + 1, x :: a, y :: b, h => by
    have h1 := stayL_len cb x
    have h2 := stayL_len ca y
    have h3 := entL_len ca cb n a (y :: b) (by simp at h ⊢; omega)
    have h4 := entL_len ca cb n (x :: a) b (by simp at h ⊢; omega)
    have h5 := entL_len ca cb n a b (by simp at h ⊢; omega)
    rw [entL]
    split
    · rw [List.length_append]; simp at h3 ⊢; omega
    · split
      · rw [List.length_append]; simp at h4 ⊢; omega
      · simp at h5 ⊢; omega
theorem cmp_lt' (a b : Dt) : decide (a.cmp b < 0) = a.lt b := by
  rw [← Bool.not_not (a.lt b), ← cmp_lt, Bool.eq_iff_iff]
  simp
set_option maxHeartbeats 4000000 in
theorem centries_any (a b : List En) (ca cb : List Sp) (va vb vca vcb : Value) (w : World) (ha : SlP w w.heap.size 4 EnE va a) (hb : SlP w w.heap.size 4 EnE vb b) (hca : SlP w w.heap.size 3 SpE vca ca) (hcb : SlP w w.heap.size 3 SpE vcb cb) (hN : a.length + b.length ≤ 900000) (hN1 : ca.length ≤ 900000) (hN2 : cb.length ≤ 900000) :
    Calls Tryz.prog 173 #[va, vb, vca, vcb] w (RetO w 113 4 (fun _ => EnE) (entL ca cb a b)) := by
  have HCA : Hid (∀ w', Below w.heap.size w w' → SlP w' w'.heap.size 3 SpE vca ca) := fun w' hb => hca.imp hb hb.size fun _ _ _ h => h
  have HCB : Hid (∀ w', Below w.heap.size w w' → SlP w' w'.heap.size 3 SpE vcb cb) := fun w' hb => hcb.imp hb hb.size fun _ _ _ h => h
  obtain ⟨A1, m1, rfl, a1, a2, a3⟩ := ha
  obtain ⟨A2, m2, rfl, b1, b2, b3⟩ := hb
  obtain ⟨A3, m3, rfl, _, _, _⟩ := hca
  obtain ⟨A4, m4, rfl, _, _, _⟩ := hcb
  unfold Big at a2 b2
  go_enter Tryz.func173, Tryz.ntmps173
  go_wp2_with fail
  go_loopw [9, 10, 11] (fun v i k wr => ∃ (out : List En) (p q : Nat), OwnP wr w.heap.size 113 4 EnE v out ∧ i = .int .i64 p ∧ k = .int .i64 q ∧ p ≤ a.length ∧ q ≤ b.length ∧ Hid (out ++ entL ca cb (a.drop p) (b.drop q) = entL ca cb a b) ∧ out.length ≤ p + q ∧ Below w.heap.size w wr) (fun _ i k _ => a.length - (intOf i).toNat + (b.length - (intOf k).toNat))
  case atStart => exact ⟨[], 0, 0, OwnP.nil, rfl, rfl, Nat.zero_le _, Nat.zero_le _, by unfold Hid; simp, by simp, Below.refl _ _⟩
  case round =>
    obtain ⟨out, p, q, hown, rfl, rfl, hp, hq, hrel, hol, hBwr⟩ := hrel
    have hOwr := hid hown
    clear hown
    by_cases hlp : p < a.length
    · obtain ⟨x, hx⟩ : ∃ x, a[p]? = some x := ⟨_, List.getElem?_eq_getElem hlp⟩
      obtain ⟨ba, oa, rfl, hba, hca'⟩ := a3 (by rintro rfl; simp at hlp)
      obtain ⟨cs, ⟨rfl, hokx⟩, _, hu⟩ := hca' p _ hx
      have HXC : Hid (∀ w', Below w.heap.size w w' → w'.cell? ⟨ba, oa + p * 4, none⟩ = some (.int .i64 x.dc) ∧ w'.cell? ⟨ba, oa + p * 4 + 1, none⟩ = some (.int .i64 x.n) ∧ w'.cell? ⟨ba, oa + p * 4 + 2, none⟩ = some (.string x.s) ∧ w'.cell? ⟨ba, oa + p * 4 + 3, none⟩ = some (.int .i64 x.v)) := fun w' hb' =>
        ⟨(hb'.cell hba).trans (hu 0 _ rfl), (hb'.cell hba).trans (hu 1 _ rfl), (hb'.cell hba).trans (hu 2 _ rfl), (hb'.cell hba).trans (hu 3 _ rfl)⟩
      have HXE : Hid (EnE x [.int .i64 x.dc, .int .i64 x.n, .string x.s, .int .i64 x.v]) := ⟨rfl, hokx⟩
      have HPX := hid (drop_cons hx)
      have t1 : decide ((p : Int) < (a.length : Int)) = true := by simp; omega
      have t2 : ((p : Int) == (a.length : Int)) = false := by simp; omega
      clear hu hca' hx a3 hokx
      by_cases hlq : q < b.length
      · obtain ⟨y, hy⟩ : ∃ y, b[q]? = some y := ⟨_, List.getElem?_eq_getElem hlq⟩
        obtain ⟨bb, ob, rfl, hbb, hcb'⟩ := b3 (by rintro rfl; simp at hlq)
        obtain ⟨cs, ⟨rfl, hoky⟩, _, hu⟩ := hcb' q _ hy
        have HYC : Hid (∀ w', Below w.heap.size w w' → w'.cell? ⟨bb, ob + q * 4, none⟩ = some (.int .i64 y.dc) ∧ w'.cell? ⟨bb, ob + q * 4 + 1, none⟩ = some (.int .i64 y.n) ∧ w'.cell? ⟨bb, ob + q * 4 + 2, none⟩ = some (.string y.s) ∧ w'.cell? ⟨bb, ob + q * 4 + 3, none⟩ = some (.int .i64 y.v)) := fun w' hb' =>
          ⟨(hb'.cell hbb).trans (hu 0 _ rfl), (hb'.cell hbb).trans (hu 1 _ rfl), (hb'.cell hbb).trans (hu 2 _ rfl), (hb'.cell hbb).trans (hu 3 _ rfl)⟩
        have HYE : Hid (EnE y [.int .i64 y.dc, .int .i64 y.n, .string y.s, .int .i64 y.v]) := ⟨rfl, hoky⟩
        have HPY := hid (drop_cons hy)
        have t3 : decide ((q : Int) < (b.length : Int)) = true := by simp; omega
        have t4 : ((q : Int) == (b.length : Int)) = false := by simp; omega
        clear hu hcb' hy b3 hoky
        obtain ⟨x0, x1, _, _⟩ := HXC.out wr hBwr
        have fx0 := far_cell (B := wr.heap.size) x0 (by have := hBwr.size; omega)
        have fx1 := far_cell (B := wr.heap.size) x1 (by have := hBwr.size; omega)
        clear x0 x1
        obtain ⟨y0, y1, _, _⟩ := HYC.out wr hBwr
        have fy0 := far_cell (B := wr.heap.size) y0 (by have := hBwr.size; omega)
        have fy1 := far_cell (B := wr.heap.size) y1 (by have := hBwr.size; omega)
        clear y0 y1
        have hE : entL ca cb (x :: a.drop (p + 1)) (y :: b.drop (q + 1)) = if x.dot.lt y.dot then stayL cb x ++ entL ca cb (a.drop (p + 1)) (y :: b.drop (q + 1)) else if y.dot.lt x.dot then stayL ca y ++ entL ca cb (x :: a.drop (p + 1)) (b.drop (q + 1)) else grtE x y :: entL ca cb (a.drop (p + 1)) (b.drop (q + 1)) := by rw [entL]
        have c1 : decide (Dt.cmp ⟨x.dc, x.n⟩ ⟨y.dc, y.n⟩ < 0) = x.dot.lt y.dot := cmp_lt' _ _
        have c2 : decide (Dt.cmp ⟨y.dc, y.n⟩ ⟨x.dc, x.n⟩ < 0) = y.dot.lt x.dot := cmp_lt' _ _
        rcases hl1 : x.dot.lt y.dot
        · rw [hl1] at c1 hE
          rcases hl2 : y.dot.lt x.dot
          · rw [hl2] at c2 hE
            have HREL : Hid (out ++ (grtE x y :: entL ca cb (a.drop (p + 1)) (b.drop (q + 1))) = entL ca cb a b) := by
              have h1 := hrel.out; rw [HPX.out, HPY.out, hE] at h1; exact h1
            clear hE hl1 hl2 hrel
            go_upto_region 7 with (fail)
            refine wp_region_far wr.heap.size (by kernel_rfl) (by kernel_rfl) ?_
            repeat (go_big_quiet_step ((go_at_call 209; exact Calls.far_of (Nat.le_refl _) (dcmp_any ⟨_, _⟩ ⟨_, _⟩ _))))
            refine wpQuiet_nil ?_
            intro wp hbwp
            have hBwp : Below w.heap.size w wp := hBwr.trans (hbwp.mono (by have := hBwr.size; omega))
            have hOwp := hid (hOwr.out.grow hbwp)
            clear hbwp
            go_wp2_with fail
            clear fx0 fx1 fy0 fy1
            obtain ⟨x0, x1, _, _⟩ := HXC.out wp hBwp
            have fx0 := far_cell (B := wp.heap.size) x0 (by have := hBwp.size; omega)
            have fx1 := far_cell (B := wp.heap.size) x1 (by have := hBwp.size; omega)
            clear x0 x1
            obtain ⟨y0, y1, _, _⟩ := HYC.out wp hBwp
            have fy0 := far_cell (B := wp.heap.size) y0 (by have := hBwp.size; omega)
            have fy1 := far_cell (B := wp.heap.size) y1 (by have := hBwp.size; omega)
            clear y0 y1
            go_upto_region 11 with (fail)
            refine wp_region_far wp.heap.size (by kernel_rfl) (by kernel_rfl) ?_
            repeat (go_big_quiet_step ((go_at_call 209; exact Calls.far_of (Nat.le_refl _) (dcmp_any ⟨_, _⟩ ⟨_, _⟩ _))))
            refine wpQuiet_nil ?_
            intro wq hbwq
            have hBwq : Below w.heap.size w wq := hBwp.trans (hbwq.mono (by have := hBwp.size; omega))
            have hOwq := hid (hOwp.out.grow hbwq)
            clear hbwq
            go_wp2_with fail
            clear fx0 fx1 fy0 fy1
            obtain ⟨z, hz⟩ : ∃ z, z = grtE x y := ⟨_, rfl⟩
            have HZQ := hid hz
            have HZE : Hid (EnE z [.int .i64 z.dc, .int .i64 z.n, .string z.s, .int .i64 z.v]) := by
              rw [hz]; unfold grtE; split
              · exact HYE.out
              · exact HXE.out
            have HXY : Hid (∀ w', Below w.heap.size w w' → w'.cell? ⟨ba, oa + p * 4, none⟩ = some (.int .i64 x.dc) ∧ w'.cell? ⟨ba, oa + p * 4 + 1, none⟩ = some (.int .i64 x.n) ∧ w'.cell? ⟨ba, oa + p * 4 + 2, none⟩ = some (.string x.s) ∧ w'.cell? ⟨ba, oa + p * 4 + 3, none⟩ = some (.int .i64 x.v) ∧ w'.cell? ⟨bb, ob + q * 4, none⟩ = some (.int .i64 y.dc) ∧ w'.cell? ⟨bb, ob + q * 4 + 1, none⟩ = some (.int .i64 y.n) ∧ w'.cell? ⟨bb, ob + q * 4 + 2, none⟩ = some (.string y.s) ∧ w'.cell? ⟨bb, ob + q * 4 + 3, none⟩ = some (.int .i64 y.v)) := fun w' hb' => by
              obtain ⟨x0, x1, x2, x3⟩ := HXC.out w' hb'
              obtain ⟨y0, y1, y2, y3⟩ := HYC.out w' hb'
              exact ⟨x0, x1, x2, x3, y0, y1, y2, y3⟩
            have HL : Hid (out.length + [z].length ≤ Few) := by unfold Hid Few; simp; omega
            have HRX : Hid (out ++ [z] ++ entL ca cb (a.drop (p + 1)) (b.drop (q + 1)) = entL ca cb a b) := by
              unfold Hid; rw [← HREL.out, hz, List.append_assoc]; rfl
            have hsq := hBwq.size
            obtain ⟨x0, x1, x2, x3⟩ := HXC.out wq hBwq
            obtain ⟨y0, y1, y2, y3⟩ := HYC.out wq hBwq
            clear hz HREL
            go_upto_region 4 with (fail)
            go_region_held3 (fun w' => w'.cell? ⟨ba, oa + p * 4, none⟩ = some (.int .i64 x.dc) ∧ w'.cell? ⟨ba, oa + p * 4 + 1, none⟩ = some (.int .i64 x.n) ∧ w'.cell? ⟨ba, oa + p * 4 + 2, none⟩ = some (.string x.s) ∧ w'.cell? ⟨ba, oa + p * 4 + 3, none⟩ = some (.int .i64 x.v) ∧ w'.cell? ⟨bb, ob + q * 4, none⟩ = some (.int .i64 y.dc) ∧ w'.cell? ⟨bb, ob + q * 4 + 1, none⟩ = some (.int .i64 y.n) ∧ w'.cell? ⟨bb, ob + q * 4 + 2, none⟩ = some (.string y.s) ∧ w'.cell? ⟨bb, ob + q * 4 + 3, none⟩ = some (.int .i64 y.v))
              (first | go_keep | exact HXY.out _ hB2 | exact HXY.out _ hB1)
              (first | (go_at_call 210; go_loud ((refine (greater_any x y _).mono ?_); rw [← HZQ.out]; rintro e w1 ⟨rfl, hb⟩; have hb1 : Below wq.heap.size wq w1 := (Below.trans (by go_grown) (hb.mono (by simp))); have hB1 : Below w.heap.size w w1 := hBwq.trans (hb1.mono hsq); have hown1 := hOwq.out.grow hb1))
                     | (go_loud (refine step_few rfl (.tmp 22) (.tmp 32) _ rfl eiEntry (by decide) (by decide) (fun _ _ h => h.one) rfl (hown1.alloc _) rfl (SlP.one (x := z) HZE.out rfl _ rfl) HL.out (by rw [World.size_alloc]; have := hB1.size; omega) ?_); intro v2 w2 hown2 hb2 hg2; have hB2 : Below w.heap.size w w2 := (hB1.alloc hB1.size _).trans hb2))
            all_goals
              go_wp2_with fail
              go_roundw
              case rel => exact ⟨out ++ [z], p + 1, q + 1, hown2, by go_num, by go_num, by omega, by omega, HRX.out, by simp; omega, hB2⟩
              case measure => simp [intOf]; omega
          · rw [hl2] at c2 hE
            have HREL : Hid (out ++ (stayL ca y ++ entL ca cb (a.drop p) (b.drop (q + 1))) = entL ca cb a b) := by
              have h1 := hrel.out; rw [HPX.out, HPY.out, hE] at h1; rw [HPX.out]; exact h1
            clear hE hl1 hl2 hrel
            go_upto_region 7 with (fail)
            refine wp_region_far wr.heap.size (by kernel_rfl) (by kernel_rfl) ?_
            repeat (go_big_quiet_step ((go_at_call 209; exact Calls.far_of (Nat.le_refl _) (dcmp_any ⟨_, _⟩ ⟨_, _⟩ _))))
            refine wpQuiet_nil ?_
            intro wp hbwp
            have hBwp : Below w.heap.size w wp := hBwr.trans (hbwp.mono (by have := hBwr.size; omega))
            have hOwp := hid (hOwr.out.grow hbwp)
            clear hbwp
            go_wp2_with fail
            clear fx0 fx1 fy0 fy1
            obtain ⟨x0, x1, _, _⟩ := HXC.out wp hBwp
            have fx0 := far_cell (B := wp.heap.size) x0 (by have := hBwp.size; omega)
            have fx1 := far_cell (B := wp.heap.size) x1 (by have := hBwp.size; omega)
            clear x0 x1
            obtain ⟨y0, y1, _, _⟩ := HYC.out wp hBwp
            have fy0 := far_cell (B := wp.heap.size) y0 (by have := hBwp.size; omega)
            have fy1 := far_cell (B := wp.heap.size) y1 (by have := hBwp.size; omega)
            clear y0 y1
            go_upto_region 11 with (fail)
            refine wp_region_far wp.heap.size (by kernel_rfl) (by kernel_rfl) ?_
            repeat (go_big_quiet_step ((go_at_call 209; exact Calls.far_of (Nat.le_refl _) (dcmp_any ⟨_, _⟩ ⟨_, _⟩ _))))
            refine wpQuiet_nil ?_
            intro wq hbwq
            have hBwq : Below w.heap.size w wq := hBwp.trans (hbwq.mono (by have := hBwp.size; omega))
            have hOwq := hid (hOwp.out.grow hbwq)
            clear hbwq
            clear fx0 fx1 fy0 fy1
            obtain ⟨y0, y1, y2, y3⟩ := HYC.out wq hBwq
            go_wp2_with fail
            refine (chas_any ca ⟨y.dc, y.n⟩ _ _ (HCA.out _ hBwq) hN1).mono ?_
            rintro e w1 ⟨rfl, hb1⟩
            have hBw1 : Below w.heap.size w w1 := hBwq.trans (hb1.mono (by have := hBwq.size; omega))
            have hown1 := hOwq.out.grow hb1
            clear y0 y1 y2 y3 hb1
            obtain ⟨y0, y1, y2, y3⟩ := HYC.out w1 hBw1
            cases hh : cHas ca ⟨y.dc, y.n⟩
            · have HRX : Hid (out ++ [y] ++ entL ca cb (a.drop p) (b.drop (q + 1)) = entL ca cb a b) := by
                have h1 := HREL.out; rw [show stayL ca y = [y] by (unfold stayL; rw [show cHas ca y.dot = false from hh]; rfl)] at h1
                unfold Hid; rw [← h1, List.append_assoc]
              have HL : Hid (out.length + [y].length ≤ Few) := by unfold Hid Few; simp; omega
              clear hh
              go_wp2_with (at_builtin; go_loud ((with_reducible refine wpList_few rfl (.tmp 107) (.tmp 112) _ rfl eiEntry (by decide) (by decide) (fun _ _ h => h.one) rfl (hown1.alloc _) rfl (SlP.one (x := y) HYE.out rfl _ rfl) HL.out (by rw [World.size_alloc]; have := hBw1.size; omega) ?_); intro v1 w2 hown2 hb2 _))
              go_roundw
              case rel => exact ⟨out ++ [y], p, q + 1, hown2, rfl, by go_num, hp, by omega, HRX.out, by simp; omega, (hBw1.alloc hBw1.size _).trans hb2⟩
              case measure => simp [intOf]; omega
            · have HRX : Hid (out ++ entL ca cb (a.drop p) (b.drop (q + 1)) = entL ca cb a b) := by
                have h1 := HREL.out; rw [show stayL ca y = [] by (unfold stayL; rw [show cHas ca y.dot = true from hh]; rfl), List.nil_append] at h1
                exact h1
              clear hh
              go_wp2_with fail
              go_roundw
              case rel => exact ⟨out, p, q + 1, hown1, rfl, by go_num, hp, by omega, HRX.out, by omega, hBw1⟩
              case measure => simp [intOf]; omega
        · rw [hl1] at c1 hE
          have HREL : Hid (out ++ (stayL cb x ++ entL ca cb (a.drop (p + 1)) (b.drop q)) = entL ca cb a b) := by
            have h1 := hrel.out; rw [HPX.out, HPY.out, hE] at h1; rw [HPY.out]; exact h1
          clear hE hl1 hrel c2
          go_upto_region 7 with (fail)
          refine wp_region_far wr.heap.size (by kernel_rfl) (by kernel_rfl) ?_
          repeat (go_big_quiet_step ((go_at_call 209; exact Calls.far_of (Nat.le_refl _) (dcmp_any ⟨_, _⟩ ⟨_, _⟩ _))))
          refine wpQuiet_nil ?_
          intro wp hbwp
          have hBwp : Below w.heap.size w wp := hBwr.trans (hbwp.mono (by have := hBwr.size; omega))
          have hOwp := hid (hOwr.out.grow hbwp)
          clear hbwp
          clear fx0 fx1 fy0 fy1
          obtain ⟨x0, x1, x2, x3⟩ := HXC.out wp hBwp
          go_wp2_with fail
          refine (chas_any cb ⟨x.dc, x.n⟩ _ _ (HCB.out _ hBwp) hN2).mono ?_
          rintro e w1 ⟨rfl, hb1⟩
          have hBw1 : Below w.heap.size w w1 := hBwp.trans (hb1.mono (by have := hBwp.size; omega))
          have hown1 := hOwp.out.grow hb1
          clear x0 x1 x2 x3 hb1
          obtain ⟨x0, x1, x2, x3⟩ := HXC.out w1 hBw1
          cases hh : cHas cb ⟨x.dc, x.n⟩
          · have HRX : Hid (out ++ [x] ++ entL ca cb (a.drop (p + 1)) (b.drop q) = entL ca cb a b) := by
              have h1 := HREL.out; rw [show stayL cb x = [x] by (unfold stayL; rw [show cHas cb x.dot = false from hh]; rfl)] at h1
              unfold Hid; rw [← h1, List.append_assoc]
            have HL : Hid (out.length + [x].length ≤ Few) := by unfold Hid Few; simp; omega
            clear hh
            go_wp2_with (at_builtin; go_loud ((with_reducible refine wpList_few rfl (.tmp 71) (.tmp 76) _ rfl eiEntry (by decide) (by decide) (fun _ _ h => h.one) rfl (hown1.alloc _) rfl (SlP.one (x := x) HXE.out rfl _ rfl) HL.out (by rw [World.size_alloc]; have := hBw1.size; omega) ?_); intro v1 w2 hown2 hb2 _))
            go_roundw
            case rel => exact ⟨out ++ [x], p + 1, q, hown2, by go_num, rfl, by omega, hq, HRX.out, by simp; omega, (hBw1.alloc hBw1.size _).trans hb2⟩
            case measure => simp [intOf]; omega
          · have HRX : Hid (out ++ entL ca cb (a.drop (p + 1)) (b.drop q) = entL ca cb a b) := by
              have h1 := HREL.out; rw [show stayL cb x = [] by (unfold stayL; rw [show cHas cb x.dot = true from hh]; rfl), List.nil_append] at h1
              exact h1
            clear hh
            go_wp2_with fail
            go_roundw
            case rel => exact ⟨out, p + 1, q, hown1, by go_num, rfl, by omega, hq, HRX.out, by omega, hBw1⟩
            case measure => simp [intOf]; omega
      · have hqe : q = b.length := by omega
        have HREL : Hid (out ++ (stayL cb x ++ entL ca cb (a.drop (p + 1)) (b.drop q)) = entL ca cb a b) := by
          have h1 := hrel.out; rw [HPX.out, hqe, List.drop_of_length_le (Nat.le_refl _), entL] at h1; rw [hqe, List.drop_of_length_le (Nat.le_refl _)]; exact h1
        have t3 : decide ((q : Int) < (b.length : Int)) = false := by simp; omega
        have t4 : ((q : Int) == (b.length : Int)) = true := by simp; omega
        clear hrel hqe b3
        go_upto_region 7 with (fail)
        refine wp_region_far wr.heap.size (by kernel_rfl) (by kernel_rfl) ?_
        repeat (go_big_quiet_step ((go_at_call 209; exact Calls.far_of (Nat.le_refl _) (dcmp_any ⟨_, _⟩ ⟨_, _⟩ _))))
        refine wpQuiet_nil ?_
        intro wp hbwp
        have hBwp : Below w.heap.size w wp := hBwr.trans (hbwp.mono (by have := hBwr.size; omega))
        have hOwp := hid (hOwr.out.grow hbwp)
        clear hbwp
        obtain ⟨x0, x1, x2, x3⟩ := HXC.out wp hBwp
        go_wp2_with fail
        refine (chas_any cb ⟨x.dc, x.n⟩ _ _ (HCB.out _ hBwp) hN2).mono ?_
        rintro e w1 ⟨rfl, hb1⟩
        have hBw1 : Below w.heap.size w w1 := hBwp.trans (hb1.mono (by have := hBwp.size; omega))
        have hown1 := hOwp.out.grow hb1
        clear x0 x1 x2 x3 hb1
        obtain ⟨x0, x1, x2, x3⟩ := HXC.out w1 hBw1
        cases hh : cHas cb ⟨x.dc, x.n⟩
        · have HRX : Hid (out ++ [x] ++ entL ca cb (a.drop (p + 1)) (b.drop q) = entL ca cb a b) := by
            have h1 := HREL.out; rw [show stayL cb x = [x] by (unfold stayL; rw [show cHas cb x.dot = false from hh]; rfl)] at h1
            unfold Hid; rw [← h1, List.append_assoc]
          have HL : Hid (out.length + [x].length ≤ Few) := by unfold Hid Few; simp; omega
          clear hh
          go_wp2_with (at_builtin; go_loud ((with_reducible refine wpList_few rfl (.tmp 71) (.tmp 76) _ rfl eiEntry (by decide) (by decide) (fun _ _ h => h.one) rfl (hown1.alloc _) rfl (SlP.one (x := x) HXE.out rfl _ rfl) HL.out (by rw [World.size_alloc]; have := hBw1.size; omega) ?_); intro v1 w2 hown2 hb2 _))
          go_roundw
          case rel => exact ⟨out ++ [x], p + 1, q, hown2, by go_num, rfl, by omega, hq, HRX.out, by simp; omega, (hBw1.alloc hBw1.size _).trans hb2⟩
          case measure => simp [intOf]; omega
        · have HRX : Hid (out ++ entL ca cb (a.drop (p + 1)) (b.drop q) = entL ca cb a b) := by
            have h1 := HREL.out; rw [show stayL cb x = [] by (unfold stayL; rw [show cHas cb x.dot = true from hh]; rfl), List.nil_append] at h1
            exact h1
          clear hh
          go_wp2_with fail
          go_roundw
          case rel => exact ⟨out, p + 1, q, hown1, by go_num, rfl, by omega, hq, HRX.out, by omega, hBw1⟩
          case measure => simp [intOf]; omega
    · have hpe : p = a.length := by omega
      have t1 : decide ((p : Int) < (a.length : Int)) = false := by simp; omega
      have t2 : ((p : Int) == (a.length : Int)) = true := by simp; omega
      by_cases hlq : q < b.length
      · obtain ⟨y, hy⟩ : ∃ y, b[q]? = some y := ⟨_, List.getElem?_eq_getElem hlq⟩
        obtain ⟨bb, ob, rfl, hbb, hcb'⟩ := b3 (by rintro rfl; simp at hlq)
        obtain ⟨cs, ⟨rfl, hoky⟩, _, hu⟩ := hcb' q _ hy
        have HYC : Hid (∀ w', Below w.heap.size w w' → w'.cell? ⟨bb, ob + q * 4, none⟩ = some (.int .i64 y.dc) ∧ w'.cell? ⟨bb, ob + q * 4 + 1, none⟩ = some (.int .i64 y.n) ∧ w'.cell? ⟨bb, ob + q * 4 + 2, none⟩ = some (.string y.s) ∧ w'.cell? ⟨bb, ob + q * 4 + 3, none⟩ = some (.int .i64 y.v)) := fun w' hb' =>
          ⟨(hb'.cell hbb).trans (hu 0 _ rfl), (hb'.cell hbb).trans (hu 1 _ rfl), (hb'.cell hbb).trans (hu 2 _ rfl), (hb'.cell hbb).trans (hu 3 _ rfl)⟩
        have HYE : Hid (EnE y [.int .i64 y.dc, .int .i64 y.n, .string y.s, .int .i64 y.v]) := ⟨rfl, hoky⟩
        have HPY := hid (drop_cons hy)
        have t3 : decide ((q : Int) < (b.length : Int)) = true := by simp; omega
        have t4 : ((q : Int) == (b.length : Int)) = false := by simp; omega
        have HREL : Hid (out ++ (stayL ca y ++ entL ca cb (a.drop p) (b.drop (q + 1))) = entL ca cb a b) := by
          have h1 := hrel.out; rw [HPY.out, hpe, List.drop_of_length_le (Nat.le_refl _), entL] at h1; rw [hpe, List.drop_of_length_le (Nat.le_refl _)]; exact h1
        clear hu hcb' hy b3 a3 hoky hrel hpe
        go_upto_region 7 with (fail)
        refine wp_region_far wr.heap.size (by kernel_rfl) (by kernel_rfl) ?_
        repeat (go_big_quiet_step ((go_at_call 209; exact Calls.far_of (Nat.le_refl _) (dcmp_any ⟨_, _⟩ ⟨_, _⟩ _))))
        refine wpQuiet_nil ?_
        intro wp hbwp
        have hBwp : Below w.heap.size w wp := hBwr.trans (hbwp.mono (by have := hBwr.size; omega))
        have hOwp := hid (hOwr.out.grow hbwp)
        clear hbwp
        go_wp2_with fail
        go_upto_region 11 with (fail)
        refine wp_region_far wp.heap.size (by kernel_rfl) (by kernel_rfl) ?_
        repeat (go_big_quiet_step ((go_at_call 209; exact Calls.far_of (Nat.le_refl _) (dcmp_any ⟨_, _⟩ ⟨_, _⟩ _))))
        refine wpQuiet_nil ?_
        intro wq hbwq
        have hBwq : Below w.heap.size w wq := hBwp.trans (hbwq.mono (by have := hBwp.size; omega))
        have hOwq := hid (hOwp.out.grow hbwq)
        clear hbwq
        obtain ⟨y0, y1, y2, y3⟩ := HYC.out wq hBwq
        go_wp2_with fail
        refine (chas_any ca ⟨y.dc, y.n⟩ _ _ (HCA.out _ hBwq) hN1).mono ?_
        rintro e w1 ⟨rfl, hb1⟩
        have hBw1 : Below w.heap.size w w1 := hBwq.trans (hb1.mono (by have := hBwq.size; omega))
        have hown1 := hOwq.out.grow hb1
        clear y0 y1 y2 y3 hb1
        obtain ⟨y0, y1, y2, y3⟩ := HYC.out w1 hBw1
        cases hh : cHas ca ⟨y.dc, y.n⟩
        · have HRX : Hid (out ++ [y] ++ entL ca cb (a.drop p) (b.drop (q + 1)) = entL ca cb a b) := by
            have h1 := HREL.out; rw [show stayL ca y = [y] by (unfold stayL; rw [show cHas ca y.dot = false from hh]; rfl)] at h1
            unfold Hid; rw [← h1, List.append_assoc]
          have HL : Hid (out.length + [y].length ≤ Few) := by unfold Hid Few; simp; omega
          clear hh
          go_wp2_with (at_builtin; go_loud ((with_reducible refine wpList_few rfl (.tmp 107) (.tmp 112) _ rfl eiEntry (by decide) (by decide) (fun _ _ h => h.one) rfl (hown1.alloc _) rfl (SlP.one (x := y) HYE.out rfl _ rfl) HL.out (by rw [World.size_alloc]; have := hBw1.size; omega) ?_); intro v1 w2 hown2 hb2 _))
          go_roundw
          case rel => exact ⟨out ++ [y], p, q + 1, hown2, rfl, by go_num, hp, by omega, HRX.out, by simp; omega, (hBw1.alloc hBw1.size _).trans hb2⟩
          case measure => simp [intOf]; omega
        · have HRX : Hid (out ++ entL ca cb (a.drop p) (b.drop (q + 1)) = entL ca cb a b) := by
            have h1 := HREL.out; rw [show stayL ca y = [] by (unfold stayL; rw [show cHas ca y.dot = true from hh]; rfl), List.nil_append] at h1
            exact h1
          clear hh
          go_wp2_with fail
          go_roundw
          case rel => exact ⟨out, p, q + 1, hown1, rfl, by go_num, hp, by omega, HRX.out, by omega, hBw1⟩
          case measure => simp [intOf]; omega
      · have hqe : q = b.length := by omega
        have t3 : decide ((q : Int) < (b.length : Int)) = false := by simp; omega
        have HR : Hid (out = entL ca cb a b) := by
          have h1 := hrel.out; rw [hpe, hqe, List.drop_of_length_le (Nat.le_refl _), List.drop_of_length_le (Nat.le_refl _), entL, List.append_nil] at h1; exact h1
        clear hrel hpe hqe a3 b3
        go_wp2_with fail
        go_ret
        exact ⟨_, rfl, by rw [← HR.out]; exact hOwr.out, hBwr⟩
end Go.Proofs.YtlapdmgjfdelnaaGreat

namespace Go.Proofs.YtlapdmgjfdelnaaGreat
open Go.RowKit
set_option maxRecDepth 100000

theorem kidClo_any (x s : ByteArray) (A A' : Option Addr) (n c n' c' : Nat) (w : World) :
    Calls Tryz.prog 213 #[.agg #[.string x, .slice A n c, .slice A' n' c'], .string s] w fun e w' => e = .returned (.int .i64 (cmpS x s)) ∧ Below w.heap.size w w' := by
  go_enter Tryz.func213, Tryz.ntmps213
  go_wp2_with fail
  refine (cmpsS_any x s _).mono ?_
  rintro e w1 ⟨rfl, rfl⟩
  go_wp2_with fail
  go_ret
  exact ⟨rfl, by go_grown⟩
theorem kidClo_enters : ∀ args W, (callFunc 213 args).run Tryz.prog W = .ok (.enter 213 args) W := enters_of Tryz.func213 (by kernel_rfl) rfl

set_option maxHeartbeats 4000000 in
theorem bsf_any (ks : List Kd) (s : ByteArray) (v : Value) (w : World) (h : SlP w w.heap.size 3 (KdE w w.heap.size) v ks) (hS : ks.Pairwise fun a b => ltS a.1 b.1 = true) :
    Calls Tryz.prog 212 #[v, .string s, .func (.func 213) #[] #[]] w fun e w' =>
      ((∃ (i : Nat) (t : Tr), e = .returned (.tuple #[.int .i64 i, .bool true]) ∧ ks[i]? = some (s, t)) ∨ (∃ i : Int, e = .returned (.tuple #[.int .i64 i, .bool false]) ∧ ∀ t, (s, t) ∉ ks)) ∧ Below w.heap.size w w' := by
  obtain ⟨A, n, rfl, b1, b2, b3⟩ := h
  unfold Big at b2
  go_enter Tryz.func212, Tryz.ntmps212
  go_wp2_with fail
  go_loopw [9, 10] (fun a b wr => ∃ lo hi : Nat, lo ≤ hi ∧ hi ≤ ks.length ∧ a = .int .i64 lo ∧ b = .int .i64 hi ∧ Hid (∀ (j : Nat) y, j < lo → ks[j]? = some y → ltS y.1 s = true) ∧ Hid (∀ (j : Nat) y, hi ≤ j → ks[j]? = some y → ltS y.1 s = false) ∧ Below w.heap.size w wr) (fun a b _ => (intOf b).toNat - (intOf a).toNat)
  case atStart => exact ⟨0, ks.length, Nat.zero_le _, Nat.le_refl _, rfl, rfl, fun j y hj => absurd hj (Nat.not_lt_zero _), fun j y hj hy => by have := (List.getElem?_eq_some_iff.1 hy).1; omega, Below.refl _ _⟩
  case round =>
    obtain ⟨lo, hi, hlh, hhn, rfl, rfl, HLO, HHI, hb⟩ := hrel
    have hsz := hb.size
    by_cases hlt : lo < hi
    · obtain ⟨m, hm, hm1, hm2⟩ : ∃ m : Nat, ((lo : Int) + (hi : Int)) / 2 = (m : Int) ∧ lo ≤ m ∧ m < hi := ⟨(lo + hi) / 2, by omega, by omega, by omega⟩
      obtain ⟨x, hx⟩ : ∃ x, ks[m]? = some x := ⟨_, List.getElem?_eq_getElem (by omega)⟩
      obtain ⟨b, off, rfl, hbB, hc⟩ := b3 (by rintro rfl; simp at hhn; omega)
      obtain ⟨cs, ⟨ve, vk, rfl, hok, hrd⟩, _, hu⟩ := hc m _ hx
      obtain ⟨A3, n3, A4, n4, rfl, rfl⟩ := rd_shape hrd
      have e0 : wr.cell? ⟨b, off + m * 3, none⟩ = some (.string x.1) := (hb.cell hbB).trans (hu 0 _ rfl)
      have e1 : wr.cell? ⟨b, off + m * 3 + 1, none⟩ = some (.slice A3 x.2.es.length n3) := (hb.cell hbB).trans (hu 1 _ rfl)
      have e2 : wr.cell? ⟨b, off + m * 3 + 2, none⟩ = some (.slice A4 x.2.ks.length n4) := (hb.cell hbB).trans (hu 2 _ rfl)
      have hcall := kidClo_any x.1 s A3 A4 x.2.es.length n3 x.2.ks.length n4 wr
      have eg := kidClo_enters
      have HX := hid hx
      have HLT : Hid (∀ (j : Nat) y, j < m → ks[j]? = some y → ltS y.1 x.1 = true) := fun j y hj hy => by
        obtain ⟨h1, h2⟩ := List.getElem?_eq_some_iff.1 hy
        obtain ⟨h3, h4⟩ := List.getElem?_eq_some_iff.1 hx
        rw [List.pairwise_iff_getElem] at hS
        have := hS j m h1 h3 hj
        rw [h2, h4] at this; exact this
      have HGT : Hid (∀ (j : Nat) y, m < j → ks[j]? = some y → ltS x.1 y.1 = true) := fun j y hj hy => by
        obtain ⟨h1, h2⟩ := List.getElem?_eq_some_iff.1 hy
        obtain ⟨h3, h4⟩ := List.getElem?_eq_some_iff.1 hx
        rw [List.pairwise_iff_getElem] at hS
        have := hS m j h3 h1 hj
        rw [h2, h4] at this; exact this
      clear hu hc b3 hx hrd hS
      rcases hq : ltS x.1 s
      · have HQ := hid hq
        have hcv : decide (cmpS x.1 s < 0) = false := by
          unfold cmpS; rw [hq]; simp only [Bool.false_eq_true, if_false]; split <;> decide
        clear hq
        have HN : Hid (∀ (j : Nat) y, m ≤ j → ks[j]? = some y → ltS y.1 s = false) := fun j y hj hy => by
          by_cases hjm : j = m
          · subst hjm; have h2 := HX.out; rw [hy] at h2; cases h2; exact HQ.out
          · cases hys : ltS y.1 s
            · rfl
            · have h3 := ltS_trans (HGT.out j y (by omega) hy) hys
              rw [HQ.out] at h3; cases h3
        go_wp2_with (go_at_fn 213; refine hcall.mono ?_; rintro e w1 ⟨rfl, hb1⟩)
        go_roundw
        case rel => exact ⟨lo, m, hm1, by omega, rfl, by go_num, HLO.out, HN.out, hb.trans (hb1.mono hsz)⟩
        case measure => simp [intOf]; omega
      · have HQ := hid hq
        have hcv : decide (cmpS x.1 s < 0) = true := by unfold cmpS; rw [hq, if_pos rfl]; decide
        clear hq
        have HN : Hid (∀ (j : Nat) y, j < m + 1 → ks[j]? = some y → ltS y.1 s = true) := fun j y hj hy => by
          by_cases hjm : j = m
          · subst hjm; have h2 := HX.out; rw [hy] at h2; cases h2; exact HQ.out
          · exact ltS_trans (HLT.out j y (by omega) hy) HQ.out
        go_wp2_with (go_at_fn 213; refine hcall.mono ?_; rintro e w1 ⟨rfl, hb1⟩)
        go_roundw
        case rel => exact ⟨m + 1, hi, by omega, hhn, by go_num, rfl, HN.out, HHI.out, hb.trans (hb1.mono hsz)⟩
        case measure => simp [intOf]; omega
    · obtain rfl : lo = hi := by omega
      by_cases hn : lo < ks.length
      · obtain ⟨x, hx⟩ : ∃ x, ks[lo]? = some x := ⟨_, List.getElem?_eq_getElem hn⟩
        obtain ⟨b, off, rfl, hbB, hc⟩ := b3 (by rintro rfl; simp at hn)
        obtain ⟨cs, ⟨ve, vk, rfl, hok, hrd⟩, _, hu⟩ := hc lo _ hx
        obtain ⟨A3, n3, A4, n4, rfl, rfl⟩ := rd_shape hrd
        have e0 : wr.cell? ⟨b, off + lo * 3, none⟩ = some (.string x.1) := (hb.cell hbB).trans (hu 0 _ rfl)
        have e1 : wr.cell? ⟨b, off + lo * 3 + 1, none⟩ = some (.slice A3 x.2.es.length n3) := (hb.cell hbB).trans (hu 1 _ rfl)
        have e2 : wr.cell? ⟨b, off + lo * 3 + 2, none⟩ = some (.slice A4 x.2.ks.length n4) := (hb.cell hbB).trans (hu 2 _ rfl)
        have hcall := kidClo_any x.1 s A3 A4 x.2.es.length n3 x.2.ks.length n4 wr
        have eg := kidClo_enters
        have h0 := HHI.out lo x (Nat.le_refl _) hx
        have HX := hid hx
        have HGT : Hid (∀ (j : Nat) y, lo < j → ks[j]? = some y → ltS x.1 y.1 = true) := fun j y hj hy => by
          obtain ⟨h1, h2⟩ := List.getElem?_eq_some_iff.1 hy
          obtain ⟨h3, h4⟩ := List.getElem?_eq_some_iff.1 hx
          rw [List.pairwise_iff_getElem] at hS
          have := hS lo j h3 h1 hj
          rw [h2, h4] at this; exact this
        have H0 := hid h0
        clear hu hc b3 hx hrd hS
        rcases hq : ltS s x.1
        · have HE : Hid (x.1 = s) := ltS_total h0 hq
          have hcv : (cmpS x.1 s == 0) = true := by unfold cmpS; rw [h0, hq]; rfl
          clear h0 hq
          go_wp2_with (go_at_fn 213; refine hcall.mono ?_; rintro e w1 ⟨rfl, hb1⟩)
          go_ret2
          exact ⟨.inl ⟨lo, x.2, rfl, by rw [HX.out, ← HE.out]⟩, hb.trans (hb1.mono hsz)⟩
        · have HQ := hid hq
          have hcv : (cmpS x.1 s == 0) = false := by unfold cmpS; rw [h0, hq]; rfl
          clear h0 hq
          go_wp2_with (go_at_fn 213; refine hcall.mono ?_; rintro e w1 ⟨rfl, hb1⟩)
          go_ret2
          refine ⟨.inr ⟨lo, rfl, fun t ht => ?_⟩, hb.trans (hb1.mono hsz)⟩
          obtain ⟨j, hj⟩ := List.getElem?_of_mem ht
          rcases Nat.lt_trichotomy j lo with h1 | h1 | h1
          · have := HLO.out j _ h1 hj; rw [ltS_irrefl] at this; cases this
          · subst h1; have h2 := HX.out; rw [hj] at h2; cases h2; have := HQ.out; rw [ltS_irrefl] at this; cases this
          · have h2 := HGT.out j _ h1 hj; have h3 := H0.out; rw [h2] at h3; cases h3
      · obtain rfl : lo = ks.length := by omega
        clear b3 hS
        go_wp2_with fail
        go_ret2
        refine ⟨.inr ⟨ks.length, rfl, fun t ht => ?_⟩, hb⟩
        obtain ⟨j, hj⟩ := List.getElem?_of_mem ht
        have := HLO.out j _ (List.getElem?_eq_some_iff.1 hj).1 hj; rw [ltS_irrefl] at this; cases this
end Go.Proofs.YtlapdmgjfdelnaaGreat

namespace Go.Proofs.YtlapdmgjfdelnaaGreat
open Go.RowKit
set_option maxRecDepth 100000

/-- The call hands back a tree that lay in memory before. -/
def RetS (w : World) (t : Tr) (e : Ending) (w' : World) : Prop :=
  ∃ ve vk, e = .returned (.agg #[ve, vk]) ∧ t.rd w w.heap.size ve vk ∧ Below w.heap.size w w'
set_option maxHeartbeats 4000000 in
theorem ckid_any (t : Tr) (s : ByteArray) (ve vk : Value) (w : World) (h : t.rd w w.heap.size ve vk) (ho : t.Ord) :
    Calls Tryz.prog 175 #[.agg #[ve, vk], .string s] w (RetS w (kidT t s)) := by
  have HD := hid h
  have hS : t.ks.Pairwise fun a b => ltS a.1 b.1 = true := by obtain ⟨es, ks⟩ := t; exact (ord_iff.1 ho).2.1
  have HO := hid ho
  obtain ⟨A3, n3, A4, n4, rfl, rfl⟩ := rd_shape h
  have hb0 : Below w.heap.size w ((w.alloc (.cells #[.slice A3 t.es.length n3, .slice A4 t.ks.length n4] 25)).alloc (.cells #[.slice none 0 0, .slice none 0 0] 25)) := ((Below.refl _ w).alloc (Nat.le_refl _) _).alloc (by simp) _
  have hkl : t.ks.length ≤ 140737488355328 := by
    have h1 := HD.out; obtain ⟨es, ks⟩ := t; obtain ⟨_, _, _, _, h2, _⟩ := (rd_iff.1 h1).2; exact h2
  clear h
  go_enter Tryz.func175, Tryz.ntmps175
  go_wp2_with fail
  refine (bsf_any t.ks s _ _ (kids_slp (rd_below hb0 hb0.size t _ _ HD.out)) hS).mono ?_
  rintro e w1 ⟨he, hb1⟩
  have hs1 := hb1.size
  simp only [World.size_alloc] at hs1
  have hB1 : Below w.heap.size w w1 := hb0.trans (hb1.mono (by simp; omega))
  have g2 := (hb1.block w.heap.size (by simp; omega)).trans ((heap_old (by simp)).trans (heap_new (o := .cells #[.slice A3 t.es.length n3, .slice A4 t.ks.length n4] 25) rfl))
  have g4 := (hb1.block (w.heap.size + 1) (by simp)).trans (heap_new (w := w.alloc (.cells #[.slice A3 t.es.length n3, .slice A4 t.ks.length n4] 25)) (by simp))
  have HG4 := hid g4
  have c0 := cell_cells (i := 0) g2
  have c1 := cell_cells (i := 1) g2
  have k0 := cell_cells (i := 0) g4
  have k1 := cell_cells (i := 1) g4
  have z0 := cells_frz (i := 0) g4
  have z1 := cells_frz (i := 1) g4
  simp only [List.getElem?_toArray, List.getElem?_cons_zero, List.getElem?_cons_succ] at c0 c1 k0 k1
  clear g2 g4 hS hb1
  rcases he with ⟨i, u, rfl, hi⟩ | ⟨i, rfl, hn⟩
  · have hil : i < t.ks.length := (List.getElem?_eq_some_iff.1 hi).1
    have hKT : kidT t s = u := kidT_mem HO.out (List.mem_of_getElem? hi)
    obtain ⟨b', off', rfl, hbB', vAe, vne, vAk, vnk, HRV, q1, q2⟩ : ∃ b' off', A4 = some ⟨b', off', none⟩ ∧ b' < w.heap.size ∧ ∃ vAe vne vAk vnk, Hid (u.rd w w.heap.size (.slice vAe u.es.length vne) (.slice vAk u.ks.length vnk)) ∧ w1.cell? ⟨b', off' + i * 3 + 1, none⟩ = some (.slice vAe u.es.length vne) ∧ w1.cell? ⟨b', off' + i * 3 + 2, none⟩ = some (.slice vAk u.ks.length vnk) := by
      have h1 := HD.out
      obtain ⟨es, ks⟩ := t
      obtain ⟨Ak', ck', he, _, _, h3⟩ := (rd_iff.1 h1).2
      cases he
      obtain ⟨b', off', rfl, hbB', hc'⟩ := h3 (by rintro rfl; simp [Tr.ks] at hil)
      obtain ⟨cs, ⟨ve', vk', rfl, _, hrd'⟩, _, hu'⟩ := hc' i _ hi
      obtain ⟨vAe, vne, vAk, vnk, rfl, rfl⟩ := rd_shape hrd'
      exact ⟨b', off', rfl, hbB', vAe, vne, vAk, vnk, hrd', (hB1.cell (p := ⟨b', off' + i * 3 + 1, none⟩) hbB').trans (hu' 1 _ rfl), (hB1.cell (p := ⟨b', off' + i * 3 + 2, none⟩) hbB').trans (hu' 2 _ rfl)⟩
    have HKT := hid hKT
    clear hi hKT
    go_wp2_with fail
    have hW0 := cells_set (i := 1) (cells_set (i := 0) HG4.out (.slice vAe u.es.length vne)) (.slice vAk u.ks.length vnk)
    have r0 := (cell_cells (i := 0) hW0).trans (show _ = some (.slice vAe u.es.length vne) by simp)
    have r1 := (cell_cells (i := 1) hW0).trans (show _ = some (.slice vAk u.ks.length vnk) by simp)
    refine bodyPost_ret (v := .agg #[.slice vAe u.es.length vne, .slice vAk u.ks.length vnk]) (by simp [results, Tryz.results175, go_sem, r0, r1]) rfl ⟨_, _, rfl, (by rw [HKT.out]; exact HRV.out), (hB1.setCell (by simp) _).setCell (by simp) _⟩
  · have HKT : Hid (kidT t s = .mk [] []) := kidT_none hn
    go_wp2_with fail
    have hW0 := cells_set (i := 1) (cells_set (i := 0) HG4.out (.slice none 0 0)) (.slice none 0 0)
    have r0 := (cell_cells (i := 0) hW0).trans (show _ = some (.slice none 0 0) by simp)
    have r1 := (cell_cells (i := 1) hW0).trans (show _ = some (.slice none 0 0) by simp)
    refine bodyPost_ret (v := .agg #[.slice none 0 0, .slice none 0 0]) (by simp [results, Tryz.results175, go_sem, r0, r1]) rfl ⟨_, _, rfl, (by rw [HKT.out]; exact rd_empty), (hB1.setCell (by simp) _).setCell (by simp) _⟩
end Go.Proofs.YtlapdmgjfdelnaaGreat

namespace Go.Proofs.YtlapdmgjfdelnaaGreat
open Go.RowKit
set_option maxRecDepth 100000

def elP (x : Kd) : Bool := decide (0 < x.2.es.length)
def elL (ks : List Kd) : List ByteArray := (ks.filter elP).map (·.1)
theorem elL_take {ks : List Kd} {k : Nat} {x : Kd} (h : ks[k]? = some x) : elL (ks.take (k + 1)) = elL (ks.take k) ++ (if elP x then [x.1] else []) := by
  unfold elL
  rw [List.take_add_one, h, List.filter_append, List.map_append]
  cases hp : elP x <;> simp [hp]
theorem elL_len (ks : List Kd) : (elL ks).length ≤ ks.length := by unfold elL; rw [List.length_map]; exact List.length_filter_le _ _
/-- What set.Elems tells. -/
def elemsOf (t : Tr) : List ByteArray := if t.right 5 then elL t.ks else []
set_option maxHeartbeats 4000000 in
theorem selems_any (t : Tr) (w : World) (ve vk : Value) (h : t.rd w w.heap.size ve vk) (hN : t.ks.length ≤ 900000) :
    Calls Tryz.prog 92 #[.agg #[ve, vk]] w (RetO w 9 1 (fun _ => StE) (elemsOf t)) := by
  have HC : Hid (∀ w', Below w.heap.size w w' → t.rd w' w'.heap.size ve vk) := fun w' hb => rd_below hb hb.size _ _ _ h
  have HK0 : Hid (elemsOf t = if t.right 5 then elL t.ks else []) := rfl
  obtain ⟨es, ks⟩ := t
  rw [rd_iff] at h
  obtain ⟨⟨A0, n0, rfl, d1, d2, d3⟩, ⟨A, m, rfl, c1, c2, c3⟩⟩ := h
  unfold Big at c2 d2
  simp only [Tr.ks] at hN HK0 ⊢
  have hb0 : Below w.heap.size w (w.alloc (.cells #[.slice A0 es.length n0, .slice A ks.length m] 25)) := (Below.refl _ w).alloc (Nat.le_refl _) _
  go_enter Tryz.func92, Tryz.ntmps92
  go_wp2_with fail
  refine (tRight_any _ _ _ _ (HC.out _ hb0)).mono ?_
  rintro e w1 ⟨rfl, hb1⟩
  have hs1 := hb1.size
  simp only [World.size_alloc] at hs1
  have hB1 : Below w.heap.size w w1 := hb0.trans (hb1.mono (by simp))
  have b1 : w1.cell? ⟨w.heap.size, 1, none⟩ = some (.slice A ks.length m) := by rw [hb1.cell (p := ⟨w.heap.size, 1, none⟩) (by simp)]; simp
  cases hr : (Tr.mk es ks).right 5
  · have HK : Hid (elemsOf (.mk es ks) = []) := by unfold Hid; rw [HK0.out, hr]; rfl
    clear hr
    go_wp2_with fail
    go_ret
    exact ⟨_, rfl, by rw [HK.out]; exact OwnP.nil, hB1⟩
  have HK : Hid (elemsOf (.mk es ks) = elL ks) := by unfold Hid; rw [HK0.out, hr]; rfl
  clear hr d3 d2 d1
  go_wp2_with fail
  go_loopw [3, 11] (fun v i wr => ∃ k : Nat, k ≤ ks.length ∧ i = .int .i64 k ∧ OwnP wr (w.heap.size + 1) 9 1 StE v (elL (ks.take k)) ∧ Below (w.heap.size + 1) w1 wr) (fun _ i _ => ks.length - (intOf i).toNat)
  case atStart => exact ⟨0, Nat.zero_le _, rfl, OwnP.nil, Below.refl _ _⟩
  case round =>
    obtain ⟨k, hk, rfl, hown, hb⟩ := hrel
    have hsz := hb.size
    have hB0 : Below w.heap.size w wr := hB1.trans (hb.mono (by omega))
    by_cases hlt : k < ks.length
    · obtain ⟨⟨key, t⟩, hx⟩ : ∃ x, ks[k]? = some x := ⟨_, List.getElem?_eq_getElem hlt⟩
      obtain ⟨b, off, rfl, hbB, hc⟩ := c3 (by rintro rfl; simp at hlt)
      obtain ⟨cs, ⟨ve', vk', rfl, hkb, hrd⟩, _, hu⟩ := hc k _ hx
      have hte : t.es.length ≤ 140737488355328 := by have := fit_rd _ _ _ hrd; obtain ⟨es', ks'⟩ := t; exact this.1
      obtain ⟨A5, n5, A6, n6, rfl, rfl⟩ := rd_shape hrd
      have e0 : wr.cell? ⟨b, off + k * 3, none⟩ = some (.string key) := (hB0.cell hbB).trans (hu 0 _ rfl)
      have e1 : wr.cell? ⟨b, off + k * 3 + 1, none⟩ = some (.slice A5 t.es.length n5) := (hB0.cell hbB).trans (hu 1 _ rfl)
      have e2 : wr.cell? ⟨b, off + k * 3 + 2, none⟩ = some (.slice A6 t.ks.length n6) := (hB0.cell hbB).trans (hu 2 _ rfl)
      have HT : Hid (elL (ks.take (k + 1)) = elL (ks.take k) ++ (if elP (key, t) then [key] else [])) := elL_take hx
      have HKY : Hid (StE key [.string key]) := ⟨rfl, hkb⟩
      have hfi : decide ((0 : Int) < (t.es.length : Int)) = decide (0 < t.es.length) := by simp
      clear hu hc c3 hx hrd hb0 hb1 b1
      cases he : decide (0 < t.es.length)
      · have HX : Hid (elL (ks.take (k + 1)) = elL (ks.take k)) := by unfold Hid; rw [HT.out, show elP (key, t) = false from he]; simp
        rw [he] at hfi
        go_wp2_with fail
        go_roundw
        case rel => exact ⟨k + 1, by omega, by go_num, by rw [HX.out]; exact hown.alloc _, hb.alloc (by omega) _⟩
        case measure => simp [intOf]; omega
      · have HX : Hid (elL (ks.take (k + 1)) = elL (ks.take k) ++ [key]) := by unfold Hid; rw [HT.out, show elP (key, t) = true from he]; rfl
        have HL : Hid ((elL (ks.take k)).length + [key].length ≤ Few) := by have := elL_len (ks.take k); unfold Hid Few; simp at this ⊢; omega
        rw [he] at hfi
        go_wp2_with (at_builtin; go_loud ((with_reducible refine wpList_few rfl (.tmp 20) (.tmp 23) _ rfl eiStr (by decide) (by decide) (fun _ _ h => StE.one h) rfl ((hown.alloc _).alloc _) rfl (SlP.oneN (x := key) HKY.out rfl _ rfl) HL.out (by simp only [World.size_alloc]; omega) ?_); intro v1 w2 hown1 hb2 _; have hb3 := (((Below.refl (w.heap.size + 1) wr).alloc (by omega) _).alloc (by simp only [World.size_alloc]; omega) _).trans hb2))
        go_roundw
        case rel => exact ⟨k + 1, by omega, by go_num, by rw [HX.out]; exact hown1, hb.trans hb3⟩
        case measure => simp [intOf]; omega
    · obtain rfl : k = ks.length := by omega
      rw [List.take_of_length_le (Nat.le_refl _)] at hown
      go_wp2_with fail
      go_ret
      exact ⟨_, rfl, by rw [HK.out]; exact hown.mono (by omega), hB0⟩

/-- What tributaryref10.Less tells. -/
def lessL (l : List ByteArray) (s : ByteArray) : List ByteArray := l.filter fun x => !decide (x = s)
/-- What set.Has tells. -/
def hasE (t : Tr) (s : ByteArray) : Bool := (elemsOf t).any fun x => decide (s = x)
theorem elemsOf_len (t : Tr) : (elemsOf t).length ≤ t.ks.length := by
  unfold elemsOf
  split
  · exact elL_len _
  · simp
end Go.Proofs.YtlapdmgjfdelnaaGreat

namespace Go.Proofs.YtlapdmgjfdelnaaGreat
open Go.RowKit
set_option maxRecDepth 100000

theorem updClo_any (key x : ByteArray) (A A' : Option Addr) (n c n' c' : Nat) (B : Nat) (w : World) (hc : w.cell? ⟨B, 0, none⟩ = some (.string key)) (hB : B < w.heap.size) :
    Calls Tryz.prog 191 #[.agg #[.string x, .slice A n c, .slice A' n' c'], .pointer (some ⟨B, 0, none⟩)] w fun e w' => e = .returned (.bool (decide (x = key))) ∧ Below w.heap.size w w' := by
  have hne : B ≠ w.heap.size := by omega
  have HE : Hid ((x.toList == key.toList) = decide (x = key)) := by
    unfold Hid; rw [Bool.eq_iff_iff]; simp [bytes_inj]
  go_enter Tryz.func191, Tryz.ntmps191
  go_wp2_with fail
  go_ret
  exact ⟨ret_bool HE.out, by go_grown⟩
theorem updTest {key : ByteArray} {B : Nat} {w : World} (hc : w.cell? ⟨B, 0, none⟩ = some (.string key)) (hB : B < w.heap.size) : TestKid 191 #[.pointer (some ⟨B, 0, none⟩)] (fun x => decide (x = key)) w :=
  ⟨enters_of Tryz.func191 (by kernel_rfl) rfl, fun x A A' n c n' c' W _ hW => updClo_any key x A A' n c n' c' B W ((hW.cell (p := ⟨B, 0, none⟩) hB).trans hc) (by have := hW.size; omega)⟩
end Go.Proofs.YtlapdmgjfdelnaaGreat

namespace Go.Proofs.YtlapdmgjfdelnaaGreat
open Go.RowKit
set_option maxRecDepth 100000

open Classical in
noncomputable def ksEq (a b : List Kd) : Bool := decide (a = b)
open Classical in
noncomputable def kdEq (a b : Kd) : Bool := decide (a = b)
/-- A test on two kids: are they alike? -/
def TestKids (g : Nat) (l m : List Kd) (w : World) : Prop :=
  (∀ args W, (callFunc g args).run Tryz.prog W = .ok (.enter g args) W) ∧
  ∀ (x : Kd) (y : Kd) (xe xk ye yk : Value) (W : World), x ∈ l → y ∈ m → Below w.heap.size w W → x.2.rd W W.heap.size xe xk → y.2.rd W W.heap.size ye yk → Calls Tryz.prog g #[.agg #[.string x.1, xe, xk], .agg #[.string y.1, ye, yk]] W fun e w' => e = .returned (.bool (kdEq x y)) ∧ Below W.heap.size W w'
end Go.Proofs.YtlapdmgjfdelnaaGreat

namespace Go.Proofs.YtlapdmgjfdelnaaGreat
open Go.RowKit
set_option maxRecDepth 100000

end Go.Proofs.YtlapdmgjfdelnaaGreat

namespace Go.Proofs.YtlapdmgjfdelnaaGreat
open Go.RowKit Go.Sort
set_option maxRecDepth 100000

def toBy (s : ByteArray) : List UInt8 := s.data.toList
def ofBy (l : List UInt8) : ByteArray := ⟨l.toArray⟩
theorem ofBy_toBy (s : ByteArray) : ofBy (toBy s) = s := rfl
theorem toBy_ofBy (l : List UInt8) : toBy (ofBy l) = l := rfl
theorem map_to_of (ds : List (List UInt8)) : (ds.map ofBy).map toBy = ds := by
  rw [List.map_map]
  conv => rhs; rw [← List.map_id ds]
  rfl
/-- Texts, in order. -/
def srtL (ds : List ByteArray) : List ByteArray := ((ds.map toBy).mergeSort fun x y => decide (x ≤ y)).map ofBy
/-- Texts, neighbours that are the same once. -/
def cmpL (ds : List ByteArray) : List ByteArray := (Lib.compact (ds.map toBy)).map ofBy
theorem flat_one {α : Type} (f : α → Value) (l : List α) : (l.map fun x => [f x]).flatten = l.map f := by
  induction l with
  | nil => rfl
  | cons x l ih => simp [ih]
theorem own_strs {w : World} {base : Nat} {e : TypeId} {v : Value} {ds : List ByteArray} (h : OwnP w base e 1 StE v ds) : (v = .slice none 0 0 ∧ ds = []) ∨
    ∃ b cap cur, v = .slice (some ⟨b, 0, none⟩) ds.length cap ∧ base ≤ b ∧ w.heap[b]? = some (.cells cur e (0, 0)) ∧ ds.length ≤ cap ∧ cap ≤ maxLen ∧ cur.size = cap * 1 ∧ cur.toList.take (ds.map toBy).length = (ds.map toBy).map encStr ∧ ∀ x ∈ ds, x.size ≤ Big := by
  obtain ⟨css, h1, h2, h3⟩ := h
  rcases h3 with ⟨rfl, hn⟩ | ⟨b, cap, cur, rfl, hb, hg, hnc, hm, hcs, ht⟩
  · exact .inl ⟨rfl, List.eq_nil_of_length_eq_zero hn⟩
  · refine .inr ⟨b, cap, cur, rfl, hb, hg, hnc, hm, hcs, ?_, fun x hx => ?_⟩
    · have hcss : css = ds.map fun x => [Value.string x] := by
        apply List.ext_getElem?
        intro j
        by_cases hj : j < ds.length
        · obtain ⟨cs, hcs, ⟨hcv, _⟩, _⟩ := h1.2 j ds[j] (List.getElem?_eq_getElem hj)
          rw [hcs, List.getElem?_map, List.getElem?_eq_getElem hj, hcv]; rfl
        · rw [List.getElem?_eq_none (by rw [h1.1]; omega), List.getElem?_eq_none (by simp; omega)]
      rw [Nat.mul_one, hcss, flat_one] at ht
      rw [List.length_map, ht, List.map_map]
      rfl
    · obtain ⟨j, hj⟩ := List.getElem?_of_mem hx
      obtain ⟨cs, _, ⟨_, hr⟩, _⟩ := h1.2 j x hj
      exact hr
theorem own_of {w : World} {base : Nat} {e : TypeId} {v : Value} {ts : List (List UInt8)} (h : w.ownsRow base e 1 v ts.length (ts.map encStr)) (hs : ∀ x ∈ ts, (ofBy x).size ≤ Big) : OwnP w base e 1 StE v (ts.map ofBy) := by
  refine ⟨ts.map fun l => [encStr l], ⟨by simp, fun j x hx => ?_⟩, ?_⟩
  · rw [List.getElem?_map] at hx
    obtain ⟨y, hy, rfl⟩ := Option.map_eq_some_iff.1 hx
    exact ⟨[encStr y], by rw [List.getElem?_map, hy]; rfl, ⟨rfl, hs y (List.mem_of_getElem? hy)⟩, rfl⟩
  · rw [flat_one, List.length_map]; exact h

theorem sortStr_any (ds : List ByteArray) (v : Value) (w : World) (base : Nat) (h : OwnP w base 9 1 StE v ds) (hl : ds.length ≤ 900000) (hbase : base ≤ w.heap.size) :
    Calls Tryz.prog 151 #[v] w fun e w' => e = .returned (.tuple #[]) ∧ OwnP w' base 9 1 StE v (srtL ds) ∧ Below base w w' := by
  rcases own_strs h with ⟨rfl, rfl⟩ | ⟨b, cap, cur, rfl, hb, hg, hnc, hm, hcs, ht, hz⟩
  · refine (Any.slices_Sort_string_none Tryz.sortStr none 0 w).mono ?_
    rintro e w' ⟨rfl, rfl⟩
    exact ⟨rfl, by simpa [srtL] using OwnP.nil, Below.refl _ _⟩
  · have hlt : b < w.heap.size := (Array.getElem?_eq_some_iff.1 hg).1
    have hH : Holds encStr w b 0 (ds.map toBy).toArray := holds_of_block hg ht
    have hcon := Any.slices_Sort_string Tryz.sortStr b 0 cap (ds.map toBy) w hH hlt (by rw [List.length_map]; omega)
    rw [List.length_map] at hcon
    refine Calls.mono hcon ?_
    rintro e w' ⟨rfl, n, os, rfl⟩
    have hp : ((ds.map toBy).mergeSort fun x y => decide (x ≤ y)).Perm (ds.map toBy) := List.mergeSort_perm _ _
    have hrow := ownsRow_sorted (n := n) (os := os) (ss := ds.map toBy) (ts := (ds.map toBy).mergeSort fun x y => decide (x ≤ y)) hp.length_eq hb hg (by rw [List.length_map]; exact hnc) hm hcs
    rw [← hp.length_eq] at hrow
    refine ⟨rfl, ?_, (Below.refl base w).grown (grownBy_sorted _) hbase (fun g hg => by cases hg; exact hb)⟩
    have hlen : ((ds.map toBy).mergeSort fun x y => decide (x ≤ y)).length = ds.length := by rw [hp.length_eq, List.length_map]
    have := own_of hrow (fun x hx => by
      obtain ⟨y, hy, rfl⟩ := List.mem_map.1 (hp.subset hx)
      exact hz y hy)
    rw [hlen] at this
    exact this

theorem compactStr_any (ds : List ByteArray) (v : Value) (w : World) (base : Nat) (h : OwnP w base 9 1 StE v ds) (hl : ds.length ≤ 900000) (hbase : base ≤ w.heap.size) :
    Calls Tryz.prog 152 #[v] w fun e w' => ∃ v', e = .returned v' ∧ OwnP w' base 9 1 StE v' (cmpL ds) ∧ Below base w w' := by
  rcases own_strs h with ⟨rfl, rfl⟩ | ⟨b, cap, cur, rfl, hb, hg, hnc, hm, hcs, ht, hz⟩
  · refine (Any.slices_Compact_string_empty Tryz.compactStr none 0 w).mono ?_
    rintro e w' ⟨rfl, rfl⟩
    exact ⟨_, rfl, by simpa [cmpL, Lib.compact, Lib.compactUpTo] using OwnP.nil, Below.refl _ _⟩
  · have hlt : b < w.heap.size := (Array.getElem?_eq_some_iff.1 hg).1
    have hH : Holds encStr w b 0 (ds.map toBy).toArray := holds_of_block hg ht
    have hcon := Any.slices_Compact_string Tryz.compactStr b 0 cap (ds.map toBy) w hH (by rw [List.length_map]; omega) (by rw [List.length_map]; exact hnc)
    rw [List.length_map] at hcon
    refine Calls.mono hcon ?_
    rintro e w' ⟨rfl, n, rfl⟩
    have hcl := Lib.compact_length_le (ds.map toBy)
    rw [List.length_map] at hcl
    have hm2 : ∀ x ∈ Lib.compact (ds.map toBy), x ∈ ds.map toBy := fun x hx => by
      unfold Lib.compact Lib.compactUpTo at hx
      obtain ⟨j, hj, rfl⟩ := List.mem_map.1 hx
      have hj' : j < (ds.map toBy).length := List.mem_range.1 (List.mem_filter.1 hj).1
      rw [getElem!_pos _ j (by simpa using hj')]
      simpa using List.getElem_mem hj'
    have hcm : cmpL ds = (Lib.compact (ds.map toBy)).map ofBy := rfl
    rw [hcm]
    generalize Lib.compact (ds.map toBy) = ts at hcl hm2 ⊢
    refine ⟨_, rfl, ?_, ?_⟩
    · have hF : (ts ++ List.replicate (ds.length - ts.length) []).length = ds.length := by simp; omega
      have htk := take_putCells cur (ts ++ List.replicate (ds.length - ts.length) []) (by rw [hF, hcs]; omega)
      have hheap : (putRow encStr (Sort.ahead w n) b 0 (ts ++ List.replicate (ds.length - ts.length) []).toArray).heap[b]? = some (.cells (putCells encStr 0 (ts ++ List.replicate (ds.length - ts.length) []).toArray cur) 9 (0, 0)) := by
        simp [putRow, mapBlock, Sort.ahead, Array.getElem?_modify, hg, onCells]
      refine own_of (v := .slice (some ⟨b, 0, none⟩) ts.length cap) ⟨by simp, .inr ⟨b, cap, _, rfl, hb, hheap, by omega, hm, by simp [putCells, hcs], ?_⟩⟩ (fun x hx => by
        obtain ⟨y, hy, rfl⟩ := List.mem_map.1 (hm2 x hx)
        exact hz y hy)
      have := congrArg (List.take ts.length) htk
      rw [List.take_take, hF, Nat.min_eq_left hcl, ← List.map_take, List.take_left] at this
      rw [Nat.mul_one]; exact this
    · refine (Below.refl base w).grown (w' := putRow encStr (Sort.ahead w n) b 0 (ts ++ List.replicate (ds.length - ts.length) []).toArray) (row := some b) ⟨rfl, rfl, rfl, by simp, fun k hk hne => ?_⟩ hbase (fun g hg => by cases hg; exact hb)
      have : b ≠ k := fun e => hne (by rw [e])
      simp [putRow, mapBlock, Sort.ahead, Array.getElem?_modify, this]
end Go.Proofs.YtlapdmgjfdelnaaGreat

namespace Go.Proofs.YtlapdmgjfdelnaaGreat
open Go.RowKit
set_option maxRecDepth 100000

/-- The texts of a tree's own entries. -/
def txtL (t : Tr) : List ByteArray := t.es.map (·.s)
/-- What register.Values tells. -/
def valsOf (t : Tr) : List ByteArray := cmpL (srtL (if t.right 5 then txtL t else []))
theorem srtL_len (l : List ByteArray) : (srtL l).length = l.length := by unfold srtL; rw [List.length_map, (List.mergeSort_perm _ _).length_eq, List.length_map]
set_option maxHeartbeats 4000000 in
theorem rvals_any (t : Tr) (w : World) (ve vk : Value) (h : t.rd w w.heap.size ve vk) (hN : t.es.length ≤ 900000) :
    Calls Tryz.prog 93 #[.agg #[ve, vk]] w (RetO w 9 1 (fun _ => StE) (valsOf t)) := by
  have HC : Hid (∀ w', Below w.heap.size w w' → t.rd w' w'.heap.size ve vk) := fun w' hb => rd_below hb hb.size _ _ _ h
  have HK0 : Hid (valsOf t = cmpL (srtL (if t.right 5 then t.es.map (·.s) else []))) := rfl
  obtain ⟨es, ks⟩ := t
  rw [rd_iff] at h
  obtain ⟨⟨A, m, rfl, c1, c2, c3⟩, ⟨A0, n0, rfl, d1, d2, d3⟩⟩ := h
  unfold Big at c2 d2
  simp only [Tr.es] at hN HK0 ⊢
  have hb0 : Below w.heap.size w (w.alloc (.cells #[.slice A es.length m, .slice A0 ks.length n0] 25)) := (Below.refl _ w).alloc (Nat.le_refl _) _
  go_enter Tryz.func93, Tryz.ntmps93
  go_wp2_with fail
  refine (tRight_any _ _ _ _ (HC.out _ hb0)).mono ?_
  rintro e w1 ⟨rfl, hb1⟩
  have hs1 := hb1.size
  simp only [World.size_alloc] at hs1
  have hB1 : Below w.heap.size w w1 := hb0.trans (hb1.mono (by simp))
  have b0 : w1.cell? ⟨w.heap.size, 0, none⟩ = some (.slice A es.length m) := by rw [hb1.cell (p := ⟨w.heap.size, 0, none⟩) (by simp)]; simp
  cases hr : (Tr.mk es ks).right 5
  · have HK1 : Hid (valsOf (.mk es ks) = cmpL (srtL [])) := by unfold Hid; rw [HK0.out, hr]; rfl
    obtain ⟨L, hL⟩ : ∃ L : List ByteArray, L = [] := ⟨_, rfl⟩
    have HK : Hid (valsOf (.mk es ks) = cmpL (srtL L)) := by unfold Hid; rw [hL]; exact HK1.out
    have hLl : L.length ≤ 900000 := by rw [hL]; simp
    obtain ⟨wr, hwr⟩ : ∃ wr, wr = w1 := ⟨_, rfl⟩
    subst hwr
    have hown : OwnP wr (w.heap.size + 1) 9 1 StE (.slice none 0 0) L := by rw [hL]; exact OwnP.nil
    have hB0 := hB1
    clear hr hL
    go_wp2_with fail
    refine (sortStr_any L _ wr (w.heap.size + 1) hown hLl (by omega)).mono ?_
    rintro e w2 ⟨rfl, ho2, hb2⟩
    have hs2 := hb2.size
    have hll := srtL_len L
    go_wp2_with fail
    refine (compactStr_any (srtL L) _ w2 (w.heap.size + 1) ho2 (by omega) (by omega)).mono ?_
    rintro e w3 ⟨v3, rfl, ho3, hb3⟩
    go_wp2_with fail
    go_ret
    exact ⟨_, rfl, by rw [HK.out]; exact ho3.mono (by omega), hB0.trans ((hb2.trans hb3).mono (by omega))⟩
  have HK1 : Hid (valsOf (.mk es ks) = cmpL (srtL (es.map (·.s)))) := by unfold Hid; rw [HK0.out, hr]; rfl
  clear hr d3 d2 d1
  go_wp2_with fail
  go_loopw [3, 11] (fun v i wr => ∃ k : Nat, k ≤ es.length ∧ i = .int .i64 k ∧ OwnP wr (w.heap.size + 1) 9 1 StE v ((es.take k).map (·.s)) ∧ Below (w.heap.size + 1) w1 wr) (fun _ i _ => es.length - (intOf i).toNat)
  case atStart => exact ⟨0, Nat.zero_le _, rfl, OwnP.nil, Below.refl _ _⟩
  case round =>
    obtain ⟨k, hk, rfl, hown, hb⟩ := hrel
    have hsz := hb.size
    have hB0 : Below w.heap.size w wr := hB1.trans (hb.mono (by omega))
    by_cases hlt : k < es.length
    · obtain ⟨x, hx⟩ : ∃ x, es[k]? = some x := ⟨_, List.getElem?_eq_getElem hlt⟩
      obtain ⟨b, off, rfl, hbB, hc⟩ := c3 (by rintro rfl; simp at hlt)
      obtain ⟨cs, ⟨rfl, hok⟩, _, hu⟩ := hc k _ hx
      have e0 : wr.cell? ⟨b, off + k * 4, none⟩ = some (.int .i64 x.dc) := (hB0.cell hbB).trans (hu 0 _ rfl)
      have e1 : wr.cell? ⟨b, off + k * 4 + 1, none⟩ = some (.int .i64 x.n) := (hB0.cell hbB).trans (hu 1 _ rfl)
      have e2 : wr.cell? ⟨b, off + k * 4 + 2, none⟩ = some (.string x.s) := (hB0.cell hbB).trans (hu 2 _ rfl)
      have e3 : wr.cell? ⟨b, off + k * 4 + 3, none⟩ = some (.int .i64 x.v) := (hB0.cell hbB).trans (hu 3 _ rfl)
      have HX : Hid ((es.take (k + 1)).map (·.s) = (es.take k).map (·.s) ++ [x.s]) := by unfold Hid; rw [List.take_add_one, hx]; simp
      have HL : Hid (((es.take k).map (·.s)).length + [x.s].length ≤ Few) := by unfold Hid Few; simp; omega
      have HKY : Hid (StE x.s [.string x.s]) := ⟨rfl, hok.s⟩
      clear hu hc c3 hx hb0 hb1 b0 hok
      go_wp2_with (at_builtin; go_loud ((with_reducible refine wpList_few rfl (.tmp 15) (.tmp 18) _ rfl eiStr (by decide) (by decide) (fun _ _ h => StE.one h) rfl ((hown.alloc _).alloc _) rfl (SlP.oneN (x := x.s) HKY.out rfl _ rfl) HL.out (by simp only [World.size_alloc]; omega) ?_); intro v1 w2 hown1 hb2 _; have hb3 := (((Below.refl (w.heap.size + 1) wr).alloc (by omega) _).alloc (by simp only [World.size_alloc]; omega) _).trans hb2))
      go_roundw
      case rel => exact ⟨k + 1, by omega, by go_num, by rw [HX.out]; exact hown1, hb.trans hb3⟩
      case measure => simp [intOf]; omega
    · obtain rfl : k = es.length := by omega
      rw [List.take_of_length_le (Nat.le_refl _)] at hown
      have hLl : (es.map (·.s)).length ≤ 900000 := by simp; omega
      have HK := HK1
      clear HK1 HK0 c3
      generalize es.map (·.s) = L at *
      go_wp2_with fail
      refine (sortStr_any L _ wr (w.heap.size + 1) hown hLl (by omega)).mono ?_
      rintro e w2 ⟨rfl, ho2, hb2⟩
      have hs2 := hb2.size
      have hll := srtL_len L
      go_wp2_with fail
      refine (compactStr_any (srtL L) _ w2 (w.heap.size + 1) ho2 (by omega) (by omega)).mono ?_
      rintro e w3 ⟨v3, rfl, ho3, hb3⟩
      go_wp2_with fail
      go_ret
      exact ⟨_, rfl, by rw [HK.out]; exact ho3.mono (by omega), hB0.trans ((hb2.trans hb3).mono (by omega))⟩
end Go.Proofs.YtlapdmgjfdelnaaGreat

namespace Go.Proofs.YtlapdmgjfdelnaaGreat
open Go.RowKit
set_option maxRecDepth 100000

def okT : Option ByteArray → ByteArray → Bool
  | none, _ => true
  | some q, x => ltS q x
/-- Is a text the next one? -/
def pickC (last b : Option ByteArray) (x : ByteArray) : Bool := okT last x && (match b with | none => true | some c => ltS x c)
def pickS (last b : Option ByteArray) (x : ByteArray) : Option ByteArray := if pickC last b x then some x else b
def sdGo (l : List ByteArray) : Nat → List ByteArray → List ByteArray
  | 0, out => out
  | n + 1, out => match l.foldl (pickS out.getLast?) none with | none => out | some b => sdGo l n (out ++ [b])
/-- What tributaryref10.Sorted tells. -/
def sdL (l : List ByteArray) : List ByteArray := sdGo l (l.length + 1) []
def ahT (l : List ByteArray) (last : Option ByteArray) : Nat := (l.filter fun x => okT last x).length
theorem pick_mem (l : List ByteArray) (last : Option ByteArray) : ∀ (b : Option ByteArray), (∀ e, b = some e → okT last e = true) → ∀ e, l.foldl (pickS last) b = some e → (b = some e ∨ e ∈ l) ∧ okT last e = true := by
  induction l with
  | nil => intro b hb e he; exact ⟨.inl he, hb e he⟩
  | cons x l ih =>
    intro b hb e he
    rw [List.foldl_cons] at he
    by_cases hc : pickC last b x = true
    · have e1 : pickS last b x = some x := by simp [pickS, hc]
      rw [e1] at he
      simp only [pickC, Bool.and_eq_true] at hc
      obtain ⟨h1, h2⟩ := ih (some x) (fun e he => by cases he; exact hc.1) e he
      refine ⟨.inr ?_, h2⟩
      rcases h1 with h1 | h1
      · cases h1; simp
      · exact List.mem_cons_of_mem _ h1
    · have e1 : pickS last b x = b := by simp [pickS, hc]
      rw [e1] at he
      obtain ⟨h1, h2⟩ := ih b hb e he
      refine ⟨?_, h2⟩
      rcases h1 with h1 | h1
      · exact .inl h1
      · exact .inr (List.mem_cons_of_mem _ h1)
theorem pick_min (l : List ByteArray) (last : Option ByteArray) : ∀ (b : Option ByteArray), (∀ c, b = some c → ∃ e, l.foldl (pickS last) b = some e ∧ ltS c e = false) ∧ ∀ x ∈ l, okT last x = true → ∃ e, l.foldl (pickS last) b = some e ∧ ltS x e = false := by
  induction l with
  | nil => intro b; exact ⟨fun c h => ⟨c, h, ltS_irrefl _⟩, fun _ h => by cases h⟩
  | cons y l ih =>
    intro b
    rw [List.foldl_cons]
    obtain ⟨i1, i2⟩ := ih (pickS last b y)
    refine ⟨fun c hc => ?_, fun x hx h2 => ?_⟩
    · subst hc
      by_cases hs : pickC last (some c) y = true
      · obtain ⟨e, he, hle⟩ := i1 y (by simp [pickS, hs])
        refine ⟨e, he, ?_⟩
        simp only [pickC, Bool.and_eq_true] at hs
        cases hce : ltS c e
        · rfl
        · rw [ltS_trans hs.2 hce] at hle; cases hle
      · exact i1 c (by simp [pickS, hs])
    · rcases List.mem_cons.1 hx with rfl | hx
      · cases b with
        | none =>
          have hs : pickC last none x = true := by simp [pickC, h2]
          exact i1 x (by simp [pickS, hs])
        | some c =>
          by_cases hs : pickC last (some c) x = true
          · exact i1 x (by simp [pickS, hs])
          · obtain ⟨e, he, hle⟩ := i1 c (by simp [pickS, hs])
            refine ⟨e, he, ?_⟩
            have hxc : ltS x c = false := by
              cases hxc : ltS x c
              · rfl
              · exact absurd (by simp [pickC, h2, hxc]) hs
            cases hxe : ltS x e
            · rfl
            · cases hec : ltS e c
              · have := ltS_total hec hle; rw [this] at hxe; rw [hxe] at hxc; cases hxc
              · rw [ltS_trans hxe hec] at hxc; cases hxc
      · exact i2 x hx h2
theorem okT_trans {last : Option ByteArray} {a b : ByteArray} (h : okT last a = true) (k : ltS a b = true) : okT last b = true := by
  cases last with
  | none => rfl
  | some q => exact ltS_trans h k
theorem ahT_lt {l : List ByteArray} {last : Option ByteArray} {e : ByteArray} (h : l.foldl (pickS last) none = some e) : ahT l (some e) < ahT l last := by
  obtain ⟨h1, h2⟩ := pick_mem l last none (fun _ h => by cases h) e h
  rcases h1 with h1 | h1
  · cases h1
  · exact filter_lt h1 (fun y hy => okT_trans h2 hy) h2 (ltS_irrefl _)
theorem ahT_le (l : List ByteArray) (last : Option ByteArray) : ahT l last ≤ l.length := List.length_filter_le _ _
theorem sdGo_spec (l : List ByteArray) : ∀ (n : Nat) (out : List ByteArray), ahT l out.getLast? < n → (out.Pairwise fun a b => ltS a b = true) → (∀ e ∈ out, e ∈ l) → (∀ x ∈ l, okT out.getLast? x = false → x ∈ out) →
    ((sdGo l n out).Pairwise fun a b => ltS a b = true) ∧ (∀ e ∈ sdGo l n out, e ∈ l) ∧ ∀ x ∈ l, x ∈ sdGo l n out
  | 0, _, h, _, _, _ => absurd h (Nat.not_lt_zero _)
  | n + 1, out, h, h1, h2, h3 => by
    rw [sdGo]
    cases hb : l.foldl (pickS out.getLast?) none with
    | none =>
      refine ⟨h1, h2, fun x hx => ?_⟩
      cases ho : okT out.getLast? x
      · exact h3 x hx ho
      · obtain ⟨e, he, _⟩ := (pick_min l out.getLast? none).2 x hx ho
        rw [hb] at he; cases he
    | some e =>
      obtain ⟨hm, hok⟩ := pick_mem l out.getLast? none (fun _ h => by cases h) e hb
      have hel : e ∈ l := by
        rcases hm with hm | hm
        · cases hm
        · exact hm
      have hle : (out ++ [e]).getLast? = some e := by simp
      refine sdGo_spec l n (out ++ [e]) ?_ ?_ ?_ ?_
      · rw [hle]; have := ahT_lt hb; omega
      · rw [List.pairwise_append]
        refine ⟨h1, List.pairwise_singleton _ _, fun a ha b hb' => ?_⟩
        rw [List.mem_singleton] at hb'; subst hb'
        rcases List.eq_nil_or_concat out with rfl | ⟨out', z, rfl⟩
        · cases ha
        · rw [List.concat_eq_append] at *
          rw [List.getLast?_append] at hok
          have hz : ltS z b = true := hok
          rcases List.mem_append.1 ha with ha | ha
          · exact ltS_trans ((List.pairwise_append.1 h1).2.2 a ha z (by simp)) hz
          · rw [List.mem_singleton] at ha; subst ha; exact hz
      · intro a ha
        rcases List.mem_append.1 ha with ha | ha
        · exact h2 a ha
        · rw [List.mem_singleton] at ha; subst ha; exact hel
      · intro x hx ho
        rw [hle] at ho
        have ho : ltS e x = false := ho
        cases ho' : okT out.getLast? x
        · exact List.mem_append_left _ (h3 x hx ho')
        · obtain ⟨e', he', hmn⟩ := (pick_min l out.getLast? none).2 x hx ho'
          rw [hb] at he'; cases he'
          rw [ltS_total ho hmn]; simp
theorem sdL_spec (l : List ByteArray) : ((sdL l).Pairwise fun a b => ltS a b = true) ∧ ∀ x, x ∈ sdL l ↔ x ∈ l := by
  obtain ⟨h1, h2, h3⟩ := sdGo_spec l (l.length + 1) [] (by have := ahT_le l ([] : List ByteArray).getLast?; omega) .nil (fun _ h => by cases h) (fun x _ h => by simp [okT] at h)
  exact ⟨h1, fun x => ⟨h2 x, h3 x⟩⟩

theorem ltS_to (a b : ByteArray) : ltS a b = decide (toBy a < toBy b) := by
  unfold ltS toBy
  rw [bytesLess_eq, ByteArray.toList_eq, ByteArray.toList_eq]
theorem compact_mem {zs : List (List UInt8)} (x : List UInt8) : x ∈ Lib.compact zs ↔ x ∈ zs := by
  unfold Lib.compact Lib.compactUpTo
  rw [List.mem_map]
  constructor
  · rintro ⟨j, hj, rfl⟩
    have hj' : j < zs.length := List.mem_range.1 (List.mem_filter.1 hj).1
    rw [getElem!_pos _ j (by simpa using hj')]
    simp
  · intro hx
    obtain ⟨i, hi, rfl⟩ := List.getElem_of_mem hx
    have key : ∀ i (hi : i < zs.length), ∃ j, j ∈ (List.range zs.length).filter (Lib.keeps zs.toArray) ∧ zs.toArray[j]! = zs[i] := by
      intro i
      induction i using Nat.strongRecOn with
      | ind i ih =>
        intro hi
        have hg : zs.toArray[i]! = zs[i] := by rw [getElem!_pos _ i (by simpa using hi)]; simp
        by_cases hk : Lib.keeps zs.toArray i = true
        · exact ⟨i, List.mem_filter.2 ⟨List.mem_range.2 hi, hk⟩, hg⟩
        · unfold Lib.keeps at hk
          simp only [decide_eq_true_eq, not_or, ne_eq, Decidable.not_not] at hk
          obtain ⟨j, hj, he⟩ := ih (i - 1) (by omega) (by omega)
          refine ⟨j, hj, ?_⟩
          rw [he, ← hg, hk.2, getElem!_pos _ (i - 1) (by simp; omega)]; simp
    obtain ⟨j, hj, he⟩ := key i hi
    exact ⟨j, hj, he⟩
theorem compact_sorted {zs : List (List UInt8)} (h : zs.Pairwise fun a b => a ≤ b) : (Lib.compact zs).Pairwise fun a b => a < b := by
  unfold Lib.compact Lib.compactUpTo
  rw [List.pairwise_map, List.pairwise_filter]
  have hr := List.pairwise_lt_range (n := zs.length)
  refine hr.imp_of_mem fun {i j} hi hj hij _ hk => ?_
  have hi' := List.mem_range.1 hi
  have hj' := List.mem_range.1 hj
  rw [List.pairwise_iff_getElem] at h
  unfold Lib.keeps at hk
  simp only [decide_eq_true_eq, ne_eq] at hk
  have hne : zs.toArray[j]! ≠ zs.toArray[j - 1]! := by
    rcases hk with hk | hk
    · omega
    · exact hk
  rw [getElem!_pos _ j (by simpa using hj'), getElem!_pos _ (j - 1) (by simp; omega)] at hne
  rw [getElem!_pos _ i (by simpa using hi'), getElem!_pos _ j (by simpa using hj')]
  simp only [List.getElem_toArray] at hne ⊢
  have h1 : zs[j - 1]'(by omega) ≤ zs[j] := h (j - 1) j (by omega) hj' (by omega)
  have h2 : zs[i] ≤ zs[j - 1]'(by omega) := by
    by_cases he : i = j - 1
    · subst he; exact List.le_refl _
    · exact h i (j - 1) hi' (by omega) (by omega)
  have h3 : zs[j - 1]'(by omega) < zs[j] := by
    rcases Decidable.em (zs[j - 1]'(by omega) < zs[j]) with h4 | h4
    · exact h4
    · exact absurd (List.le_antisymm (List.not_lt.1 h4) h1) hne
  rcases Decidable.em (zs[i] < zs[j]) with h4 | h4
  · exact h4
  · exact absurd h3 (List.not_lt.2 (List.le_trans (List.not_lt.1 h4) h2))
/-- The library's way and the reference's. -/
theorem sd_eq (l : List ByteArray) : cmpL (srtL l) = sdL l := by
  obtain ⟨h1, h2⟩ := sdL_spec l
  have hp : ((l.map toBy).mergeSort fun x y => decide (x ≤ y)).Perm (l.map toBy) := List.mergeSort_perm _ _
  have hs : ((l.map toBy).mergeSort fun x y => decide (x ≤ y)).Pairwise fun a b => a ≤ b := by
    have := List.pairwise_mergeSort (le := fun x y : List UInt8 => decide (x ≤ y)) (fun a b c h k => by simp only [decide_eq_true_eq] at *; exact List.le_trans h k) (fun a b => by
      simp only [Bool.or_eq_true, decide_eq_true_eq]; exact List.le_total a b) (l.map toBy)
    exact this.imp fun h => by simpa using h
  have hc : cmpL (srtL l) = (Lib.compact ((l.map toBy).mergeSort fun x y => decide (x ≤ y))).map ofBy := by
    unfold cmpL srtL; rw [map_to_of]
  rw [hc]
  refine sorted_ext (r := ltS) ltS_irrefl (fun _ _ _ => ltS_trans) ?_ h1 fun x => ?_
  · rw [List.pairwise_map]
    exact (compact_sorted hs).imp fun h => by rw [ltS_to, toBy_ofBy, toBy_ofBy]; simpa using h
  · rw [h2, List.mem_map]
    constructor
    · rintro ⟨y, hy, rfl⟩
      obtain ⟨z, hz, rfl⟩ := List.mem_map.1 (hp.subset ((compact_mem y).1 hy))
      exact hz
    · intro hx
      exact ⟨toBy x, (compact_mem _).2 (hp.symm.subset (List.mem_map.2 ⟨x, hx, rfl⟩)), rfl⟩
end Go.Proofs.YtlapdmgjfdelnaaGreat

namespace Go.Proofs
open Go.Shelf
def Tryz.sortRun_ren : Go.Shelf.Ren := ⟨fun | 6 => 169 | 15 => 198 | 14 => 207 | 28 => 232 | 29 => 233 | 20 => 236 | 21 => 237 | 22 => 238 | 23 => 239 | 24 => 240 | 25 => 241 | 26 => 242 | 27 => 243 | 46 => 254 | 47 => 250 | 48 => 251 | 49 => 255 | 50 => 256 | 57 => 259 | n => n, fun | 22 => 169 | 24 => 201 | 25 => 204 | 3 => 3 | 39 => 224 | 0 => 0 | 53 => 256 | 55 => 258 | 4 => 4 | 46 => 249 | 45 => 248 | 50 => 238 | 5 => 5 | 9 => 9 | 66 => 270 | 70 => 274 | 76 => 279 | 77 => 280 | n => n, fun | n => n⟩
theorem Tryz.sortRun : Go.Proofs.SlLaysF0.n6 Tryz.prog Tryz.sortRun_ren := {
  mixed := by kernel_rfl
  f6 := ⟨Tryz.f169.name, by decide, Tryz.func169.trans (congrArg some (by kernel_rfl))⟩
  f14 := ⟨Tryz.f207.name, by decide, Tryz.func207.trans (congrArg some (by kernel_rfl))⟩
  f15 := Tryz.func198.trans (congrArg some (by kernel_rfl))
  f20 := ⟨Tryz.f236.name, by decide, Tryz.func236.trans (congrArg some (by kernel_rfl))⟩
  f21 := ⟨Tryz.f237.name, by decide, Tryz.func237.trans (congrArg some (by kernel_rfl))⟩
  f22 := ⟨Tryz.f238.name, by decide, Tryz.func238.trans (congrArg some (by kernel_rfl))⟩
  f23 := ⟨Tryz.f239.name, by decide, Tryz.func239.trans (congrArg some (by kernel_rfl))⟩
  f24 := ⟨Tryz.f240.name, by decide, Tryz.func240.trans (congrArg some (by kernel_rfl))⟩
  f25 := ⟨Tryz.f241.name, by decide, Tryz.func241.trans (congrArg some (by kernel_rfl))⟩
  f26 := ⟨Tryz.f242.name, by decide, Tryz.func242.trans (congrArg some (by kernel_rfl))⟩
  f27 := ⟨Tryz.f243.name, by decide, Tryz.func243.trans (congrArg some (by kernel_rfl))⟩
  f28 := Tryz.func232.trans (congrArg some (by kernel_rfl))
  f29 := Tryz.func233.trans (congrArg some (by kernel_rfl))
  f46 := ⟨Tryz.f254.name, by decide, Tryz.func254.trans (congrArg some (by kernel_rfl))⟩
  f47 := Tryz.func250.trans (congrArg some (by kernel_rfl))
  f48 := Tryz.func251.trans (congrArg some (by kernel_rfl))
  f49 := ⟨Tryz.f255.name, by decide, Tryz.func255.trans (congrArg some (by kernel_rfl))⟩
  f50 := ⟨Tryz.f256.name, by decide, Tryz.func256.trans (congrArg some (by kernel_rfl))⟩
  f57 := ⟨Tryz.f259.name, by decide, Tryz.func259.trans (congrArg some (by kernel_rfl))⟩
  t0 := Tryz.underlying0
  a0 := Tryz.isAgg0
  z0 := Tryz.sizeOf0
  v0 := Tryz.zeroValue0
  t3 := Tryz.underlying3
  a3 := Tryz.isAgg3
  z3 := Tryz.sizeOf3
  v3 := Tryz.zeroValue3
  t4 := Tryz.underlying4
  a4 := Tryz.isAgg4
  z4 := Tryz.sizeOf4
  v4 := Tryz.zeroValue4
  t5 := Tryz.underlying5
  a5 := Tryz.isAgg5
  z5 := Tryz.sizeOf5
  v5 := Tryz.zeroValue5
  t9 := Tryz.underlying9
  a9 := Tryz.isAgg9
  z9 := Tryz.sizeOf9
  v9 := Tryz.zeroValue9
  t22 := Tryz.underlying169
  a22 := Tryz.isAgg169
  z22 := Tryz.sizeOf169
  v22 := Tryz.zeroValue169
  t25 := Tryz.underlying204
  a25 := Tryz.isAgg204
  z25 := Tryz.sizeOf204
  v25 := Tryz.zeroValue204
  t39 := Tryz.underlying224
  a39 := Tryz.isAgg224
  z39 := Tryz.sizeOf224
  v39 := Tryz.zeroValue224
  t45 := Tryz.underlying248
  a45 := Tryz.isAgg248
  z45 := Tryz.sizeOf248
  v45 := Tryz.zeroValue248
  t46 := Tryz.underlying249
  a46 := Tryz.isAgg249
  z46 := Tryz.sizeOf249
  v46 := Tryz.zeroValue249
  t50 := Tryz.underlying238
  a50 := Tryz.isAgg238
  z50 := Tryz.sizeOf238
  v50 := Tryz.zeroValue238
  t53 := Tryz.underlying256
  a53 := Tryz.isAgg256
  z53 := Tryz.sizeOf256
  v53 := Tryz.zeroValue256
  t55 := Tryz.underlying258
  a55 := Tryz.isAgg258
  z55 := Tryz.sizeOf258
  v55 := Tryz.zeroValue258
  t66 := Tryz.underlying270
  a66 := Tryz.isAgg270
  z66 := Tryz.sizeOf270
  v66 := Tryz.zeroValue270
  t70 := Tryz.underlying274
  a70 := Tryz.isAgg274
  z70 := Tryz.sizeOf274
  v70 := Tryz.zeroValue274
  t76 := Tryz.underlying279
  a76 := Tryz.isAgg279
  z76 := Tryz.sizeOf279
  v76 := Tryz.zeroValue279
  t77 := Tryz.underlying280
  a77 := Tryz.isAgg280
  z77 := Tryz.sizeOf280
  v77 := Tryz.zeroValue280 }
end Go.Proofs
