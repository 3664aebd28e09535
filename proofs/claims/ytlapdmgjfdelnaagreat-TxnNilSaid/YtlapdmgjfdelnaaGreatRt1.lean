/- What the laws need, part 1: The plain types of the program's data, and how they lie in memory. No condition. Slices that a call makes itself, as lists of plain data; append onto them. No condition. Own lists whose elements lead into memory: the blocks they lead to are told by a predicate. No condition. Changes and views, as plain data, and how they lie in memory. No condition. The small functions: tests of dots, keys, entries, numbers; comparisons. No condition. cmp.Or at two ints, dot.Compare; tree.entries. No condition. tree.entries: are entries as they should? No condition. tree.right, tree.Right. No condition. tributaryref08.below, Leaves. No condition but that there are not too many. tributaryref07.Part, tributaryref06.Has, tributaryref07.Has. No condition but that there are not too many. tributaryref06.Has, next, ends; tributaryref07.spans. No condition but that there are not too many, and that numbers are right. tree.all, tree.Right. No condition but that there are not too many. span.Right. No condition. tree.Right. No condition. tributaryref10.One. No condition. The last operation of a region that waits for all others comes last. No condition. context.parts.whole. No condition but that there are not too many. tributaryref07.Has. No condition but that there are not too many. tributaryref08.room, Small. No condition. tributaryref08.right, Right. No condition. tree.deep: how many levels a tree has. Condition: not more than a thousand. A small tree has few entries and kids. No condition. tributaryref10.Sum. No condition. counter.Value. No condition. '!=' at spans and entries; tributaryref07.Same, tributaryref10.Alike. No condition. tributaryref08.Under. No condition but that there are not too many. -/
import Derived.BigQuiet
import Derived.Deep.DeepCutAuto
import Derived.Deep.Draws
import Derived.Deep.RegionHeld3
import Derived.Handy
import Derived.Laws.AppendOwnNone
import Derived.Laws.StructEq
import Derived.Maps.AppendAt
import Derived.WalkKit
import Derived.WalkLawsBesides
import Derived.Test.YtlapdmgjfdelnaaGreatProg
namespace Go.Proofs.YtlapdmgjfdelnaaGreat
open Go.RowKit

theorem hid {p : Prop} (h : p) : Hid p := h

theorem ret_int {k : IntKind} {a b : Int} (h : a = b) : Ending.returned (.int k a) = .returned (.int k b) := by rw [h]
theorem ret_bool {a b : Bool} (h : a = b) : Ending.returned (.bool a) = .returned (.bool b) := by rw [h]

/-- A number that fits an int64. -/
def I64 (n : Int) : Prop := -9223372036854775808 ≤ n ∧ n ≤ 9223372036854775807
/-- The greatest length of a list. -/
def Big : Nat := 140737488355328

structure Dt where
  dc : Int
  n : Int
  deriving DecidableEq, Inhabited
structure En where
  dc : Int
  n : Int
  s : ByteArray
  v : Int
  deriving DecidableEq, Inhabited
structure Sp where
  dc : Int
  fr : Int
  hi : Int
  deriving DecidableEq, Inhabited
inductive Tr where
  | mk (es : List En) (ks : List (ByteArray × Tr))

abbrev Kd := ByteArray × Tr

theorem Tr.ind {P : Tr → Prop} (h : ∀ es ks, (∀ k t, (k, t) ∈ ks → P t) → P (.mk es ks)) (t : Tr) : P t :=
  Tr.rec (motive_1 := P) (motive_2 := fun l => ∀ k t, (k, t) ∈ l → P t) (motive_3 := fun p => P p.2)
    (fun es ks hk => h es ks hk) (fun _ _ hk => by cases hk)
    (fun hd tl h1 h2 k t hk => by
      rcases List.mem_cons.1 hk with e | e
      · subst e; exact h1
      · exact h2 k t e) (fun _ _ h1 => h1) t

def Tr.es : Tr → List En | .mk es _ => es
def Tr.ks : Tr → List Kd | .mk _ ks => ks
instance : Inhabited Tr := ⟨.mk [] []⟩

structure Ca where
  t : Tr
  c : List Sp

def En.dot (e : En) : Dt := ⟨e.dc, e.n⟩
structure Dt.Ok (d : Dt) : Prop where
  dc : I64 d.dc
  n : I64 d.n
structure En.Ok (e : En) : Prop where
  dc : I64 e.dc
  n : I64 e.n
  v : I64 e.v
  s : e.s.size ≤ Big
structure Sp.Ok (e : Sp) : Prop where
  dc : I64 e.dc
  fr : I64 e.fr
  hi : I64 e.hi

/-- A slice value that holds the list xs, an element in sz cells; E says how an element lies in its cells. -/
def SlP {α : Type} (w : World) (B sz : Nat) (E : α → List Value → Prop) (v : Value) (xs : List α) : Prop :=
  ∃ A c, v = .slice A xs.length c ∧ xs.length ≤ c ∧ xs.length ≤ Big ∧
    (xs ≠ [] → ∃ b off, A = some ⟨b, off, none⟩ ∧ b < B ∧ ∀ j x, xs[j]? = some x → ∃ cs, E x cs ∧ cs.length = sz ∧ ∀ i u, cs[i]? = some u → w.cell? ⟨b, off + j * sz + i, none⟩ = some u)

theorem SlP.imp {α : Type} {w w' : World} {B B' sz : Nat} {E E' : α → List Value → Prop} {v : Value} {xs : List α} (h : SlP w B sz E v xs) (hb : Below B w w') (hB : B ≤ B')
    (hE : ∀ x ∈ xs, ∀ cs, E x cs → E' x cs) : SlP w' B' sz E' v xs := by
  obtain ⟨A, c, rfl, h1, h2, h3⟩ := h
  refine ⟨A, c, rfl, h1, h2, fun hn => ?_⟩
  obtain ⟨b, off, rfl, hlt, hc⟩ := h3 hn
  refine ⟨b, off, rfl, by omega, fun j x hx => ?_⟩
  obtain ⟨cs, he, hl, hu⟩ := hc j x hx
  exact ⟨cs, hE x (List.mem_of_getElem? hx) cs he, hl, fun i u hi => (hb.cell (p := ⟨b, off + j * sz + i, none⟩) hlt).trans (hu i u hi)⟩

theorem SlP.nil {α : Type} {w : World} {B sz : Nat} {E : α → List Value → Prop} : SlP w B sz E (.slice none 0 0) [] :=
  ⟨none, 0, rfl, Nat.le_refl _, by simp, fun h => absurd rfl h⟩

def DtE (d : Dt) (cs : List Value) : Prop := cs = [.int .i64 d.dc, .int .i64 d.n] ∧ d.Ok
def EnE (e : En) (cs : List Value) : Prop := cs = [.int .i64 e.dc, .int .i64 e.n, .string e.s, .int .i64 e.v] ∧ e.Ok
def SpE (e : Sp) (cs : List Value) : Prop := cs = [.int .i64 e.dc, .int .i64 e.fr, .int .i64 e.hi] ∧ e.Ok
def StE (s : ByteArray) (cs : List Value) : Prop := cs = [.string s] ∧ s.size ≤ Big
def InE (n : Int) (cs : List Value) : Prop := cs = [.int .i64 n] ∧ I64 n
def RuE (r : Int × Int) (cs : List Value) : Prop := cs = [.int .i64 r.1, .int .i64 r.2] ∧ I64 r.1 ∧ I64 r.2

mutual
/-- The tree t lies in memory: its entries' slice, its kids' slice. -/
def Tr.rd (w : World) (B : Nat) : Tr → Value → Value → Prop
  | .mk es ks, ve, vk => SlP w B 4 EnE ve es ∧ ∃ A c, vk = .slice A ks.length c ∧ ks.length ≤ c ∧ ks.length ≤ Big ∧
      (ks ≠ [] → ∃ b off, A = some ⟨b, off, none⟩ ∧ b < B ∧ Tr.rdL w B b off ks)
def Tr.rdL (w : World) (B : Nat) (b : Nat) : Nat → List (ByteArray × Tr) → Prop
  | _, [] => True
  | off, (k, t) :: ks => (∃ ve vk, k.size ≤ Big ∧ w.cell? ⟨b, off, none⟩ = some (.string k) ∧ w.cell? ⟨b, off + 1, none⟩ = some ve ∧ w.cell? ⟨b, off + 2, none⟩ = some vk ∧ t.rd w B ve vk) ∧ Tr.rdL w B b (off + 3) ks
end

def KdE (w : World) (B : Nat) (p : Kd) (cs : List Value) : Prop := ∃ ve vk, cs = [.string p.1, ve, vk] ∧ p.1.size ≤ Big ∧ p.2.rd w B ve vk

theorem rdL_iff {w : World} {B b : Nat} : ∀ (ks : List Kd) (off : Nat), Tr.rdL w B b off ks ↔
    ∀ (j : Nat) (x : Kd), ks[j]? = some x → ∃ cs, KdE w B x cs ∧ cs.length = 3 ∧ ∀ i u, cs[i]? = some u → w.cell? ⟨b, off + j * 3 + i, none⟩ = some u
  | [], off => by simp [Tr.rdL]
  | (k, t) :: ks, off => by
    rw [Tr.rdL, rdL_iff ks (off + 3)]
    constructor
    · rintro ⟨⟨ve, vk, h0, h1, h2, h3, h4⟩, h5⟩ j x hx
      match j, hx with
      | 0, hx =>
        simp at hx; subst hx
        refine ⟨[.string k, ve, vk], ⟨ve, vk, rfl, h0, h4⟩, rfl, fun i u hi => ?_⟩
        match i, hi with
        | 0, hi => simp at hi; subst hi; simpa using h1
        | 1, hi => simp at hi; subst hi; simpa using h2
        | 2, hi => simp at hi; subst hi; simpa using h3
        | i + 3, hi => simp at hi
      | j + 1, hx =>
        obtain ⟨cs, a1, a2, a3⟩ := h5 j x (by simpa using hx)
        refine ⟨cs, a1, a2, fun i u hi => ?_⟩
        rw [← a3 i u hi]; congr 2; omega
    · intro h
      refine ⟨?_, fun j x hx => ?_⟩
      · obtain ⟨cs, ⟨ve, vk, rfl, h0, h4⟩, _, h3⟩ := h 0 (k, t) rfl
        exact ⟨ve, vk, h0, by simpa using h3 0 _ rfl, by simpa using h3 1 _ rfl, by simpa using h3 2 _ rfl, h4⟩
      · obtain ⟨cs, a1, a2, a3⟩ := h (j + 1) x (by simpa using hx)
        refine ⟨cs, a1, a2, fun i u hi => ?_⟩
        rw [← a3 i u hi]; congr 2; omega

theorem rd_iff {w : World} {B : Nat} {es : List En} {ks : List Kd} {ve vk : Value} : (Tr.mk es ks).rd w B ve vk ↔ SlP w B 4 EnE ve es ∧ SlP w B 3 (KdE w B) vk ks := by
  rw [Tr.rd]
  refine and_congr Iff.rfl ⟨?_, ?_⟩
  · rintro ⟨A, c, rfl, h1, h2, h3⟩
    refine ⟨A, c, rfl, h1, h2, fun hn => ?_⟩
    obtain ⟨b, off, rfl, hb, hl⟩ := h3 hn
    exact ⟨b, off, rfl, hb, (rdL_iff ks off).1 hl⟩
  · rintro ⟨A, c, rfl, h1, h2, h3⟩
    refine ⟨A, c, rfl, h1, h2, fun hn => ?_⟩
    obtain ⟨b, off, rfl, hb, hl⟩ := h3 hn
    exact ⟨b, off, rfl, hb, (rdL_iff ks off).2 hl⟩

theorem rd_below {w w' : World} {B B' : Nat} (hb : Below B w w') (hB : B ≤ B') (t : Tr) : ∀ ve vk, t.rd w B ve vk → t.rd w' B' ve vk := by
  induction t using Tr.ind with
  | h es ks ih =>
    intro ve vk h
    rw [rd_iff] at h ⊢
    refine ⟨h.1.imp hb hB fun _ _ _ h => h, h.2.imp hb hB ?_⟩
    rintro ⟨k, t⟩ hx cs ⟨ve, vk, rfl, h0, h1⟩
    exact ⟨ve, vk, rfl, h0, ih k t hx ve vk h1⟩

theorem rd_shape {w : World} {B : Nat} {t : Tr} {ve vk : Value} (h : t.rd w B ve vk) : ∃ A n A' m, ve = .slice A t.es.length n ∧ vk = .slice A' t.ks.length m := by
  obtain ⟨es, ks⟩ := t
  rw [rd_iff] at h
  obtain ⟨⟨A, n, h1, _⟩, ⟨A', m, h2, _⟩⟩ := h
  exact ⟨A, n, A', m, h1, h2⟩
theorem rd_empty {w : World} {B : Nat} : (Tr.mk [] []).rd w B (.slice none 0 0) (.slice none 0 0) := rd_iff.2 ⟨SlP.nil, SlP.nil⟩

mutual
/-- No list of the tree is too long for a machine. -/
def Tr.Fit : Tr → Prop
  | .mk es ks => es.length ≤ Big ∧ ks.length ≤ Big ∧ Tr.FitL ks
def Tr.FitL : List (ByteArray × Tr) → Prop
  | [] => True
  | (_, t) :: ks => t.Fit ∧ Tr.FitL ks
end
theorem fitL_of : ∀ (ks : List Kd), (∀ k t, (k, t) ∈ ks → t.Fit) → Tr.FitL ks
  | [], _ => trivial
  | (k, t) :: ks, h => ⟨h k t (by simp), fitL_of ks fun k' t' hk => h k' t' (by simp [hk])⟩
theorem fit_rd {w : World} {B : Nat} (t : Tr) : ∀ ve vk, t.rd w B ve vk → t.Fit := by
  induction t using Tr.ind with
  | h es ks ih =>
    intro ve vk h
    rw [rd_iff] at h
    obtain ⟨⟨_, _, _, _, b1, _⟩, ⟨_, _, _, _, b2, h3⟩⟩ := h
    refine ⟨b1, b2, fitL_of ks fun k t hk => ?_⟩
    obtain ⟨j, hj⟩ := List.getElem?_of_mem hk
    obtain ⟨_, _, _, _, h4⟩ := h3 (List.ne_nil_of_mem hk)
    obtain ⟨cs, ⟨ve, vk, _, _, h5⟩, _⟩ := h4 j _ hj
    exact ih k t hk ve vk h5

/-- A causal lies in memory. -/
def Ca.rd (w : World) (B : Nat) (x : Ca) (ve vk vc : Value) : Prop := x.t.rd w B ve vk ∧ SlP w B 3 SpE vc x.c

theorem bcell {W w1 : World} (hb : Below W.heap.size W w1) : (∀ b o, b < W.heap.size → w1.cell? ⟨b, o, none⟩ = W.cell? ⟨b, o, none⟩) ∧ (∀ b o, b < W.heap.size → w1.frozen? ⟨b, o, none⟩ = W.frozen? ⟨b, o, none⟩) :=
  ⟨fun b o h => hb.cell (p := ⟨b, o, none⟩) h, fun b o h => hb.frozen (p := ⟨b, o, none⟩) h⟩

/-- A world that has come of w by growth above B alone. -/
structure Far (B : Nat) (w : World) where
  w' : World
  h : Below B w w'
instance Far.some (B : Nat) (w : World) : Inhabited (Far B w) := ⟨⟨w, Below.refl B w⟩⟩
theorem wp_region_far (B : Nat) {P : Program} {id : Nat} {Q : Exit → Act → World → Prop} {a : Act} {w : World} {l : List Oper} (hm : P.follows .mixedOrders = true) (hB : Region.lexB .any l.toArray = true)
    (h : wpQuiet P l.toArray (fun w' => ∃ p : Far B w, w' = p.w') (fun a' => ∀ w', Below B w w' → Q .normal a' w') l a) : (Code.region id l.toArray true).wp P Q a w := by
  refine wp_region_quiet (C := fun w' => ∃ p : Far B w, w' = p.w') hm hB ⟨⟨_, (Below.refl B w).drew⟩, rfl⟩ ?_
  have e : (fun a' => ∀ w', (∃ p : Far B w, w' = p.w') → Q .normal a' w') = (fun a' => ∀ w', Below B w w' → Q .normal a' w') := by
    funext a'
    exact propext ⟨fun hh w' hb => hh w' ⟨⟨w', hb⟩, rfl⟩, fun hh w' ⟨p, hp⟩ => hh w' (hp ▸ p.h)⟩
  rw [e]
  simpa using h
theorem Calls.far_of {P : Program} {f : FuncId} {args : Array Value} {B : Nat} {w : World} {p : Far B w} {v : Value} (hB : B ≤ w.heap.size)
    (h : Calls P f args p.w' fun e w' => e = .returned v ∧ Below p.w'.heap.size p.w' w') : Calls P f args p.w' fun e w'' => e = .returned v ∧ ∃ q : Far B w, w'' = q.w' :=
  h.mono fun _ w'' ⟨he, hb⟩ => ⟨he, ⟨w'', p.h.trans (hb.mono (Nat.le_trans hB p.h.size))⟩, rfl⟩
theorem Calls.far_all {P : Program} {f : FuncId} {args : Array Value} {B : Nat} {w : World} {p : Far B w} {v : Value} (hB : B ≤ w.heap.size)
    (h : ∀ w1, Below B w w1 → Calls P f args w1 fun e w' => e = .returned v ∧ Below w1.heap.size w1 w') : Calls P f args p.w' fun e w'' => e = .returned v ∧ ∃ q : Far B w, w'' = q.w' :=
  Calls.far_of hB (h p.w' p.h)
theorem far_cell {B : Nat} {w : World} {b o : Nat} {v : Value} (h : w.cell? ⟨b, o, none⟩ = some v) (hb : b < B) (p : Far B w) : p.w'.cell? ⟨b, o, none⟩ = some v := (p.h.cell (p := ⟨b, o, none⟩) hb).trans h
theorem eq_same {P : Program} {f : FuncId} {args : Array Value} {w : World} {v : Value} (h : Calls P f args w fun e w' => e = .returned v ∧ w = w') : Calls P f args w fun e w' => e = .returned v ∧ Below w.heap.size w w' :=
  h.mono fun _ _ ⟨he, hw⟩ => ⟨he, hw ▸ Below.refl _ _⟩

theorem drop_cons {α : Type} {xs : List α} {k : Nat} {x : α} (h : xs[k]? = some x) : xs.drop k = x :: xs.drop (k + 1) := by
  obtain ⟨hlt, hx⟩ := List.getElem?_eq_some_iff.1 h
  rw [List.drop_eq_getElem_cons hlt, hx]

end Go.Proofs.YtlapdmgjfdelnaaGreat

namespace Go.Proofs.YtlapdmgjfdelnaaGreat
open Go.RowKit

theorem flat_at {sz : Nat} : ∀ (css : List (List Value)), (∀ cs ∈ css, cs.length = sz) → ∀ j i, i < sz → css.flatten[j * sz + i]? = (css[j]?).bind (·[i]?)
  | [], _, j, i, _ => by simp
  | cs :: css, h, j, i, hi => by
    have hl : cs.length = sz := h cs (by simp)
    match j with
    | 0 => simp [List.getElem?_append_left (show i < cs.length by omega)]
    | j + 1 =>
      rw [List.flatten_cons, List.getElem?_append_right (by rw [hl, Nat.add_mul]; omega), show (j + 1) * sz + i - cs.length = j * sz + i by rw [hl, Nat.add_mul]; omega, flat_at css (fun c hc => h c (by simp [hc])) j i hi]
      simp
theorem flat_len {sz : Nat} : ∀ (css : List (List Value)), (∀ cs ∈ css, cs.length = sz) → css.flatten.length = css.length * sz
  | [], _ => by simp
  | cs :: css, h => by
    rw [List.flatten_cons, List.length_append, h cs (by simp), flat_len css (fun c hc => h c (by simp [hc])), List.length_cons, Nat.add_mul]; omega

/-- css are the cells of the list xs, element by element. -/
def Encs {α : Type} (sz : Nat) (E : α → List Value → Prop) (xs : List α) (css : List (List Value)) : Prop :=
  css.length = xs.length ∧ ∀ (j : Nat) x, xs[j]? = some x → ∃ cs, css[j]? = some cs ∧ E x cs ∧ cs.length = sz
theorem Encs.len {α : Type} {sz : Nat} {E : α → List Value → Prop} {xs : List α} {css : List (List Value)} (h : Encs sz E xs css) : ∀ cs ∈ css, cs.length = sz := fun cs hcs => by
  obtain ⟨j, hj⟩ := List.getElem?_of_mem hcs
  have hlt : j < xs.length := by rw [← h.1]; exact (List.getElem?_eq_some_iff.1 hj).1
  obtain ⟨c, hc, _, hl⟩ := h.2 j _ (List.getElem?_eq_getElem hlt)
  rw [hj] at hc; cases hc; exact hl
theorem Encs.app {α : Type} {sz : Nat} {E : α → List Value → Prop} {xs ys : List α} {css dss : List (List Value)} (h : Encs sz E xs css) (k : Encs sz E ys dss) : Encs sz E (xs ++ ys) (css ++ dss) := by
  refine ⟨by simp [h.1, k.1], fun j x hx => ?_⟩
  rw [List.getElem?_append] at hx ⊢
  rw [h.1]
  split at hx
  · rename_i hlt; rw [if_pos hlt]; exact h.2 j x hx
  · rename_i hlt; rw [if_neg hlt]; exact k.2 _ x hx

def OwnP {α : Type} (w : World) (base : Nat) (e : TypeId) (sz : Nat) (E : α → List Value → Prop) (v : Value) (xs : List α) : Prop :=
  ∃ css, Encs sz E xs css ∧ w.ownsRow base e sz v xs.length css.flatten

section
variable {α : Type} {w w' : World} {base : Nat} {e : TypeId} {sz : Nat} {E : α → List Value → Prop} {v : Value} {xs ys : List α}
theorem OwnP.nil : OwnP w base e sz E (.slice none 0 0) ([] : List α) := ⟨[], ⟨rfl, fun j x h => by simp at h⟩, World.ownsRow_nil w base e sz⟩
theorem OwnP.keep (h : OwnP w base e sz E v xs) (hk : ∀ g, v.ownBlock = some g → w'.heap[g]? = w.heap[g]?) : OwnP w' base e sz E v xs := by
  obtain ⟨css, h1, h2, h3⟩ := h
  refine ⟨css, h1, h2, ?_⟩
  rcases h3 with h3 | ⟨g, cap, cur, rfl, hb, hg, r⟩
  · exact .inl h3
  · exact .inr ⟨g, cap, cur, rfl, hb, by rw [hk g rfl]; exact hg, r⟩
theorem OwnP.grow (h : OwnP w base e sz E v xs) (hb : Below w.heap.size w w') : OwnP w' base e sz E v xs := by
  refine h.keep fun g hg => hb.block g ?_
  obtain ⟨_, _, h2⟩ := h
  exact (h2.lt g hg).2
theorem OwnP.alloc (h : OwnP w base e sz E v xs) (o : Obj) : OwnP (w.alloc o) base e sz E v xs := h.grow ((Below.refl _ w).alloc (Nat.le_refl _) o)
theorem OwnP.drew (h : OwnP w base e sz E v xs) : OwnP w.drew base e sz E v xs := h
theorem OwnP.imp {E' : α → List Value → Prop} (h : OwnP w base e sz E v xs) (hE : ∀ x ∈ xs, ∀ cs, E x cs → E' x cs) : OwnP w base e sz E' v xs := by
  obtain ⟨css, ⟨h1, h2⟩, h3⟩ := h
  refine ⟨css, ⟨h1, fun j x hx => ?_⟩, h3⟩
  obtain ⟨cs, a, b, c⟩ := h2 j x hx
  exact ⟨cs, a, hE x (List.mem_of_getElem? hx) cs b, c⟩
theorem OwnP.sl (h : OwnP w base e sz E v xs) (hl : xs.length ≤ Big) : SlP w w.heap.size sz E v xs := by
  obtain ⟨css, h1, h2, h3⟩ := h
  rcases h3 with ⟨rfl, hn⟩ | ⟨g, cap, cur, rfl, hb, hg, hn, hm, hc, ht⟩
  · have hx : xs = [] := List.eq_nil_of_length_eq_zero hn
    subst hx; exact SlP.nil
  · refine ⟨_, cap, rfl, hn, hl, fun _ => ⟨g, 0, rfl, (Array.getElem?_eq_some_iff.1 hg).1, fun j x hx => ?_⟩⟩
    obtain ⟨cs, a, b, c⟩ := h1.2 j x hx
    refine ⟨cs, b, c, fun i u hi => ?_⟩
    have hlt : i < sz := by rw [← c]; exact (List.getElem?_eq_some_iff.1 hi).1
    have hf : css.flatten[j * sz + i]? = some u := by rw [flat_at css h1.len j i hlt, a]; exact hi
    rw [Nat.zero_add, cell_of_row w g (j * sz + i) cur e (0, 0) hg]
    rw [← ht, List.getElem?_take] at hf
    split at hf
    · simpa using hf
    · cases hf
theorem OwnP.lt (h : OwnP w base e sz E v xs) : ∀ g, v.ownBlock = some g → base ≤ g ∧ g < w.heap.size := by
  obtain ⟨_, _, h2⟩ := h
  exact fun g hg => h2.lt g hg
end

/-- What the table says of a slice type and its elements. -/
def ElemInfo (P : Program) (t e : TypeId) (sz bytes : Nat) : Prop :=
  ∃ i z, P.underlying t = some (.slice e) ∧ P.info? e = some i ∧ i.zero = some z ∧ i.size = sz ∧ i.bytes = bytes ∧ z.cells.size = sz
theorem ElemInfo.mk {P : Program} {t e : TypeId} {sz bytes : Nat} {z : Value} (h1 : P.underlying t = some (.slice e)) (h2 : (P.info? e).map (fun i => (i.zero, i.size, i.bytes)) = some (some z, sz, bytes)) (h3 : z.cells.size = sz) : ElemInfo P t e sz bytes := by
  obtain ⟨i, a, b, c, d⟩ := info_parts h2
  exact ⟨i, z, h1, a, b, c, d, h3⟩

/-- The list of one element in a block of its own. -/
theorem SlP.one {α : Type} {w : World} {sz n : Nat} {E : α → List Value → Prop} {x : α} {cs : List Value} (hE : E x cs) (hl : cs.length = sz) (e : TypeId) (hn : n = w.heap.size) :
    SlP (w.alloc (.cells cs.toArray e)) (n + 1) sz E (.slice (some ⟨n, 0, none⟩) 1 1) [x] := by
  subst hn
  refine ⟨_, 1, rfl, Nat.le_refl _, by simp [Big], fun _ => ⟨_, 0, rfl, by omega, fun j y hy => ?_⟩⟩
  match j, hy with
  | 0, hy =>
    simp at hy; subst hy
    exact ⟨cs, hE, hl, fun i u hi => by simpa using hi⟩

theorem run_app {α : Type} {P : Program} {w : World} {t ty e : TypeId} {sz bytes base B : Nat} {E : α → List Value → Prop} {v sv : Value} {xs ys : List α} (hi : ElemInfo P t e sz bytes) (hsz : 0 < sz)
    (hone : ∀ x cs, E x cs → ∀ u ∈ cs, u.oneCell' = true) (hown : OwnP w base e sz E v xs) (hys : SlP w B sz E sv ys) (hb : (xs.length + ys.length) * bytes ≤ 140737488355328) (hl : xs.length + ys.length ≤ Big) (hbase : base ≤ w.heap.size) :
    ∃ v' w', (Builtin.append_ #[t, t] ty #[v, sv]).run P w = .ok v' w' ∧ OwnP w' base e sz E v' (xs ++ ys) ∧ w.grownBy w' v.ownBlock ∧ (v'.ownBlock = v.ownBlock ∨ v'.ownBlock = some w.heap.size) := by
  obtain ⟨i, z, ht, hi, hz, hs, hby, hzs⟩ := hi
  obtain ⟨css, h1, h2⟩ := hown
  obtain ⟨A, c, rfl, c1, c2, c3⟩ := hys
  unfold Big at hl
  cases ys with
  | nil =>
    cases A with
    | none =>
      have hc : (Builtin.append_ #[t, t] ty #[v, .slice none 0 c]).run P w = .ok v w := by
        rcases h2.2 with ⟨rfl, _⟩ | ⟨g, cap, cur, rfl, _, _, hnc, _⟩
        · simp [Builtin.append_, run_underlying ht, Go.sizeOf, typeInfo, hi, Builtin.lenOf, Builtin.firstCells]
        · simp [Builtin.append_, run_underlying ht, Go.sizeOf, typeInfo, hi, Builtin.lenOf, Builtin.firstCells, hnc, storeCells]
      exact ⟨v, w, hc, by rw [List.append_nil]; exact ⟨css, h1, h2⟩, World.grownBy.refl _ _, .inl rfl⟩
    | some ad =>
      obtain ⟨v', w', r1, r2, r3, _, r4⟩ := run_append_own_at (P := P) w base t ty e i z sz bytes ht hi hz hs hby hzs hsz v xs.length css.flatten h2 ad 0 c [] (by simp) (fun j u hu => by simp at hu) (fun u hu => by cases hu) (by simp only [maxLen, List.length_nil] at *; omega) (by simpa using hb) hbase
      exact ⟨v', w', r1, by rw [List.append_nil]; exact ⟨css, h1, by simpa using r2⟩, r3, r4⟩
  | cons y ys =>
    obtain ⟨b, off, rfl, hlt, hc⟩ := c3 (by simp)
    have hd : ∀ (j : Nat), j < (y :: ys).length → ∃ cs, (∃ x, (y :: ys)[j]? = some x ∧ E x cs) ∧ cs.length = sz ∧ ∀ i u, cs[i]? = some u → w.cell? ⟨b, off + j * sz + i, none⟩ = some u := fun j hj => by
      obtain ⟨cs, a1, a2, a3⟩ := hc j _ (List.getElem?_eq_getElem hj)
      exact ⟨cs, ⟨_, List.getElem?_eq_getElem hj, a1⟩, a2, a3⟩
    have hds : ∃ dss : List (List Value), Encs sz E (y :: ys) dss ∧ ∀ (j : Nat) cs, dss[j]? = some cs → ∀ i u, cs[i]? = some u → w.cell? ⟨b, off + j * sz + i, none⟩ = some u := by
      classical
      refine ⟨(List.range (y :: ys).length).map fun j => if hj : j < (y :: ys).length then Classical.choose (hd j hj) else [], ⟨by simp, fun j x hx => ?_⟩, fun j cs hj => ?_⟩
      · have hj := (List.getElem?_eq_some_iff.1 hx).1
        refine ⟨_, by rw [List.getElem?_map, List.getElem?_range hj]; rfl, ?_⟩
        simp only [dif_pos hj]
        obtain ⟨⟨x', e1, e2⟩, e3, _⟩ := Classical.choose_spec (hd j hj)
        rw [hx] at e1; cases e1
        exact ⟨e2, e3⟩
      · have hlt := (List.getElem?_eq_some_iff.1 hj).1
        simp only [List.length_map, List.length_range] at hlt
        rw [List.getElem?_map, List.getElem?_range hlt] at hj
        simp only [Option.map_some, dif_pos hlt, Option.some.injEq] at hj
        subst hj
        exact (Classical.choose_spec (hd j hlt)).2.2
    obtain ⟨dss, k1, k2⟩ := hds
    have hfl := flat_len dss k1.len
    obtain ⟨v', w', r1, r2, r3, _, r4⟩ := run_append_own_at (P := P) w base t ty e i z sz bytes ht hi hz hs hby hzs hsz v xs.length css.flatten h2 ⟨b, off, none⟩ (y :: ys).length c dss.flatten (by rw [hfl, k1.1]) (fun j u hu => by
      have hj : j < (y :: ys).length * sz := by rw [← k1.1, ← hfl]; exact (List.getElem?_eq_some_iff.1 hu).1
      have hm : j % sz < sz := Nat.mod_lt _ hsz
      have hdj : j = j / sz * sz + j % sz := by rw [Nat.mul_comm]; exact (Nat.div_add_mod j sz).symm
      rw [hdj, flat_at dss k1.len _ _ hm] at hu
      obtain ⟨cs, hcs, hu⟩ := Option.bind_eq_some_iff.1 hu
      rw [Addr.add_lit, hdj, ← Nat.add_assoc]
      exact k2 _ cs hcs _ u hu) (fun u hu => by
      obtain ⟨cs, hcs, hu⟩ := List.mem_flatten.1 hu
      obtain ⟨j, hj⟩ := List.getElem?_of_mem hcs
      have hlt : j < (y :: ys).length := by rw [← k1.1]; exact (List.getElem?_eq_some_iff.1 hj).1
      obtain ⟨c, hc, he, _⟩ := k1.2 j _ (List.getElem?_eq_getElem hlt)
      rw [hj] at hc; cases hc
      exact hone _ _ he u hu) (by simp only [maxLen] at *; omega) hb hbase
    refine ⟨v', w', r1, ⟨css ++ dss, h1.app k1, ?_⟩, r3, r4⟩
    rw [List.flatten_append, List.length_append]
    exact r2

theorem wpList_app {α : Type} {P : Program} {ops : Array Oper} {rest : List Oper} {o : Oper} {a : Act} {Q : Exit → Act → World → Prop} {w : World} (hg : o.guard = none) (s x : Operand) (t : TypeId)
    (hop : o.op = .call { callee := .builtin .append, args := #[s, x], argTypes := #[t, t] }) {e : TypeId} {sz bytes base B : Nat} {E : α → List Value → Prop} {v sv : Value} {xs ys : List α} (hi : ElemInfo P t e sz bytes) (hsz : 0 < sz)
    (hone : ∀ x cs, E x cs → ∀ u ∈ cs, u.oneCell' = true) (hs : a.eval s = v) (hown : OwnP w base e sz E v xs) (hx : a.eval x = sv) (hys : SlP w B sz E sv ys) (hb : (xs.length + ys.length) * bytes ≤ 140737488355328) (hl : xs.length + ys.length ≤ Big) (hbase : base ≤ w.heap.size)
    (h : ∀ v' w', OwnP w' base e sz E v' (xs ++ ys) → w.grownBy w' v.ownBlock → (v'.ownBlock = v.ownBlock ∨ v'.ownBlock = some w.heap.size) → wpList P ops Q rest (a.put o.dst v') w') : wpList P ops Q (o :: rest) a w := by
  refine wpList_plain hg fun K hK => ?_
  obtain ⟨v', w', r1, r2, r3, r4⟩ := run_app (P := P) (ty := o.type) hi hsz hone hown hys hb hl hbase
  unfold Oper.wp execOp
  simp only [hop, resolve, invoke, builtin, Sem.run_bind, Sem.run_pure, Result.andThen_ok, List.map_toArray, List.map_cons, List.map_nil, hs, hx, r1]
  exact hK _ _ (h v' w' r2 r3 r4)

theorem OwnP.mono {α : Type} {w : World} {base base' : Nat} {e : TypeId} {sz : Nat} {E : α → List Value → Prop} {v : Value} {xs : List α} (h : OwnP w base e sz E v xs) (hb : base' ≤ base) : OwnP w base' e sz E v xs := by
  obtain ⟨css, h1, h2, h3⟩ := h
  refine ⟨css, h1, h2, ?_⟩
  rcases h3 with h3 | ⟨g, cap, cur, a, b, r⟩
  · exact .inl h3
  · exact .inr ⟨g, cap, cur, a, Nat.le_trans hb b, r⟩

/-- The call hands back a slice of its own that holds xs, and turns nothing that was there. -/
def RetO {α : Type} (w : World) (t : TypeId) (sz : Nat) (E : World → α → List Value → Prop) (xs : List α) (e : Ending) (w' : World) : Prop :=
  ∃ v, e = .returned v ∧ OwnP w' w.heap.size t sz (E w') v xs ∧ Below w.heap.size w w'

/-- The list of two elements in a block of its own. -/
theorem SlP.two {α : Type} {w : World} {sz n : Nat} {E : α → List Value → Prop} {x y : α} {cs ds : List Value} (hE : E x cs) (hF : E y ds) (hl : cs.length = sz) (hl' : ds.length = sz) (e : TypeId) (hn : n = w.heap.size) :
    SlP (w.alloc (.cells (cs ++ ds).toArray e)) (n + 1) sz E (.slice (some ⟨n, 0, none⟩) 2 2) [x, y] := by
  subst hn
  refine ⟨_, 2, rfl, Nat.le_refl _, by simp [Big], fun _ => ⟨_, 0, rfl, by omega, fun j z hz => ?_⟩⟩
  match j, hz with
  | 0, hz =>
    simp at hz; subst hz
    refine ⟨cs, hE, hl, fun i u hi => ?_⟩
    rw [World.cell?_alloc_new]
    have : i < cs.length := (List.getElem?_eq_some_iff.1 hi).1
    simpa [List.getElem?_append_left this] using hi
  | 1, hz =>
    simp at hz; subst hz
    refine ⟨ds, hF, hl', fun i u hi => ?_⟩
    rw [World.cell?_alloc_new]
    simpa [← hl, List.getElem?_append_right (show cs.length ≤ cs.length + i by omega)] using hi

/-- Where there are few. -/
def Few : Nat := 1000000
theorem wpList_few {α : Type} {P : Program} {ops : Array Oper} {rest : List Oper} {o : Oper} {a : Act} {Q : Exit → Act → World → Prop} {w : World} (hg : o.guard = none) (s x : Operand) (t : TypeId)
    (hop : o.op = .call { callee := .builtin .append, args := #[s, x], argTypes := #[t, t] }) {e : TypeId} {sz bytes base B : Nat} {E : α → List Value → Prop} {v sv : Value} {xs ys : List α} (hi : ElemInfo P t e sz bytes) (hsz : 0 < sz) (hby : bytes ≤ 1000)
    (hone : ∀ x cs, E x cs → ∀ u ∈ cs, u.oneCell' = true) (hs : a.eval s = v) (hown : OwnP w base e sz E v xs) (hx : a.eval x = sv) (hys : SlP w B sz E sv ys) (hl : xs.length + ys.length ≤ Few) (hbase : base ≤ w.heap.size)
    (h : ∀ v' w', OwnP w' base e sz E v' (xs ++ ys) → Below base w w' → w.grownBy w' v.ownBlock → wpList P ops Q rest (a.put o.dst v') w') : wpList P ops Q (o :: rest) a w := by
  unfold Few at hl
  refine wpList_app hg s x t hop hi hsz hone hs hown hx hys (Nat.le_trans (Nat.mul_le_mul hl hby) (by omega)) (by unfold Big; omega) hbase fun v' w' h1 h2 _ => h v' w' h1 ((Below.refl base w).grown h2 hbase fun g hg => (hown.lt g hg).1) h2

theorem step_few {α : Type} {P : Program} {ops : Array Oper} {o : Oper} {a : Act} {K : Act → World → Prop} {Q : Exit → Act → World → Prop} {F : Prop} {w : World} (hg : o.guard = none) (s x : Operand) (t : TypeId)
    (hop : o.op = .call { callee := .builtin .append, args := #[s, x], argTypes := #[t, t] }) {e : TypeId} {sz bytes base B : Nat} {E : α → List Value → Prop} {v sv : Value} {xs ys : List α} (hi : ElemInfo P t e sz bytes) (hsz : 0 < sz) (hby : bytes ≤ 1000)
    (hone : ∀ x cs, E x cs → ∀ u ∈ cs, u.oneCell' = true) (hs : a.eval s = v) (hown : OwnP w base e sz E v xs) (hx : a.eval x = sv) (hys : SlP w B sz E sv ys) (hl : xs.length + ys.length ≤ Few) (hbase : base ≤ w.heap.size)
    (h : ∀ v' w', OwnP w' base e sz E v' (xs ++ ys) → Below base w w' → w.grownBy w' v.ownBlock → K (a.put o.dst v') w') :
    if Region.wanted o (yielded ops a.tmps) = true then Oper.wp P o a w K Q else F := by
  have hw : Region.wanted o (yielded ops a.tmps) = true := by simp [Region.wanted, hg]
  rw [if_pos hw]
  unfold Few at hl
  obtain ⟨v', w', r1, r2, r3, r4⟩ := run_app (P := P) (ty := o.type) hi hsz hone hown hys (Nat.le_trans (Nat.mul_le_mul hl hby) (by omega)) (by unfold Big; omega) hbase
  unfold Oper.wp execOp
  simp only [hop, resolve, invoke, builtin, Sem.run_bind, Sem.run_pure, Result.andThen_ok, List.map_toArray, List.map_cons, List.map_nil, hs, hx, r1]
  exact h v' w' r2 ((Below.refl base w).grown r3 hbase fun g hg => (hown.lt g hg).1) r3

theorem OwnP.form {α : Type} {w : World} {base : Nat} {e : TypeId} {sz : Nat} {E : α → List Value → Prop} {v : Value} {xs : List α} (h : OwnP w base e sz E v xs) (hn : xs ≠ []) :
    ∃ g cap, v = .slice (some ⟨g, 0, none⟩) xs.length cap ∧ base ≤ g ∧ g < w.heap.size ∧ (∀ o, w.frozen? ⟨g, o, none⟩ = false) := by
  obtain ⟨css, h1, h2⟩ := h
  rcases h2.2 with ⟨_, hz⟩ | ⟨g, cap, cur, rfl, hb, hg, _⟩
  · exact absurd (List.eq_nil_of_length_eq_zero hz) hn
  · exact ⟨g, cap, rfl, hb, (Array.getElem?_eq_some_iff.1 hg).1, fun o => h2.frozenAt o⟩
theorem OwnP.shape {α : Type} {w : World} {base : Nat} {e : TypeId} {sz : Nat} {E : α → List Value → Prop} {v : Value} {xs : List α} (h : OwnP w base e sz E v xs) : ∃ A cap, v = .slice A xs.length cap := by
  obtain ⟨css, h1, h2⟩ := h
  rcases h2.2 with ⟨rfl, hz⟩ | ⟨g, cap, cur, rfl, _⟩
  · exact ⟨none, 0, by rw [hz]⟩
  · exact ⟨_, cap, rfl⟩
theorem OwnP.setRun {w : World} {base : Nat} {e : TypeId} {v : Value} {xs : List (Int × Int)} (h : OwnP w base e 2 RuE v xs) {j : Nat} {r : Int × Int} (hj : xs[j]? = some r) {z : Int} (hz : I64 z) :
    ∃ g cap, v = .slice (some ⟨g, 0, none⟩) xs.length cap ∧ base ≤ g ∧ g < w.heap.size ∧ w.cell? ⟨g, j * 2, none⟩ = some (.int .i64 r.1) ∧ w.cell? ⟨g, j * 2 + 1, none⟩ = some (.int .i64 r.2) ∧ (∀ o, w.frozen? ⟨g, o, none⟩ = false) ∧
      OwnP (w.setCell ⟨g, j * 2 + 1, none⟩ (.int .i64 z)) base e 2 RuE v (xs.set j (r.1, z)) := by
  obtain ⟨css, h1, h2⟩ := h
  have hlt := (List.getElem?_eq_some_iff.1 hj).1
  obtain ⟨cs, hcs, ⟨rfl, hr⟩, _⟩ := h1.2 j r hj
  rcases h2.2 with ⟨_, hz⟩ | ⟨g, cap, cur, rfl, hb, hg, _⟩
  · omega
  · refine ⟨g, cap, rfl, hb, (Array.getElem?_eq_some_iff.1 hg).1, ?_, ?_, fun o => h2.frozenAt o, ?_⟩
    · rw [h2.cellAt (j * 2) (by omega)]
      have := flat_at css h1.len j 0 (by omega)
      rw [hcs] at this; simpa using this
    · rw [h2.cellAt (j * 2 + 1) (by omega)]
      have := flat_at css h1.len j 1 (by omega)
      rw [hcs] at this; simpa using this
    · have h3 := (h2.stored (j * 2 + 1) (.int .i64 z)).1
      have hlen : ∀ c ∈ css.set j [.int .i64 r.1, .int .i64 z], c.length = 2 := fun c hc => by
        rcases List.mem_or_eq_of_mem_set hc with h | h
        · exact h1.len c h
        · rw [h]; rfl
      have hf : css.flatten.set (j * 2 + 1) (.int .i64 z) = (css.set j [.int .i64 r.1, .int .i64 z]).flatten := by
        apply List.ext_getElem?
        intro i
        have hd : i = i / 2 * 2 + i % 2 := by omega
        have hm : i % 2 < 2 := by omega
        have a1 := flat_at css h1.len (i / 2) (i % 2) hm
        have a2 := flat_at _ hlen (i / 2) (i % 2) hm
        rw [← hd] at a1 a2
        rw [a2, List.getElem?_set, List.getElem?_set, a1]
        have hfl := flat_len css h1.len
        have hcl := h1.1
        by_cases hij : j = i / 2
        · subst hij
          have hl1 : i / 2 < css.length := by omega
          rw [hcs, if_pos rfl, if_pos hl1]
          rcases (show i % 2 = 0 ∨ i % 2 = 1 by omega) with h0 | h0
          · rw [if_neg (show ¬ i / 2 * 2 + 1 = i by omega), h0]; rfl
          · rw [if_pos (show i / 2 * 2 + 1 = i by omega), if_pos (show i / 2 * 2 + 1 < css.flatten.length by omega), h0]; rfl
        · rw [if_neg (show ¬ j * 2 + 1 = i by omega), if_neg hij]
      rw [hf] at h3
      refine ⟨css.set j [.int .i64 r.1, .int .i64 z], ⟨by simpa using h1.1, fun i x hx => ?_⟩, by rw [List.length_set]; exact h3⟩
      rw [List.getElem?_set] at hx ⊢
      have hcl := h1.1
      by_cases hij : j = i
      · subst hij
        rw [if_pos rfl, if_pos hlt] at hx
        rw [if_pos rfl, if_pos (show j < css.length by omega)]
        cases hx
        exact ⟨_, rfl, ⟨rfl, hr.1, hz⟩, rfl⟩
      · rw [if_neg hij] at hx ⊢
        exact h1.2 i x hx

theorem DtE.one {x : Dt} {cs : List Value} (h : DtE x cs) : ∀ u ∈ cs, u.oneCell' = true := by obtain ⟨rfl, _⟩ := h; simp [Value.oneCell']
theorem EnE.one {x : En} {cs : List Value} (h : EnE x cs) : ∀ u ∈ cs, u.oneCell' = true := by obtain ⟨rfl, _⟩ := h; simp [Value.oneCell']
theorem SpE.one {x : Sp} {cs : List Value} (h : SpE x cs) : ∀ u ∈ cs, u.oneCell' = true := by obtain ⟨rfl, _⟩ := h; simp [Value.oneCell']
theorem StE.one {x : ByteArray} {cs : List Value} (h : StE x cs) : ∀ u ∈ cs, u.oneCell' = true := by obtain ⟨rfl, _⟩ := h; simp [Value.oneCell']
theorem InE.one {x : Int} {cs : List Value} (h : InE x cs) : ∀ u ∈ cs, u.oneCell' = true := by obtain ⟨rfl, _⟩ := h; simp [Value.oneCell']
theorem RuE.one {x : Int × Int} {cs : List Value} (h : RuE x cs) : ∀ u ∈ cs, u.oneCell' = true := by obtain ⟨rfl, _⟩ := h; simp [Value.oneCell']

theorem eiDot : ElemInfo Tryz.prog 165 52 2 16 := ElemInfo.mk (z := .agg #[.int .i64 0, .int .i64 0]) Tryz.underlying165 (by kernel_rfl) rfl
theorem eiSpan : ElemInfo Tryz.prog 27 45 3 24 := ElemInfo.mk (z := .agg #[.int .i64 0, .int .i64 0, .int .i64 0]) Tryz.underlying27 (by kernel_rfl) rfl
theorem eiInt64 : ElemInfo Tryz.prog 167 2 1 8 := ElemInfo.mk (z := .int .i64 0) Tryz.underlying167 (by kernel_rfl) rfl
theorem eiRun : ElemInfo Tryz.prog 169 201 2 16 := ElemInfo.mk (z := .agg #[.int .i64 0, .int .i64 0]) Tryz.underlying169 (by kernel_rfl) rfl
theorem eiEntry : ElemInfo Tryz.prog 22 113 4 40 := ElemInfo.mk (z := .agg #[.int .i64 0, .int .i64 0, .string ByteArray.empty, .int .i64 0]) Tryz.underlying22 (by kernel_rfl) rfl
theorem eiKid : ElemInfo Tryz.prog 23 126 3 64 := ElemInfo.mk (z := .agg #[.string ByteArray.empty, .slice none 0 0, .slice none 0 0]) Tryz.underlying23 (by kernel_rfl) rfl
theorem eiStr : ElemInfo Tryz.prog 30 9 1 16 := ElemInfo.mk (z := .string ByteArray.empty) Tryz.underlying30 (by kernel_rfl) rfl

end Go.Proofs.YtlapdmgjfdelnaaGreat

namespace Go.Proofs.YtlapdmgjfdelnaaGreat
open Go.RowKit

/-- SlP with a predicate on the block. -/
def SlA {α : Type} (w : World) (ok : Nat → Prop) (sz : Nat) (E : α → List Value → Prop) (v : Value) (xs : List α) : Prop :=
  ∃ A c, v = .slice A xs.length c ∧ xs.length ≤ c ∧ xs.length ≤ Big ∧
    (xs ≠ [] → ∃ b off, A = some ⟨b, off, none⟩ ∧ ok b ∧ ∀ j x, xs[j]? = some x → ∃ cs, E x cs ∧ cs.length = sz ∧ ∀ i u, cs[i]? = some u → w.cell? ⟨b, off + j * sz + i, none⟩ = some u)
theorem SlP_iff {α : Type} {w : World} {B sz : Nat} {E : α → List Value → Prop} {v : Value} {xs : List α} : SlP w B sz E v xs ↔ SlA w (fun b => b < B) sz E v xs := Iff.rfl
/-- What is said of the blocks that ok tells is as it was. -/
def Keeps (ok : Nat → Prop) (w w' : World) : Prop := ∀ b, ok b → w'.heap[b]? = w.heap[b]?
theorem SlA.up {α : Type} {w w' : World} {ok ok' : Nat → Prop} {sz : Nat} {E E' : α → List Value → Prop} {v : Value} {xs : List α} (h : SlA w ok sz E v xs) (hk : Keeps ok w w') (ho : ∀ b, ok b → ok' b)
    (hE : ∀ x ∈ xs, ∀ cs, E x cs → E' x cs) : SlA w' ok' sz E' v xs := by
  obtain ⟨A, c, rfl, h1, h2, h3⟩ := h
  refine ⟨A, c, rfl, h1, h2, fun hn => ?_⟩
  obtain ⟨b, off, rfl, hlt, hc⟩ := h3 hn
  refine ⟨b, off, rfl, ho b hlt, fun j x hx => ?_⟩
  obtain ⟨cs, he, hl, hu⟩ := hc j x hx
  exact ⟨cs, hE x (List.mem_of_getElem? hx) cs he, hl, fun i u hi => (World.cell?_of_block (w := w) (hk b hlt)).trans (hu i u hi)⟩

mutual
def Tr.rda (w : World) (ok : Nat → Prop) : Tr → Value → Value → Prop
  | .mk es ks, ve, vk => SlA w ok 4 EnE ve es ∧ ∃ A c, vk = .slice A ks.length c ∧ ks.length ≤ c ∧ ks.length ≤ Big ∧
      (ks ≠ [] → ∃ b off, A = some ⟨b, off, none⟩ ∧ ok b ∧ Tr.rdaL w ok b off ks)
def Tr.rdaL (w : World) (ok : Nat → Prop) (b : Nat) : Nat → List (ByteArray × Tr) → Prop
  | _, [] => True
  | off, (k, t) :: ks => (∃ ve vk, k.size ≤ Big ∧ w.cell? ⟨b, off, none⟩ = some (.string k) ∧ w.cell? ⟨b, off + 1, none⟩ = some ve ∧ w.cell? ⟨b, off + 2, none⟩ = some vk ∧ t.rda w ok ve vk) ∧ Tr.rdaL w ok b (off + 3) ks
end
def KdA (w : World) (ok : Nat → Prop) (p : Kd) (cs : List Value) : Prop := ∃ ve vk, cs = [.string p.1, ve, vk] ∧ p.1.size ≤ Big ∧ p.2.rda w ok ve vk
theorem rdaL_iff {w : World} {ok : Nat → Prop} {b : Nat} : ∀ (ks : List Kd) (off : Nat), Tr.rdaL w ok b off ks ↔
    ∀ (j : Nat) (x : Kd), ks[j]? = some x → ∃ cs, KdA w ok x cs ∧ cs.length = 3 ∧ ∀ i u, cs[i]? = some u → w.cell? ⟨b, off + j * 3 + i, none⟩ = some u
  | [], off => by simp [Tr.rdaL]
  | (k, t) :: ks, off => by
    rw [Tr.rdaL, rdaL_iff ks (off + 3)]
    constructor
    · rintro ⟨⟨ve, vk, h0, h1, h2, h3, h4⟩, h5⟩ j x hx
      match j, hx with
      | 0, hx =>
        simp at hx; subst hx
        refine ⟨[.string k, ve, vk], ⟨ve, vk, rfl, h0, h4⟩, rfl, fun i u hi => ?_⟩
        match i, hi with
        | 0, hi => simp at hi; subst hi; simpa using h1
        | 1, hi => simp at hi; subst hi; simpa using h2
        | 2, hi => simp at hi; subst hi; simpa using h3
        | i + 3, hi => simp at hi
      | j + 1, hx =>
        obtain ⟨cs, a1, a2, a3⟩ := h5 j x (by simpa using hx)
        refine ⟨cs, a1, a2, fun i u hi => ?_⟩
        rw [← a3 i u hi]; congr 2; omega
    · intro h
      refine ⟨?_, fun j x hx => ?_⟩
      · obtain ⟨cs, ⟨ve, vk, rfl, h0, h4⟩, _, h3⟩ := h 0 (k, t) rfl
        exact ⟨ve, vk, h0, by simpa using h3 0 _ rfl, by simpa using h3 1 _ rfl, by simpa using h3 2 _ rfl, h4⟩
      · obtain ⟨cs, a1, a2, a3⟩ := h (j + 1) x (by simpa using hx)
        refine ⟨cs, a1, a2, fun i u hi => ?_⟩
        rw [← a3 i u hi]; congr 2; omega
theorem rda_iff {w : World} {ok : Nat → Prop} {es : List En} {ks : List Kd} {ve vk : Value} : (Tr.mk es ks).rda w ok ve vk ↔ SlA w ok 4 EnE ve es ∧ SlA w ok 3 (KdA w ok) vk ks := by
  rw [Tr.rda]
  refine and_congr Iff.rfl ⟨?_, ?_⟩
  · rintro ⟨A, c, rfl, h1, h2, h3⟩
    refine ⟨A, c, rfl, h1, h2, fun hn => ?_⟩
    obtain ⟨b, off, rfl, hb, hl⟩ := h3 hn
    exact ⟨b, off, rfl, hb, (rdaL_iff ks off).1 hl⟩
  · rintro ⟨A, c, rfl, h1, h2, h3⟩
    refine ⟨A, c, rfl, h1, h2, fun hn => ?_⟩
    obtain ⟨b, off, rfl, hb, hl⟩ := h3 hn
    exact ⟨b, off, rfl, hb, (rdaL_iff ks off).2 hl⟩
theorem rd_rda {w : World} {B : Nat} (t : Tr) : ∀ ve vk, t.rd w B ve vk ↔ t.rda w (fun b => b < B) ve vk := by
  induction t using Tr.ind with
  | h es ks ih =>
    intro ve vk
    rw [rd_iff, rda_iff, SlP_iff, SlP_iff]
    refine and_congr Iff.rfl ⟨fun h => h.up (fun _ _ => rfl) (fun _ h => h) ?_, fun h => h.up (fun _ _ => rfl) (fun _ h => h) ?_⟩
    · rintro ⟨k, t⟩ hx cs ⟨ve, vk, rfl, h0, h1⟩
      exact ⟨ve, vk, rfl, h0, (ih k t hx ve vk).1 h1⟩
    · rintro ⟨k, t⟩ hx cs ⟨ve, vk, rfl, h0, h1⟩
      exact ⟨ve, vk, rfl, h0, (ih k t hx ve vk).2 h1⟩
theorem rda_up {w w' : World} {ok ok' : Nat → Prop} (hk : Keeps ok w w') (ho : ∀ b, ok b → ok' b) (t : Tr) : ∀ ve vk, t.rda w ok ve vk → t.rda w' ok' ve vk := by
  induction t using Tr.ind with
  | h es ks ih =>
    intro ve vk h
    rw [rda_iff] at h ⊢
    refine ⟨h.1.up hk ho fun _ _ _ h => h, h.2.up hk ho ?_⟩
    rintro ⟨k, t⟩ hx cs ⟨ve, vk, rfl, h0, h1⟩
    exact ⟨ve, vk, rfl, h0, ih k t hx ve vk h1⟩

mutual
/-- How many entries and kids there are. -/
def Tr.sz : Tr → Nat
  | .mk es ks => es.length + Tr.szL ks
def Tr.szL : List (ByteArray × Tr) → Nat
  | [] => 0
  | (_, t) :: ks => 1 + t.sz + Tr.szL ks
end
theorem szL_mem {ks : List Kd} {k : ByteArray} {t : Tr} (h : (k, t) ∈ ks) : 1 + t.sz ≤ Tr.szL ks := by
  induction ks with
  | nil => cases h
  | cons y ks ih =>
    obtain ⟨yk, yt⟩ := y
    rw [Tr.szL]
    rcases List.mem_cons.1 h with e | e
    · cases e; omega
    · have := ih e; omega
theorem szL_len (ks : List Kd) : ks.length ≤ Tr.szL ks := by
  induction ks with
  | nil => simp
  | cons y ks ih => obtain ⟨yk, yt⟩ := y; rw [Tr.szL]; simp; omega

theorem heap_new {w : World} {o : Obj} {n : Nat} (h : n = w.heap.size) : (w.alloc o).heap[n]? = some o := by subst h; exact heap_alloc_new w o
theorem heap_old {w : World} {o : Obj} {n : Nat} (h : n < w.heap.size) : (w.alloc o).heap[n]? = w.heap[n]? := Below.heap_alloc w o n h
/-- A row without a cell. -/
theorem OwnP.empty {α : Type} {w : World} {base n : Nat} {e : TypeId} {sz : Nat} {E : α → List Value → Prop} (h : w.heap[n]? = some (.cells #[] e (0, 0))) (hb : base ≤ n) : OwnP w base e sz E (.slice (some ⟨n, 0, none⟩) 0 0) ([] : List α) :=
  ⟨[], ⟨rfl, fun j x h => by simp at h⟩, by simp, .inr ⟨n, 0, #[], rfl, hb, h, Nat.le_refl _, by simp [maxLen], by simp, by simp⟩⟩
theorem SlP.oneB {α : Type} {w : World} {sz n B : Nat} {E : α → List Value → Prop} {x : α} {cs : List Value} (hE : E x cs) (hl : cs.length = sz) (e : TypeId) (hn : n = w.heap.size) (hB : n < B) :
    SlP (w.alloc (.cells cs.toArray e)) B sz E (.slice (some ⟨n, 0, none⟩) 1 1) [x] := (SlP.one hE hl e hn).imp (Below.refl _ _) (by omega) fun _ _ _ h => h
abbrev Lf := List ByteArray × En
/-- A leaf in memory: its path's slice, its entry. -/
def LfA (w : World) (ok : Nat → Prop) (x : Lf) (cs : List Value) : Prop :=
  ∃ A c, cs = [.slice A x.1.length c, .int .i64 x.2.dc, .int .i64 x.2.n, .string x.2.s, .int .i64 x.2.v] ∧ SlA w ok 1 StE (.slice A x.1.length c) x.1 ∧ x.2.Ok

/-- A way of lying in memory that hangs on blocks of a predicate alone. -/
structure Emon {α : Type} (E : World → (Nat → Prop) → α → List Value → Prop) : Prop where
  up : ∀ {w w' : World} {ok ok' : Nat → Prop} {x : α} {cs : List Value}, Keeps ok w w' → (∀ b, ok b → ok' b) → E w ok x cs → E w' ok' x cs
  one : ∀ {w : World} {ok : Nat → Prop} {x : α} {cs : List Value}, E w ok x cs → ∀ u ∈ cs, u.oneCell' = true
theorem LfA.mon : Emon LfA where
  up := fun hk ho ⟨A, c, h1, h2, h3⟩ => ⟨A, c, h1, h2.up hk ho fun _ _ _ h => h, h3⟩
  one := by rintro w ok x cs ⟨A, c, rfl, _⟩; simp [Value.oneCell']
theorem rda_shape {w : World} {ok : Nat → Prop} {t : Tr} {ve vk : Value} (h : t.rda w ok ve vk) : ∃ A n A' m, ve = .slice A t.es.length n ∧ vk = .slice A' t.ks.length m := by
  obtain ⟨es, ks⟩ := t
  rw [rda_iff] at h
  obtain ⟨⟨A, n, h1, _⟩, ⟨A', m, h2, _⟩⟩ := h
  exact ⟨A, n, A', m, h1, h2⟩
theorem KdA.mon : Emon KdA where
  up := fun hk ho ⟨ve, vk, h1, h2, h3⟩ => ⟨ve, vk, h1, h2, rda_up hk ho _ _ _ h3⟩
  one := by
    rintro w ok x cs ⟨ve, vk, rfl, _, h⟩
    obtain ⟨A, n, A', m, rfl, rfl⟩ := rda_shape h
    simp [Value.oneCell']

/-- An own list whose elements lead into memory, into blocks that okp tells, but not into the list's own row. -/
def OwnD {α : Type} (w : World) (base : Nat) (e : TypeId) (sz : Nat) (E : World → (Nat → Prop) → α → List Value → Prop) (okp : Nat → Prop) (v : Value) (xs : List α) : Prop :=
  OwnP w base e sz (E w (fun b => okp b ∧ b < w.heap.size ∧ v.ownBlock ≠ some b)) v xs

theorem OwnP.sla {α : Type} {w : World} {base : Nat} {e : TypeId} {sz : Nat} {E : α → List Value → Prop} {v : Value} {xs : List α} (h : OwnP w base e sz E v xs) (hl : xs.length ≤ Big) : SlA w (fun b => base ≤ b ∧ b < w.heap.size ∧ v.ownBlock = some b) sz E v xs := by
  have hs := h.sl hl
  obtain ⟨A, c, hv, h1, h2, h3⟩ := hs
  refine ⟨A, c, hv, h1, h2, fun hn => ?_⟩
  obtain ⟨g, cap, hv', hb, hg, _⟩ := h.form hn
  obtain ⟨b, off, hA, hlt, hc⟩ := h3 hn
  subst hA
  rw [hv] at hv'
  simp only [Value.slice.injEq, Option.some.injEq, Addr.mk.injEq] at hv'
  obtain ⟨⟨rfl, rfl, _⟩, _, _⟩ := hv'
  exact ⟨b, 0, rfl, ⟨hb, hg, by rw [hv]; rfl⟩, hc⟩

section
variable {α : Type} {w w' : World} {base : Nat} {e : TypeId} {sz : Nat} {E : World → (Nat → Prop) → α → List Value → Prop} {okp okq : Nat → Prop} {v : Value} {xs ys : List α}
theorem OwnD.nil : OwnD w base e sz E okp (.slice none 0 0) ([] : List α) := OwnP.nil
theorem OwnD.grow (h : OwnD w base e sz E okp v xs) (hE : Emon E) (hb : Below w.heap.size w w') : OwnD w' base e sz E okp v xs :=
  (OwnP.grow h hb).imp fun _ _ _ hx => hE.up (fun b hb' => hb.block b hb'.2.1) (fun _ hb' => ⟨hb'.1, Nat.lt_of_lt_of_le hb'.2.1 hb.size, hb'.2.2⟩) hx
theorem OwnD.drew (h : OwnD w base e sz E okp v xs) (hE : Emon E) : OwnD w.drew base e sz E okp v xs := OwnP.imp (OwnP.drew h) fun _ _ _ hx => hE.up (w := w) (w' := w.drew) (ok := fun b => okp b ∧ b < w.heap.size ∧ v.ownBlock ≠ some b) (fun _ _ => rfl) (fun _ h => h) hx
theorem OwnD.sl (h : OwnD w base e sz E okp v xs) (hE : Emon E) (hl : xs.length ≤ Big) : SlP w w.heap.size sz (E w (fun b => okp b ∧ b < w.heap.size)) v xs :=
  OwnP.sl (OwnP.imp h fun _ _ _ hx => hE.up (fun _ _ => rfl) (fun _ hb => ⟨hb.1, hb.2.1⟩) hx) hl
theorem OwnD.mono {base' : Nat} (h : OwnD w base e sz E okp v xs) (hb : base' ≤ base) : OwnD w base' e sz E okp v xs := OwnP.mono h hb
theorem OwnD.weak (h : OwnD w base e sz E okp v xs) (hE : Emon E) (ho : ∀ b, okp b → okq b) : OwnD w base e sz E okq v xs := OwnP.imp h fun _ _ _ hx => hE.up (fun _ _ => rfl) (fun _ hb => ⟨ho _ hb.1, hb.2⟩) hx
theorem OwnD.lt (h : OwnD w base e sz E okp v xs) : ∀ g, v.ownBlock = some g → base ≤ g ∧ g < w.heap.size := OwnP.lt h
end

theorem wpList_d {α : Type} {P : Program} {ops : Array Oper} {rest : List Oper} {o : Oper} {a : Act} {Q : Exit → Act → World → Prop} {w : World} (hg : o.guard = none) (s x : Operand) (t : TypeId)
    (hop : o.op = .call { callee := .builtin .append, args := #[s, x], argTypes := #[t, t] }) {e : TypeId} {sz bytes base : Nat} {E : World → (Nat → Prop) → α → List Value → Prop} {okp : Nat → Prop} {v sv : Value} {xs ys : List α} (hE : Emon E) (hi : ElemInfo P t e sz bytes) (hsz : 0 < sz) (hby : bytes ≤ 1000)
    (hs : a.eval s = v) (hown : OwnD w base e sz E okp v xs) (hx : a.eval x = sv) (hys : SlP w w.heap.size sz (E w (fun b => okp b ∧ b < w.heap.size ∧ v.ownBlock ≠ some b)) sv ys) (hl : xs.length + ys.length ≤ Few) (hbase : base ≤ w.heap.size)
    (h : ∀ v' w', OwnD w' base e sz E okp v' (xs ++ ys) → Below base w w' → w.grownBy w' v.ownBlock → (v'.ownBlock = v.ownBlock ∨ v'.ownBlock = some w.heap.size) → wpList P ops Q rest (a.put o.dst v') w') : wpList P ops Q (o :: rest) a w := by
  unfold Few at hl
  refine wpList_app hg s x t hop hi hsz (fun _ _ h => hE.one h) hs hown hx hys (Nat.le_trans (Nat.mul_le_mul hl hby) (by omega)) (by unfold Big; omega) hbase fun v' w' h1 h2 h3 => h v' w' ?_ ((Below.refl base w).grown h2 hbase fun g hg => (OwnP.lt hown g hg).1) h2 h3
  refine h1.imp fun y _ cs hy => hE.up (fun b hb => h2.block b hb.2.1 (Ne.symm hb.2.2)) (fun b hb => ⟨hb.1, Nat.lt_of_lt_of_le hb.2.1 h2.size, ?_⟩) hy
  rcases h3 with h3 | h3
  · rw [h3]; exact hb.2.2
  · rw [h3]; intro e; cases e; exact absurd hb.2.1 (Nat.lt_irrefl _)
theorem step_d {α : Type} {P : Program} {ops : Array Oper} {o : Oper} {a : Act} {K : Act → World → Prop} {Q : Exit → Act → World → Prop} {F : Prop} {w : World} (hg : o.guard = none) (s x : Operand) (t : TypeId)
    (hop : o.op = .call { callee := .builtin .append, args := #[s, x], argTypes := #[t, t] }) {e : TypeId} {sz bytes base : Nat} {E : World → (Nat → Prop) → α → List Value → Prop} {okp : Nat → Prop} {v sv : Value} {xs ys : List α} (hE : Emon E) (hi : ElemInfo P t e sz bytes) (hsz : 0 < sz) (hby : bytes ≤ 1000)
    (hs : a.eval s = v) (hown : OwnD w base e sz E okp v xs) (hx : a.eval x = sv) (hys : SlP w w.heap.size sz (E w (fun b => okp b ∧ b < w.heap.size ∧ v.ownBlock ≠ some b)) sv ys) (hl : xs.length + ys.length ≤ Few) (hbase : base ≤ w.heap.size)
    (h : ∀ v' w', OwnD w' base e sz E okp v' (xs ++ ys) → Below base w w' → w.grownBy w' v.ownBlock → (v'.ownBlock = v.ownBlock ∨ v'.ownBlock = some w.heap.size) → K (a.put o.dst v') w') :
    if Region.wanted o (yielded ops a.tmps) = true then Oper.wp P o a w K Q else F := by
  have hw : Region.wanted o (yielded ops a.tmps) = true := by simp [Region.wanted, hg]
  rw [if_pos hw]
  unfold Few at hl
  obtain ⟨v', w', r1, h1, h2, h3⟩ := run_app (P := P) (ty := o.type) hi hsz (fun _ _ h => hE.one h) hown hys (Nat.le_trans (Nat.mul_le_mul hl hby) (by omega)) (by unfold Big; omega) hbase
  unfold Oper.wp execOp
  simp only [hop, resolve, invoke, builtin, Sem.run_bind, Sem.run_pure, Result.andThen_ok, List.map_toArray, List.map_cons, List.map_nil, hs, hx, r1]
  refine h v' w' ?_ ((Below.refl base w).grown h2 hbase fun g hg => (OwnP.lt hown g hg).1) h2 h3
  refine h1.imp fun y _ cs hy => hE.up (fun b hb => h2.block b hb.2.1 (Ne.symm hb.2.2)) (fun b hb => ⟨hb.1, Nat.lt_of_lt_of_le hb.2.1 h2.size, ?_⟩) hy
  rcases h3 with h3 | h3
  · rw [h3]; exact hb.2.2
  · rw [h3]; intro e; cases e; exact absurd hb.2.1 (Nat.lt_irrefl _)

/-- The call hands back a slice of its own, whose elements lead into blocks that okp tells, or into new ones. -/
def RetD {α : Type} (w : World) (t : TypeId) (sz : Nat) (E : World → (Nat → Prop) → α → List Value → Prop) (okp : Nat → Prop) (xs : List α) (e : Ending) (w' : World) : Prop :=
  ∃ v, e = .returned v ∧ OwnD w' w.heap.size t sz E (fun b => okp b ∨ w.heap.size ≤ b) v xs ∧ Below w.heap.size w w'
end Go.Proofs.YtlapdmgjfdelnaaGreat

namespace Go.Proofs.YtlapdmgjfdelnaaGreat
open Go.RowKit

structure Opr where
  path : List ByteArray
  act : Int
  s : ByteArray
  n : Int
  deriving DecidableEq, Inhabited
structure Vw where
  kind : Int
  on : Bool
  n : Int
  l : List ByteArray
  deriving DecidableEq, Inhabited
structure Opr.Ok (o : Opr) : Prop where
  act : I64 o.act
  n : I64 o.n
  s : o.s.size ≤ Big
/-- A change lies in cells. -/
def OpE (w : World) (B : Nat) (o : Opr) (cs : List Value) : Prop := ∃ vp, cs = [vp, .int .i64 o.act, .string o.s, .int .i64 o.n] ∧ SlP w B 1 StE vp o.path ∧ o.Ok
/-- A view lies in cells. -/
def VwE (w : World) (B : Nat) (v : Vw) (cs : List Value) : Prop := ∃ vl, cs = [.int .i64 v.kind, .bool v.on, .int .i64 v.n, vl] ∧ SlP w B 1 StE vl v.l ∧ I64 v.kind ∧ I64 v.n
theorem OpE.up {w w' : World} {B B' : Nat} {o : Opr} {cs : List Value} (hb : Below B w w') (hB : B ≤ B') (h : OpE w B o cs) : OpE w' B' o cs := by
  obtain ⟨vp, h1, h2, h3⟩ := h
  exact ⟨vp, h1, h2.imp hb hB fun _ _ _ h => h, h3⟩
end Go.Proofs.YtlapdmgjfdelnaaGreat

namespace Go.Proofs.YtlapdmgjfdelnaaGreat
open Go.RowKit
set_option maxRecDepth 100000

def Dt.right (d : Dt) : Bool := decide (0 ≤ d.dc ∧ d.dc < 4 ∧ 1 ≤ d.n ∧ d.n ≤ 1099511627776)
def Dt.lt (a b : Dt) : Bool := if a.dc ≠ b.dc then decide (a.dc < b.dc) else decide (a.n < b.n)
def keyB (s : ByteArray) : Bool := decide (1 ≤ s.size ∧ s.size ≤ 30)
def En.right (e : En) : Bool := decide (e.dot.right = true ∧ e.s.size ≤ 30 ∧ e.v ≤ 1099511627776 ∧ -1099511627776 ≤ e.v)
def numB (n : Int) : Bool := decide (1 ≤ n ∧ n ≤ 1099511627776)
def cmpI (a b : Int) : Int := if a < b then -1 else if b < a then 1 else 0
def orI (a b : Int) : Int := if a ≠ 0 then a else b
def Dt.cmp (a b : Dt) : Int := orI (cmpI a.dc b.dc) (cmpI a.n b.n)
def empB (ne nk : Nat) : Bool := decide (ne = 0 ∧ nk = 0)
def Tr.empty : Tr → Bool | .mk es ks => es.isEmpty && ks.isEmpty

theorem dright_any (d : Dt) (w : World) : Calls Tryz.prog 109 #[.agg #[.int .i64 d.dc, .int .i64 d.n]] w fun e w' => e = .returned (.bool d.right) ∧ Below w.heap.size w w' := by
  go_enter Tryz.func109, Tryz.ntmps109
  go_wp2_with fail
  all_goals (go_ret; refine ⟨ret_bool ?_, by go_grown⟩; rw [Bool.eq_iff_iff]; simp [Dt.right] at *; try omega)

theorem tkey_any (s : ByteArray) (w : World) : Calls Tryz.prog 179 #[.string s] w fun e w' => e = .returned (.bool (keyB s)) ∧ Below w.heap.size w w' := by
  go_enter Tryz.func179, Tryz.ntmps179
  go_wp2_with fail
  all_goals (go_ret; refine ⟨ret_bool ?_, by go_grown⟩; rw [Bool.eq_iff_iff]; simp [keyB] at *; try omega)

theorem snum_any (n : Int) (w : World) : Calls Tryz.prog 168 #[.int .i64 n] w fun e w' => e = .returned (.bool (numB n)) ∧ w = w' := by
  go_enter Tryz.func168, Tryz.ntmps168
  go_wp2_with fail
  all_goals (go_ret; refine ⟨ret_bool ?_, rfl⟩; rw [Bool.eq_iff_iff]; simp [numB] at *; try omega)

theorem tempty_any (ne nk : Nat) (A B : Option Addr) (c d : Nat) (w : World) : Calls Tryz.prog 176 #[.agg #[.slice A ne c, .slice B nk d]] w fun e w' => e = .returned (.bool (empB ne nk)) ∧ Below w.heap.size w w' := by
  go_enter Tryz.func176, Tryz.ntmps176
  go_wp2_with fail
  all_goals (go_ret; refine ⟨ret_bool ?_, by go_grown⟩; rw [Bool.eq_iff_iff]; simp [empB] at *; try omega)

theorem cmp64_any (a b : Int) (w : World) : Calls Tryz.prog 171 #[.int .i64 a, .int .i64 b] w fun e w' => e = .returned (.int .i64 (cmpI a b)) ∧ w = w' := by
  go_enter Tryz.func171, Tryz.ntmps171
  go_wp2
  all_goals (go_ret; refine ⟨ret_int ?_, rfl⟩; simp [cmpI] at *; try omega)

theorem cmpi_any (a b : Int) (w : World) : Calls Tryz.prog 245 #[.int .i64 a, .int .i64 b] w fun e w' => e = .returned (.int .i64 (cmpI a b)) ∧ w = w' := by
  go_enter Tryz.func245, Tryz.ntmps245
  go_wp2
  all_goals (go_ret; refine ⟨ret_int ?_, rfl⟩; simp [cmpI] at *; try omega)
end Go.Proofs.YtlapdmgjfdelnaaGreat

namespace Go.Proofs.YtlapdmgjfdelnaaGreat
open Go.RowKit
set_option maxRecDepth 100000

theorem or2_any (a b : Int) (g : Nat) (w : World) (h0 : w.cell? ⟨g, 0, none⟩ = some (.int .i64 a)) (h1 : w.cell? ⟨g, 1, none⟩ = some (.int .i64 b)) :
    Calls Tryz.prog 244 #[.slice (some ⟨g, 0, none⟩) 2 2] w fun e w' => e = .returned (.int .i64 (orI a b)) ∧ w = w' := by
  by_cases ha : a = 0
  · subst ha
    by_cases hb : b = 0
    · subst hb
      go_enter Tryz.func244, Tryz.ntmps244
      go_wp2_with fail
      go_rounds 3
      go_ret
      exact ⟨rfl, rfl⟩
    · have hb' : (b == 0) = false := by simpa using hb
      have hb2 : (b != 0) = true := by simpa using hb
      go_enter Tryz.func244, Tryz.ntmps244
      go_wp2_with fail
      go_rounds 3
      go_ret
      exact ⟨rfl, rfl⟩
  · have hb' : (a == 0) = false := by simpa using ha
    have hb2 : (a != 0) = true := by simpa using ha
    go_enter Tryz.func244, Tryz.ntmps244
    go_wp2_with fail
    go_rounds 3
    go_ret
    exact ⟨ret_int (by simp [orI, ha]), rfl⟩

theorem dcmp_any (a b : Dt) (w : World) : Calls Tryz.prog 209 #[.agg #[.int .i64 a.dc, .int .i64 a.n], .agg #[.int .i64 b.dc, .int .i64 b.n]] w fun e w' => e = .returned (.int .i64 (a.cmp b)) ∧ Below w.heap.size w w' := by
  go_enter Tryz.func209, Tryz.ntmps209
  go_wp2_with fail

  go_region_held3 (fun w' => w'.cell? ⟨w.heap.size, 0, none⟩ = some (.int .i64 a.dc) ∧ w'.cell? ⟨w.heap.size, 1, none⟩ = some (.int .i64 a.n) ∧ w'.cell? ⟨w.heap.size + 1, 0, none⟩ = some (.int .i64 b.dc) ∧ w'.cell? ⟨w.heap.size + 1, 1, none⟩ = some (.int .i64 b.n)) (go_keep)
    (first | (go_at_call 245; refine (cmpi_any _ _ _).mono ?_; rintro e w' ⟨rfl, rfl⟩) | (go_at_call 171; refine (cmp64_any _ _ _).mono ?_; rintro e w' ⟨rfl, rfl⟩) | (go_at_call 244; refine (or2_any (cmpI a.dc b.dc) (cmpI a.n b.n) _ _ (by rw [World.cell?_drew, World.cell?_alloc_at _ _ _ _ (by simp)]; rfl) (by rw [World.cell?_drew, World.cell?_alloc_at _ _ _ _ (by simp)]; rfl)).mono ?_; rintro e w' ⟨rfl, rfl⟩))
  all_goals (go_wp2_with fail; go_ret; exact ⟨ret_int rfl, by go_grown⟩)

end Go.Proofs.YtlapdmgjfdelnaaGreat

namespace Go.Proofs.YtlapdmgjfdelnaaGreat
open Go.RowKit
set_option maxRecDepth 100000

def okP : Option Dt → Dt → Bool
  | none, _ => true
  | some q, d => q.lt d
def entsB : Option Dt → List En → Bool
  | _, [] => true
  | p, e :: es => e.right && okP p e.dot && entsB (some e.dot) es
theorem entsB_cons (p : Option Dt) (e : En) (es : List En) : entsB p (e :: es) = (e.right && okP p e.dot && entsB (some e.dot) es) := by cases p <;> rfl
def prevD (es : List En) (k : Nat) : Option Dt := if k = 0 then none else es[k - 1]?.map En.dot
theorem prevD_succ {es : List En} {k : Nat} {e : En} (h : es[k]? = some e) : prevD es (k + 1) = some e.dot := by simp [prevD, h]
theorem cmp_lt (a b : Dt) : decide (0 ≤ a.cmp b) = !(a.lt b) := by
  rw [Bool.eq_iff_iff]
  simp only [Dt.cmp, orI, cmpI, Dt.lt]
  by_cases h1 : a.dc = b.dc
  · simp only [h1]; by_cases h3 : a.n < b.n <;> by_cases h4 : b.n < a.n <;> simp [h3, h4] <;> omega
  · by_cases h2 : a.dc < b.dc
    · simp [h1, h2]
    · have : b.dc < a.dc := by omega
      simp [h1, h2, this]
set_option maxHeartbeats 4000000 in
theorem tents_any (es : List En) (ve : Value) (w : World) (h : SlP w w.heap.size 4 EnE ve es) :
    Calls Tryz.prog 178 #[ve] w fun e w' => e = .returned (.bool (entsB none es)) ∧ Below w.heap.size w w' := by
  obtain ⟨A, n, rfl, b1, b2, b3⟩ := h
  unfold Big at b2
  go_enter Tryz.func178, Tryz.ntmps178
  go_wp2_with fail
  go_loopw [7] (fun i wr => ∃ k : Nat, k ≤ es.length ∧ i = .int .i64 k ∧ Hid (entsB (prevD es k) (es.drop k) = entsB none es) ∧ Below w.heap.size w wr) (fun i _ => es.length - (intOf i).toNat)
  case atStart => exact ⟨0, Nat.zero_le _, rfl, rfl, Below.refl _ _⟩
  case round =>
    obtain ⟨k, hk, rfl, hrel, hb⟩ := hrel
    have hsz := hb.size
    by_cases hlt : k < es.length
    · obtain ⟨x, hx⟩ : ∃ x, es[k]? = some x := ⟨_, List.getElem?_eq_getElem hlt⟩
      obtain ⟨b, off, rfl, hbB, hc⟩ := b3 (by rintro rfl; simp at hlt)
      obtain ⟨cs, ⟨rfl, hok⟩, _, hu⟩ := hc k _ hx
      have e0 : wr.cell? ⟨b, off + k * 4 + 0, none⟩ = some (.int .i64 x.dc) := (hb.cell hbB).trans (hu 0 _ rfl)
      have e1 : wr.cell? ⟨b, off + k * 4 + 1, none⟩ = some (.int .i64 x.n) := (hb.cell hbB).trans (hu 1 _ rfl)
      have e2 : wr.cell? ⟨b, off + k * 4 + 2, none⟩ = some (.string x.s) := (hb.cell hbB).trans (hu 2 _ rfl)
      have e3 : wr.cell? ⟨b, off + k * 4 + 3, none⟩ = some (.int .i64 x.v) := (hb.cell hbB).trans (hu 3 _ rfl)
      simp only [Nat.add_zero] at e0
      clear hu
      go_wp2_with fail
      have f0 : ∀ p : Far (wr.heap.size + 1) (wr.alloc (.cells #[.int .i64 x.dc, .int .i64 x.n, .string x.s, .int .i64 x.v] 113)), p.w'.cell? ⟨wr.heap.size, 0, none⟩ = some (.int .i64 x.dc) := far_cell (by simp) (by omega)
      have f1 : ∀ p : Far (wr.heap.size + 1) (wr.alloc (.cells #[.int .i64 x.dc, .int .i64 x.n, .string x.s, .int .i64 x.v] 113)), p.w'.cell? ⟨wr.heap.size, 1, none⟩ = some (.int .i64 x.n) := far_cell (by simp) (by omega)
      have f2 : ∀ p : Far (wr.heap.size + 1) (wr.alloc (.cells #[.int .i64 x.dc, .int .i64 x.n, .string x.s, .int .i64 x.v] 113)), p.w'.cell? ⟨wr.heap.size, 2, none⟩ = some (.string x.s) := far_cell (by simp) (by omega)
      have f3 : ∀ p : Far (wr.heap.size + 1) (wr.alloc (.cells #[.int .i64 x.dc, .int .i64 x.n, .string x.s, .int .i64 x.v] 113)), p.w'.cell? ⟨wr.heap.size, 3, none⟩ = some (.int .i64 x.v) := far_cell (by simp) (by omega)
      have hrd := drop_cons hx
      have hprev : ∃ y : En, (0 < k → es[k - 1]? = some y ∧ (∀ p : Far (wr.heap.size + 1) (wr.alloc (.cells #[.int .i64 x.dc, .int .i64 x.n, .string x.s, .int .i64 x.v] 113)), p.w'.cell? ⟨b, off + (k - 1) * 4, none⟩ = some (.int .i64 y.dc) ∧ p.w'.cell? ⟨b, off + (k - 1) * 4 + 1, none⟩ = some (.int .i64 y.n))) := by
        by_cases h0 : 0 < k
        · obtain ⟨y, hy⟩ : ∃ y, es[k - 1]? = some y := ⟨_, List.getElem?_eq_getElem (by omega)⟩
          obtain ⟨cs, ⟨rfl, _⟩, _, hu⟩ := hc (k - 1) _ hy
          refine ⟨y, fun _ => ⟨hy, fun p => ⟨far_cell ?_ (by omega) p, far_cell ?_ (by omega) p⟩⟩⟩
          · rw [World.cell?_alloc_lt _ _ _ (by exact Nat.lt_of_lt_of_le hbB hsz)]; exact (hb.cell hbB).trans (hu 0 _ rfl)
          · rw [World.cell?_alloc_lt _ _ _ (by exact Nat.lt_of_lt_of_le hbB hsz)]; exact (hb.cell hbB).trans (hu 1 _ rfl)
        · exact ⟨x, fun h => absurd h h0⟩
      obtain ⟨y, hprev⟩ := hprev
      have HR : Hid (entsB none es = (x.right && okP (prevD es k) x.dot && entsB (prevD es (k + 1)) (es.drop (k + 1)))) := by
        have := hrel.out
        rw [hrd, entsB_cons] at this
        rw [prevD_succ hx]; exact this.symm
      clear hrd hc hrel b3
      have HX : Hid (es[k]? = some x) := hx
      clear hx
      rcases h1 : x.dot.right
      · refine wp_region_far (wr.heap.size + 1) (by kernel_rfl) (by kernel_rfl) ?_
        repeat (go_big_quiet_step (first | (go_at_call 109; exact Calls.far_of (by simp) (dright_any x.dot _)) | (go_at_call 209; exact Calls.far_of (by simp) (dcmp_any y.dot x.dot _))))
        refine wpQuiet_nil ?_
        intro wq hbq
        have hbw : Below w.heap.size w wq := (hb.alloc hsz _).trans (hbq.mono (by omega))
        go_wp2_with fail
        go_ret
        refine ⟨ret_bool ?_, hbw⟩
        rw [HR.out]
        rw [show x.right = false by simp [En.right, h1]]; rfl
      rcases t2 : decide ((30 : Int) < (x.s.size : Int))
      case true =>
        refine wp_region_far (wr.heap.size + 1) (by kernel_rfl) (by kernel_rfl) ?_
        repeat (go_big_quiet_step (first | (go_at_call 109; exact Calls.far_of (by simp) (dright_any x.dot _)) | (go_at_call 209; exact Calls.far_of (by simp) (dcmp_any y.dot x.dot _))))
        refine wpQuiet_nil ?_
        intro wq hbq
        have hbw : Below w.heap.size w wq := (hb.alloc hsz _).trans (hbq.mono (by omega))
        go_wp2_with fail
        go_ret
        refine ⟨ret_bool ?_, hbw⟩
        rw [HR.out]
        rw [show x.right = false by (have := of_decide_eq_true t2; simp [En.right]; intros; omega)]; rfl
      rcases t3 : decide ((1099511627776 : Int) < x.v)
      case true =>
        refine wp_region_far (wr.heap.size + 1) (by kernel_rfl) (by kernel_rfl) ?_
        repeat (go_big_quiet_step (first | (go_at_call 109; exact Calls.far_of (by simp) (dright_any x.dot _)) | (go_at_call 209; exact Calls.far_of (by simp) (dcmp_any y.dot x.dot _))))
        refine wpQuiet_nil ?_
        intro wq hbq
        have hbw : Below w.heap.size w wq := (hb.alloc hsz _).trans (hbq.mono (by omega))
        go_wp2_with fail
        go_ret
        refine ⟨ret_bool ?_, hbw⟩
        rw [HR.out]
        rw [show x.right = false by (have := of_decide_eq_true t3; simp [En.right]; intros; omega)]; rfl
      rcases t4 : decide (x.v < (-1099511627776 : Int))
      case true =>
        refine wp_region_far (wr.heap.size + 1) (by kernel_rfl) (by kernel_rfl) ?_
        repeat (go_big_quiet_step (first | (go_at_call 109; exact Calls.far_of (by simp) (dright_any x.dot _)) | (go_at_call 209; exact Calls.far_of (by simp) (dcmp_any y.dot x.dot _))))
        refine wpQuiet_nil ?_
        intro wq hbq
        have hbw : Below w.heap.size w wq := (hb.alloc hsz _).trans (hbq.mono (by omega))
        go_wp2_with fail
        go_ret
        refine ⟨ret_bool ?_, hbw⟩
        rw [HR.out]
        rw [show x.right = false by (have := of_decide_eq_true t4; simp [En.right]; intros; omega)]; rfl
      have hxr : x.right = true := by
        have a2 := of_decide_eq_false t2; have a3 := of_decide_eq_false t3; have a4 := of_decide_eq_false t4
        simp [En.right, h1]; omega
      rcases Nat.eq_zero_or_pos k with h0 | h0
      · have t0 : decide ((0 : Int) < (k : Int)) = false := by simp; omega
        have t0' : decide (0 < k) = false := by simp; omega
        have H0 := hid h0
        clear h0 hprev
        refine wp_region_far (wr.heap.size + 1) (by kernel_rfl) (by kernel_rfl) ?_
        repeat (go_big_quiet_step (first | (go_at_call 109; exact Calls.far_of (by simp) (dright_any x.dot _)) | (go_at_call 209; exact Calls.far_of (by simp) (dcmp_any y.dot x.dot _))))
        refine wpQuiet_nil ?_
        intro wq hbq
        have hbw : Below w.heap.size w wq := (hb.alloc hsz _).trans (hbq.mono (by omega))
        go_wp2_with fail
        go_roundw
        case rel =>
          refine ⟨k + 1, by omega, by go_num, ?_, hbw⟩
          show _ = _
          rw [HR.out, hxr]
          rw [show prevD es k = none by (rw [H0.out]; rfl)]; simp [okP]
        case measure => simp [intOf]; omega
      obtain ⟨hy, hq⟩ := hprev h0
      have q0 := fun p => (hq p).1
      have q1 := fun p => (hq p).2
      clear hq hprev
      have hyp : Hid (prevD es k = some y.dot) := by unfold Hid prevD; rw [if_neg (by omega), hy]; rfl
      clear hy
      rcases t5 : decide (0 ≤ y.dot.cmp x.dot)
      · refine wp_region_far (wr.heap.size + 1) (by kernel_rfl) (by kernel_rfl) ?_
        repeat (go_big_quiet_step (first | (go_at_call 109; exact Calls.far_of (by simp) (dright_any x.dot _)) | (go_at_call 209; exact Calls.far_of (by simp) (dcmp_any y.dot x.dot _))))
        refine wpQuiet_nil ?_
        intro wq hbq
        have hbw : Below w.heap.size w wq := (hb.alloc hsz _).trans (hbq.mono (by omega))
        go_wp2_with fail
        go_roundw
        case rel =>
          refine ⟨k + 1, by omega, by go_num, ?_, hbw⟩
          show _ = _
          rw [HR.out, hxr]
          rw [cmp_lt] at t5; rw [hyp.out]; simp at t5; simp [okP, t5]
        case measure => simp [intOf]; omega
      · refine wp_region_far (wr.heap.size + 1) (by kernel_rfl) (by kernel_rfl) ?_
        repeat (go_big_quiet_step (first | (go_at_call 109; exact Calls.far_of (by simp) (dright_any x.dot _)) | (go_at_call 209; exact Calls.far_of (by simp) (dcmp_any y.dot x.dot _))))
        refine wpQuiet_nil ?_
        intro wq hbq
        have hbw : Below w.heap.size w wq := (hb.alloc hsz _).trans (hbq.mono (by omega))
        go_wp2_with fail
        go_ret
        refine ⟨ret_bool ?_, hbw⟩
        rw [HR.out]
        rw [cmp_lt] at t5; rw [hyp.out]; simp at t5; simp [okP, t5]
    · obtain rfl : k = es.length := by omega
      have hr := hrel.out
      go_wp2_with fail
      go_ret
      exact ⟨ret_bool (by rw [← hr]; simp [entsB]), hb⟩
end Go.Proofs.YtlapdmgjfdelnaaGreat

namespace Go.Proofs.YtlapdmgjfdelnaaGreat
open Go.RowKit
set_option maxRecDepth 100000

def okK : Option ByteArray → ByteArray → Bool
  | none, _ => true
  | some q, k => Op.bytesLess q.toList k.toList
mutual
def Tr.right : Tr → Int → Bool
  | .mk es ks, deep => decide (1 ≤ deep) && entsB none es && Tr.rightL none ks deep
def Tr.rightL : Option ByteArray → List (ByteArray × Tr) → Int → Bool
  | _, [], _ => true
  | p, (k, t) :: ks, deep => keyB k && okK p k && !t.empty && t.right (deep - 1) && Tr.rightL (some k) ks deep
end
theorem rightL_cons (p : Option ByteArray) (k : ByteArray) (t : Tr) (ks : List Kd) (deep : Int) : Tr.rightL p ((k, t) :: ks) deep = (keyB k && okK p k && !t.empty && t.right (deep - 1) && Tr.rightL (some k) ks deep) := by
  cases p <;> rw [Tr.rightL]
def prevK (ks : List Kd) (k : Nat) : Option ByteArray := if k = 0 then none else ks[k - 1]?.map (·.1)
theorem prevK_succ {ks : List Kd} {k : Nat} {x : Kd} (h : ks[k]? = some x) : prevK ks (k + 1) = some x.1 := by simp [prevK, h]

set_option maxHeartbeats 4000000 in
theorem tright_any (t : Tr) : ∀ (deep : Int) (w : World) (ve vk : Value), t.rd w w.heap.size ve vk → 0 ≤ deep → deep ≤ 1000 →
    Calls Tryz.prog 133 #[.agg #[ve, vk], .int .i64 deep] w fun e w' => e = .returned (.bool (t.right deep)) ∧ Below w.heap.size w w' := by
  induction t using Tr.ind with
  | h es ks ih =>
  intro deep w ve vk h h0 h1
  rw [rd_iff] at h
  obtain ⟨hes, ⟨A, m, rfl, c1, c2, c3⟩⟩ := h
  unfold Big at c2
  by_cases hd : deep < 1
  · go_enter Tryz.func133, Tryz.ntmps133
    go_wp2_with fail
    go_ret
    exact ⟨ret_bool (by rw [Tr.right]; simp; omega), by go_grown⟩
  have hd' : decide (deep < 1) = false := by simpa using hd
  rcases hE : entsB none es
  · go_enter Tryz.func133, Tryz.ntmps133
    go_wp2_with (go_at_call 178; refine (tents_any es ve _ (hes.imp ((Below.refl _ w).alloc (Nat.le_refl _) _) (by simp) (fun _ _ _ h => h))).mono ?_; rw [hE]; rintro e w1 ⟨rfl, hb1⟩)
    go_ret
    exact ⟨ret_bool (by rw [Tr.right, hE]; simp), ((Below.refl _ w).alloc (Nat.le_refl _) _).trans (hb1.mono (by simp))⟩
  go_enter Tryz.func133, Tryz.ntmps133
  go_wp2_with (go_at_call 178; refine (tents_any es ve _ (hes.imp ((Below.refl _ w).alloc (Nat.le_refl _) _) (by simp) (fun _ _ _ h => h))).mono ?_; rw [hE]; rintro e w1 ⟨rfl, hb1⟩; have hsz1 := hb1.size; obtain ⟨hc1, _⟩ := bcell hb1)
  have hE := hid hE
  simp only [World.size_alloc] at hb1 hsz1
  clear hc1
  go_loopw [18] (fun i wr => ∃ k : Nat, k ≤ ks.length ∧ i = .int .i64 k ∧ Hid (Tr.rightL (prevK ks k) (ks.drop k) deep = Tr.rightL none ks deep) ∧ Below (w.heap.size + 1) (w.alloc (.cells #[ve, .slice A ks.length m] 25)) wr) (fun i _ => ks.length - (intOf i).toNat)
  case atStart => exact ⟨0, Nat.zero_le _, rfl, rfl, hb1⟩
  case round =>
    obtain ⟨k, hk, rfl, hrel, hb⟩ := hrel
    clear hb1 hsz1
    have hsz := hb.size
    simp only [World.size_alloc] at hsz
    by_cases hlt : k < ks.length
    · obtain ⟨⟨key, t⟩, hx⟩ : ∃ x, ks[k]? = some x := ⟨_, List.getElem?_eq_getElem hlt⟩
      obtain ⟨b, off, rfl, hbB, hc⟩ := c3 (by rintro rfl; simp at hlt)
      obtain ⟨cs, ⟨ve', vk', rfl, hkb, hrd⟩, _, hu⟩ := hc k _ hx
      have hbo : ∀ o, wr.cell? ⟨b, o, none⟩ = w.cell? ⟨b, o, none⟩ := fun o => (hb.cell (p := ⟨b, o, none⟩) (by simp; omega)).trans (World.cell?_alloc_lt _ _ _ hbB)
      have hmem : (key, t) ∈ ks := List.mem_of_getElem? hx
      obtain ⟨es', ks'⟩ := t
      have hrd0 := hrd
      rw [rd_iff] at hrd
      obtain ⟨⟨A1, n1, rfl, l1, _, _⟩, ⟨A2, n2, rfl, l2, _, _⟩⟩ := hrd
      have e0 : wr.cell? ⟨b, off + k * 3, none⟩ = some (.string key) := (hbo _).trans (hu 0 _ rfl)
      have e1 : wr.cell? ⟨b, off + k * 3 + 1, none⟩ = some (.slice A1 es'.length n1) := (hbo _).trans (hu 1 _ rfl)
      have e2 : wr.cell? ⟨b, off + k * 3 + 2, none⟩ = some (.slice A2 ks'.length n2) := (hbo _).trans (hu 2 _ rfl)
      have hB0 : Below w.heap.size w wr := ((Below.refl _ w).alloc (Nat.le_refl _) _).trans (hb.mono (by omega))
      have HO := hid hbo
      clear hu hbo
      go_wp2_with fail
      have hrd : Hid (∀ w', Below (wr.heap.size + 1) (wr.alloc (.cells #[.string key, .slice A1 es'.length n1, .slice A2 ks'.length n2] 126)) w' → (Tr.mk es' ks').rd w' w'.heap.size (.slice A1 es'.length n1) (.slice A2 ks'.length n2)) := fun w' hb' => by
        have h1 := hb'.size
        simp only [World.size_alloc] at h1
        exact rd_below ((hB0.alloc (by omega) _).trans (hb'.mono (by omega))) (by omega) _ _ _ hrd0
      have f0 : ∀ p : Far (wr.heap.size + 1) (wr.alloc (.cells #[.string key, .slice A1 es'.length n1, .slice A2 ks'.length n2] 126)), p.w'.cell? ⟨wr.heap.size, 0, none⟩ = some (.string key) := far_cell (by simp) (by omega)
      have f1 : ∀ p : Far (wr.heap.size + 1) (wr.alloc (.cells #[.string key, .slice A1 es'.length n1, .slice A2 ks'.length n2] 126)), p.w'.cell? ⟨wr.heap.size, 1, none⟩ = some (.slice A1 es'.length n1) := far_cell (by simp) (by omega)
      have f2 : ∀ p : Far (wr.heap.size + 1) (wr.alloc (.cells #[.string key, .slice A1 es'.length n1, .slice A2 ks'.length n2] 126)), p.w'.cell? ⟨wr.heap.size, 2, none⟩ = some (.slice A2 ks'.length n2) := far_cell (by simp) (by omega)
      have g1 : ∀ p : Far (wr.heap.size + 1) (wr.alloc (.cells #[.string key, .slice A1 es'.length n1, .slice A2 ks'.length n2] 126)), p.w'.cell? ⟨w.heap.size, 1, none⟩ = some (.slice (some ⟨b, off, none⟩) ks.length m) := far_cell (by
        rw [World.cell?_alloc_lt _ _ _ (by exact hsz)]; rw [hb.cell (p := ⟨w.heap.size, 1, none⟩) (by simp)]; simp) (by omega)
      have hprev : ∃ q : ByteArray, (0 < k → prevK ks k = some q ∧ (∀ p : Far (wr.heap.size + 1) (wr.alloc (.cells #[.string key, .slice A1 es'.length n1, .slice A2 ks'.length n2] 126)), p.w'.cell? ⟨b, off + (k - 1) * 3, none⟩ = some (.string q))) := by
        by_cases h0 : 0 < k
        · obtain ⟨y, hy⟩ : ∃ y, ks[k - 1]? = some y := ⟨_, List.getElem?_eq_getElem (by omega)⟩
          obtain ⟨cs, ⟨_, _, rfl, _⟩, _, hu⟩ := hc (k - 1) _ hy
          refine ⟨y.1, fun _ => ⟨by rw [prevK, if_neg (by omega), hy]; rfl, fun p => far_cell ?_ (by omega) p⟩⟩
          rw [World.cell?_alloc_lt _ _ _ (by show b < wr.heap.size; omega)]; exact (HO.out _).trans (hu 0 _ rfl)
        · exact ⟨key, fun h => absurd h h0⟩
      obtain ⟨q, hprev⟩ := hprev
      have HR : Hid (Tr.rightL none ks deep = (keyB key && okK (prevK ks k) key && !(Tr.mk es' ks').empty && (Tr.mk es' ks').right (deep - 1) && Tr.rightL (prevK ks (k + 1)) (ks.drop (k + 1)) deep)) := by
        have := hrel.out
        rw [drop_cons hx, rightL_cons] at this
        rw [prevK_succ hx]; exact this.symm
      have HX : Hid (ks[k]? = some (key, .mk es' ks')) := hx
      have hemp : (Tr.mk es' ks').empty = empB es'.length ks'.length := by
        rw [Bool.eq_iff_iff]; simp [Tr.empty, empB]
      have HM := hid hemp
      clear hc hrel c3 hx e0 e1 e2 hrd0 hemp
      rcases h1 : keyB key
      · refine wp_region_far (wr.heap.size + 1) (by kernel_rfl) (by kernel_rfl) ?_
        repeat (go_big_quiet_step (first | (go_at_call 179; exact Calls.far_of (by simp) (tkey_any key _)) | (go_at_call 176; exact Calls.far_of (by simp) (tempty_any es'.length ks'.length _ _ _ _ _)) | (go_at_call 133; exact Calls.far_all (by simp) (fun w' hb' => (ih key (.mk es' ks') hmem (deep - 1) w' _ _ (hrd.out w' hb') (by omega) (by omega))))))
        refine wpQuiet_nil ?_
        intro wq hbq
        have hbw : Below (w.heap.size + 1) (w.alloc (.cells #[ve, .slice (some ⟨b, off, none⟩) ks.length m] 25)) wq := (hb.alloc (by omega) _).trans (hbq.mono (by omega))
        go_wp2_with fail
        go_ret
        refine ⟨ret_bool ?_, ((Below.refl _ w).alloc (Nat.le_refl _) _).trans (hbw.mono (by omega))⟩
        rw [Tr.right, HR.out, hE.out]
        rw [h1]; simp
      rcases Nat.eq_zero_or_pos k with h0 | h0
      · have t0 : decide ((0 : Int) < (k : Int)) = false := by simp; omega
        have t0' : decide (0 < k) = false := by simp; omega
        have hpk : Hid (okK (prevK ks k) key = true) := by rw [show prevK ks k = none by (rw [h0]; rfl)]; rfl
        clear h0 hprev
        rcases h6 : empB es'.length ks'.length
        case true =>
          refine wp_region_far (wr.heap.size + 1) (by kernel_rfl) (by kernel_rfl) ?_
          repeat (go_big_quiet_step (first | (go_at_call 179; exact Calls.far_of (by simp) (tkey_any key _)) | (go_at_call 176; exact Calls.far_of (by simp) (tempty_any es'.length ks'.length _ _ _ _ _)) | (go_at_call 133; exact Calls.far_all (by simp) (fun w' hb' => (ih key (.mk es' ks') hmem (deep - 1) w' _ _ (hrd.out w' hb') (by omega) (by omega))))))
          refine wpQuiet_nil ?_
          intro wq hbq
          have hbw : Below (w.heap.size + 1) (w.alloc (.cells #[ve, .slice (some ⟨b, off, none⟩) ks.length m] 25)) wq := (hb.alloc (by omega) _).trans (hbq.mono (by omega))
          go_wp2_with fail
          go_ret
          refine ⟨ret_bool ?_, ((Below.refl _ w).alloc (Nat.le_refl _) _).trans (hbw.mono (by omega))⟩
          rw [Tr.right, HR.out, hE.out]
          rw [HM.out, h6]; simp
        rcases h7 : (Tr.mk es' ks').right (deep - 1)
        · refine wp_region_far (wr.heap.size + 1) (by kernel_rfl) (by kernel_rfl) ?_
          repeat (go_big_quiet_step (first | (go_at_call 179; exact Calls.far_of (by simp) (tkey_any key _)) | (go_at_call 176; exact Calls.far_of (by simp) (tempty_any es'.length ks'.length _ _ _ _ _)) | (go_at_call 133; exact Calls.far_all (by simp) (fun w' hb' => (ih key (.mk es' ks') hmem (deep - 1) w' _ _ (hrd.out w' hb') (by omega) (by omega))))))
          refine wpQuiet_nil ?_
          intro wq hbq
          have hbw : Below (w.heap.size + 1) (w.alloc (.cells #[ve, .slice (some ⟨b, off, none⟩) ks.length m] 25)) wq := (hb.alloc (by omega) _).trans (hbq.mono (by omega))
          go_wp2_with fail
          go_ret
          refine ⟨ret_bool ?_, ((Below.refl _ w).alloc (Nat.le_refl _) _).trans (hbw.mono (by omega))⟩
          rw [Tr.right, HR.out, hE.out]
          rw [h7]; simp
        · refine wp_region_far (wr.heap.size + 1) (by kernel_rfl) (by kernel_rfl) ?_
          repeat (go_big_quiet_step (first | (go_at_call 179; exact Calls.far_of (by simp) (tkey_any key _)) | (go_at_call 176; exact Calls.far_of (by simp) (tempty_any es'.length ks'.length _ _ _ _ _)) | (go_at_call 133; exact Calls.far_all (by simp) (fun w' hb' => (ih key (.mk es' ks') hmem (deep - 1) w' _ _ (hrd.out w' hb') (by omega) (by omega))))))
          refine wpQuiet_nil ?_
          intro wq hbq
          have hbw : Below (w.heap.size + 1) (w.alloc (.cells #[ve, .slice (some ⟨b, off, none⟩) ks.length m] 25)) wq := (hb.alloc (by omega) _).trans (hbq.mono (by omega))
          go_wp2_with fail
          go_roundw
          case rel =>
            refine ⟨k + 1, by omega, by go_num, ?_, hbw⟩
            show _ = _
            rw [HR.out, h1]
            rw [hpk.out, HM.out, h6, h7]; simp
          case measure => simp [intOf]; omega
      · obtain ⟨hq, q0⟩ := hprev h0
        rcases t5 : Op.bytesLess q.toList key.toList
        · have hpk : Hid (okK (prevK ks k) key = false) := by rw [hq]; exact t5
          clear hprev hq
          refine wp_region_far (wr.heap.size + 1) (by kernel_rfl) (by kernel_rfl) ?_
          repeat (go_big_quiet_step (first | (go_at_call 179; exact Calls.far_of (by simp) (tkey_any key _)) | (go_at_call 176; exact Calls.far_of (by simp) (tempty_any es'.length ks'.length _ _ _ _ _)) | (go_at_call 133; exact Calls.far_all (by simp) (fun w' hb' => (ih key (.mk es' ks') hmem (deep - 1) w' _ _ (hrd.out w' hb') (by omega) (by omega))))))
          refine wpQuiet_nil ?_
          intro wq hbq
          have hbw : Below (w.heap.size + 1) (w.alloc (.cells #[ve, .slice (some ⟨b, off, none⟩) ks.length m] 25)) wq := (hb.alloc (by omega) _).trans (hbq.mono (by omega))
          go_wp2_with fail
          go_ret
          refine ⟨ret_bool ?_, ((Below.refl _ w).alloc (Nat.le_refl _) _).trans (hbw.mono (by omega))⟩
          rw [Tr.right, HR.out, hE.out]
          rw [h1, hpk.out]; simp
        · have hpk : Hid (okK (prevK ks k) key = true) := by rw [hq]; exact t5
          clear hprev hq
          rcases h6 : empB es'.length ks'.length
          case true =>
            refine wp_region_far (wr.heap.size + 1) (by kernel_rfl) (by kernel_rfl) ?_
            repeat (go_big_quiet_step (first | (go_at_call 179; exact Calls.far_of (by simp) (tkey_any key _)) | (go_at_call 176; exact Calls.far_of (by simp) (tempty_any es'.length ks'.length _ _ _ _ _)) | (go_at_call 133; exact Calls.far_all (by simp) (fun w' hb' => (ih key (.mk es' ks') hmem (deep - 1) w' _ _ (hrd.out w' hb') (by omega) (by omega))))))
            refine wpQuiet_nil ?_
            intro wq hbq
            have hbw : Below (w.heap.size + 1) (w.alloc (.cells #[ve, .slice (some ⟨b, off, none⟩) ks.length m] 25)) wq := (hb.alloc (by omega) _).trans (hbq.mono (by omega))
            go_wp2_with fail
            go_ret
            refine ⟨ret_bool ?_, ((Below.refl _ w).alloc (Nat.le_refl _) _).trans (hbw.mono (by omega))⟩
            rw [Tr.right, HR.out, hE.out]
            rw [HM.out, h6]; simp
          rcases h7 : (Tr.mk es' ks').right (deep - 1)
          · refine wp_region_far (wr.heap.size + 1) (by kernel_rfl) (by kernel_rfl) ?_
            repeat (go_big_quiet_step (first | (go_at_call 179; exact Calls.far_of (by simp) (tkey_any key _)) | (go_at_call 176; exact Calls.far_of (by simp) (tempty_any es'.length ks'.length _ _ _ _ _)) | (go_at_call 133; exact Calls.far_all (by simp) (fun w' hb' => (ih key (.mk es' ks') hmem (deep - 1) w' _ _ (hrd.out w' hb') (by omega) (by omega))))))
            refine wpQuiet_nil ?_
            intro wq hbq
            have hbw : Below (w.heap.size + 1) (w.alloc (.cells #[ve, .slice (some ⟨b, off, none⟩) ks.length m] 25)) wq := (hb.alloc (by omega) _).trans (hbq.mono (by omega))
            go_wp2_with fail
            go_ret
            refine ⟨ret_bool ?_, ((Below.refl _ w).alloc (Nat.le_refl _) _).trans (hbw.mono (by omega))⟩
            rw [Tr.right, HR.out, hE.out]
            rw [h7]; simp
          · refine wp_region_far (wr.heap.size + 1) (by kernel_rfl) (by kernel_rfl) ?_
            repeat (go_big_quiet_step (first | (go_at_call 179; exact Calls.far_of (by simp) (tkey_any key _)) | (go_at_call 176; exact Calls.far_of (by simp) (tempty_any es'.length ks'.length _ _ _ _ _)) | (go_at_call 133; exact Calls.far_all (by simp) (fun w' hb' => (ih key (.mk es' ks') hmem (deep - 1) w' _ _ (hrd.out w' hb') (by omega) (by omega))))))
            refine wpQuiet_nil ?_
            intro wq hbq
            have hbw : Below (w.heap.size + 1) (w.alloc (.cells #[ve, .slice (some ⟨b, off, none⟩) ks.length m] 25)) wq := (hb.alloc (by omega) _).trans (hbq.mono (by omega))
            go_wp2_with fail
            go_roundw
            case rel =>
              refine ⟨k + 1, by omega, by go_num, ?_, hbw⟩
              show _ = _
              rw [HR.out, h1]
              rw [hpk.out, HM.out, h6, h7]; simp
            case measure => simp [intOf]; omega
    · obtain rfl : k = ks.length := by omega
      have hr := hrel.out
      go_wp2_with fail
      go_ret
      refine ⟨ret_bool ?_, ((Below.refl _ w).alloc (Nat.le_refl _) _).trans (hb.mono (by omega))⟩
      rw [Tr.right, ← hr, hE.out]
      simp [Tr.rightL]; omega
end Go.Proofs.YtlapdmgjfdelnaaGreat

namespace Go.Proofs.YtlapdmgjfdelnaaGreat
open Go.RowKit
set_option maxRecDepth 100000

mutual
def Tr.lvs : Tr → List ByteArray → List Lf
  | .mk es ks, p => es.map (fun e => (p, e)) ++ Tr.lvsL ks p
def Tr.lvsL : List (ByteArray × Tr) → List ByteArray → List Lf
  | [], _ => []
  | (k, t) :: ks, p => t.lvs (p ++ [k]) ++ Tr.lvsL ks p
end
mutual
theorem lvs_len : ∀ (t : Tr) (p : List ByteArray), (t.lvs p).length ≤ t.sz
  | .mk es ks, p => by rw [Tr.lvs, Tr.sz]; have := lvsL_len ks p; simp; omega
theorem lvsL_len : ∀ (ks : List (ByteArray × Tr)) (p : List ByteArray), (Tr.lvsL ks p).length ≤ Tr.szL ks
  | [], p => by simp [Tr.lvsL]
  | (k, t) :: ks, p => by rw [Tr.lvsL, Tr.szL]; have := lvs_len t (p ++ [k]); have := lvsL_len ks p; simp; omega
end
end Go.Proofs.YtlapdmgjfdelnaaGreat

namespace Go.Proofs.YtlapdmgjfdelnaaGreat
open Go.RowKit
set_option maxRecDepth 100000

def partL (c : List Sp) (dc : Int) : List (Int × Int) := (c.filter fun s => s.dc == dc).map fun s => (s.fr, s.hi)
theorem partL_take {c : List Sp} {k : Nat} {x : Sp} (h : c[k]? = some x) (dc : Int) : partL (c.take (k + 1)) dc = partL (c.take k) dc ++ (if x.dc = dc then [(x.fr, x.hi)] else []) := by
  unfold partL
  rw [List.take_add_one, h]
  by_cases hd : x.dc = dc <;> simp [hd]
theorem partL_len (c : List Sp) (dc : Int) : (partL c dc).length ≤ c.length := by
  unfold partL; rw [List.length_map]; exact List.length_filter_le _ _

end Go.Proofs.YtlapdmgjfdelnaaGreat

namespace Go.Proofs.YtlapdmgjfdelnaaGreat
open Go.RowKit
set_option maxRecDepth 100000

def inR (r : Int × Int) (n : Int) : Bool := decide (r.1 ≤ n) && decide (n ≤ r.2)
def hasL (l : List (Int × Int)) (n : Int) : Bool := l.any fun r => inR r n
def RunsOk (l : List (Int × Int)) : Prop := ∀ r ∈ l, 0 ≤ r.1 ∧ r.1 ≤ 1099511627777 ∧ 0 ≤ r.2 ∧ r.2 ≤ 1099511627777
def nextS (above : Int) (s : Int × Bool) (x : Int) : Int × Bool := if above < x ∧ (s.2 = false ∨ x < s.1) then (x, true) else s
def nextL (l : List Int) (above : Int) : Int × Bool := l.foldl (nextS above) (0, false)
def endsL (l : List (Int × Int)) : List Int := l.flatMap fun r => [r.1, r.2 + 1]
def spansL (dc : Int) (l : List (Int × Int)) : List Sp := l.map fun r => ⟨dc, r.1, r.2⟩

theorem take_succ' {α : Type} {xs : List α} {k : Nat} {x : α} (h : xs[k]? = some x) : xs.take (k + 1) = xs.take k ++ [x] := by rw [List.take_add_one, h]; rfl

end Go.Proofs.YtlapdmgjfdelnaaGreat

namespace Go.Proofs.YtlapdmgjfdelnaaGreat
open Go.RowKit
set_option maxRecDepth 100000

mutual
def Tr.dots : Tr → List Dt
  | .mk es ks => es.map En.dot ++ Tr.dotsL ks
def Tr.dotsL : List (ByteArray × Tr) → List Dt
  | [] => []
  | (_, t) :: ks => t.dots ++ Tr.dotsL ks
end
theorem dotsL_take {ks : List Kd} {k : Nat} {x : Kd} (h : ks[k]? = some x) : Tr.dotsL (ks.take (k + 1)) = Tr.dotsL (ks.take k) ++ x.2.dots := by
  induction ks generalizing k with
  | nil => simp at h
  | cons y ks ih =>
    obtain ⟨yk, yt⟩ := y
    cases k with
    | zero => simp at h; subst h; simp [Tr.dotsL]
    | succ k => simp only [List.take_succ_cons]; rw [Tr.dotsL, Tr.dotsL, ih (by simpa using h), List.append_assoc]
theorem dotsL_len {ks : List Kd} (k : Nat) : (Tr.dotsL (ks.take k)).length ≤ (Tr.dotsL ks).length := by
  induction ks generalizing k with
  | nil => simp
  | cons y ks ih =>
    obtain ⟨yk, yt⟩ := y
    cases k with
    | zero => simp [Tr.dotsL]
    | succ k => simp only [List.take_succ_cons]; rw [Tr.dotsL, Tr.dotsL]; have := ih k; simp; omega

set_option maxHeartbeats 1000000 in
theorem tall_any (t : Tr) : ∀ (w : World) (ve vk : Value), t.rd w w.heap.size ve vk → t.dots.length ≤ 1000000 →
    Calls Tryz.prog 158 #[.agg #[ve, vk]] w (RetO w 52 2 (fun _ => DtE) t.dots) := by
  induction t using Tr.ind with
  | h es ks ih =>
  intro w ve vk h hN
  rw [rd_iff] at h
  obtain ⟨⟨A1, n, rfl, b1, b2, b3⟩, ⟨A2, m, rfl, c1, c2, c3⟩⟩ := h
  unfold Big at b2 c2
  rw [Tr.dots, List.length_append, List.length_map] at hN
  go_enter Tryz.func158, Tryz.ntmps158
  go_wp2_with fail
  go_loopw [3, 11] (fun v i wr => ∃ k : Nat, k ≤ es.length ∧ i = .int .i64 k ∧ OwnP wr (w.heap.size + 1) 52 2 DtE v ((es.take k).map En.dot) ∧
      Below (w.heap.size + 1) (w.alloc (.cells #[.slice A1 es.length n, .slice A2 ks.length m] 25)) wr) (fun _ i _ => es.length - (intOf i).toNat)
  case atStart => exact ⟨0, Nat.zero_le _, rfl, OwnP.nil, Below.refl _ _⟩
  case round =>
    obtain ⟨k, hk, rfl, hown, hb⟩ := hrel
    have hsz := hb.size
    simp only [World.size_alloc] at hsz
    have hl1 : ((es.take k).map En.dot).length = k := by simp; omega
    by_cases hlt : k < es.length
    · obtain ⟨x, hx⟩ : ∃ x, es[k]? = some x := ⟨_, List.getElem?_eq_getElem hlt⟩
      obtain ⟨b, off, rfl, hbB, hc⟩ := b3 (by rintro rfl; simp at hlt)
      obtain ⟨cs, ⟨rfl, hok⟩, _, hu⟩ := hc k _ hx
      have hbo : ∀ o, wr.cell? ⟨b, o, none⟩ = w.cell? ⟨b, o, none⟩ := fun o => (hb.cell (p := ⟨b, o, none⟩) (by simp; omega)).trans (World.cell?_alloc_lt _ _ _ hbB)
      have e0 : wr.cell? ⟨b, off + k * 4, none⟩ = some (.int .i64 x.dc) := (hbo _).trans (hu 0 _ rfl)
      have e1 : wr.cell? ⟨b, off + k * 4 + 1, none⟩ = some (.int .i64 x.n) := (hbo _).trans (hu 1 _ rfl)
      have e2 : wr.cell? ⟨b, off + k * 4 + 2, none⟩ = some (.string x.s) := (hbo _).trans (hu 2 _ rfl)
      have e3 : wr.cell? ⟨b, off + k * 4 + 3, none⟩ = some (.int .i64 x.v) := (hbo _).trans (hu 3 _ rfl)
      have hd : x.dot.Ok := ⟨hok.dc, hok.n⟩
      have HX : Hid ((es.take (k + 1)).map En.dot = (es.take k).map En.dot ++ [x.dot]) := by
        unfold Hid; rw [List.take_add_one, hx]; simp
      have HL : Hid (((es.take k).map En.dot).length + [x.dot].length ≤ Few) := by unfold Hid Few; rw [hl1]; simp; omega
      clear hu hbo hx hc b3 hok hl1
      have HB : Hid (w.heap.size + 1 ≤ wr.heap.size + 1 + 1) := by unfold Hid; omega
      go_wp2_with (at_builtin; go_loud (refine wpList_few rfl (.tmp 15) (.tmp 18) _ rfl eiDot (by decide) (by decide) (fun _ _ h => h.one) rfl ((hown.alloc _).alloc _) rfl (SlP.one (x := x.dot) (cs := [.int .i64 x.dc, .int .i64 x.n]) ⟨rfl, hd⟩ rfl _ (World.size_alloc _ _).symm) HL.out (by rw [World.size_alloc, World.size_alloc]; exact HB.out) ?_); intro v1 w1 hown1 hb1 _)
      go_roundw
      case rel =>
        refine ⟨k + 1, by omega, by go_num, by rw [HX.out]; exact hown1, ((hb.alloc (by omega) _).alloc (by simp; omega) _).trans hb1⟩
      case measure => simp [intOf]; omega
    · obtain rfl : k = es.length := by omega
      clear hl1
      rw [List.take_of_length_le (Nat.le_refl _)] at hown
      have hw1 : wr.cell? ⟨w.heap.size, 1, none⟩ = some (.slice A2 ks.length m) := by rw [hb.cell (p := ⟨w.heap.size, 1, none⟩) (by simp)]; simp
      go_wp2_with fail
      obtain ⟨wo, rfl⟩ : ∃ wo : World, wo = wr := ⟨_, rfl⟩
      go_loopw [3, 24] (fun v i wr => ∃ k : Nat, k ≤ ks.length ∧ i = .int .i64 k ∧ OwnP wr (w.heap.size + 1) 52 2 DtE v (es.map En.dot ++ Tr.dotsL (ks.take k)) ∧
          Below (w.heap.size + 1) (w.alloc (.cells #[.slice A1 es.length n, .slice A2 ks.length m] 25)) wr) (fun _ i _ => ks.length - (intOf i).toNat)
      case atStart => exact ⟨0, Nat.zero_le _, rfl, by simpa [Tr.dotsL] using hown, hb⟩
      case round =>
        obtain ⟨k, hk, rfl, hown, hb⟩ := hrel
        clear hw1
        have hsz := hb.size
        simp only [World.size_alloc] at hsz
        by_cases hlt : k < ks.length
        · obtain ⟨⟨key, t⟩, hx⟩ : ∃ x, ks[k]? = some x := ⟨_, List.getElem?_eq_getElem hlt⟩
          obtain ⟨b, off, rfl, hbB, hc⟩ := c3 (by rintro rfl; simp at hlt)
          obtain ⟨cs, ⟨ve', vk', rfl, hkb, hrd⟩, _, hu⟩ := hc k _ hx
          obtain ⟨A3, n3, A4, n4, rfl, rfl⟩ := rd_shape hrd
          have hbo : ∀ o, wr.cell? ⟨b, o, none⟩ = w.cell? ⟨b, o, none⟩ := fun o => (hb.cell (p := ⟨b, o, none⟩) (by simp; omega)).trans (World.cell?_alloc_lt _ _ _ hbB)
          have e0 : wr.cell? ⟨b, off + k * 3, none⟩ = some (.string key) := (hbo _).trans (hu 0 _ rfl)
          have e1 : wr.cell? ⟨b, off + k * 3 + 1, none⟩ = some (.slice A3 t.es.length n3) := (hbo _).trans (hu 1 _ rfl)
          have e2 : wr.cell? ⟨b, off + k * 3 + 2, none⟩ = some (.slice A4 t.ks.length n4) := (hbo _).trans (hu 2 _ rfl)
          have hmem : (key, t) ∈ ks := List.mem_of_getElem? hx
          have hB0 : Below w.heap.size w wr := ((Below.refl _ w).alloc (Nat.le_refl _) _).trans (hb.mono (by omega))
          have HR : Hid (∀ o, t.rd (wr.alloc o) (wr.alloc o).heap.size (.slice A3 t.es.length n3) (.slice A4 t.ks.length n4)) := fun o => rd_below (hB0.alloc (by omega) _) (by simp; omega) _ _ _ hrd
          have hdl := dotsL_take hx
          have hln := dotsL_len (ks := ks) (k + 1)
          have HX : Hid (es.map En.dot ++ Tr.dotsL (ks.take (k + 1)) = es.map En.dot ++ Tr.dotsL (ks.take k) ++ t.dots) := by unfold Hid; rw [hdl, List.append_assoc]
          have HL : Hid ((es.map En.dot ++ Tr.dotsL (ks.take k)).length + t.dots.length ≤ Few) := by
            unfold Hid Few; rw [hdl] at hln; simp at hln ⊢; omega
          have hu1 : t.dots.length ≤ 1000000 := by have := HL.out; unfold Few at this; omega
          clear hu hbo hx hc c3 hrd hdl hln
          go_wp2_with (first
            | (go_at_call 158; refine (ih key t hmem _ _ _ (HR.out _) hu1).mono ?_; rintro e w2 ⟨v2, rfl, hv2, hb2⟩; have hs2 := hb2.size; simp only [World.size_alloc] at hs2)
            | (at_builtin; refine wpList_few rfl (.tmp 28) (.tmp 31) _ rfl eiDot (by decide) (by decide) (fun _ _ h => h.one) rfl ((hown.alloc _).grow hb2) rfl (hv2.sl (by unfold Big; omega)) HL.out (by omega) ?_; intro v1 w1 hown1 hb3 _))
          go_roundw
          case rel =>
            refine ⟨k + 1, by omega, by go_num, by rw [HX.out]; exact hown1, ((hb.alloc (by omega) _).trans (hb2.mono (by simp; omega))).trans hb3⟩
          case measure => simp [intOf]; omega
        · obtain rfl : k = ks.length := by omega
          rw [List.take_of_length_le (Nat.le_refl _)] at hown
          go_wp2_with fail
          go_ret
          have hz := hown.mono (Nat.le_succ w.heap.size)
          refine ⟨_, rfl, by rw [Tr.dots]; exact hz, ((Below.refl _ w).alloc (Nat.le_refl _) _).trans (hb.mono (by omega))⟩
end Go.Proofs.YtlapdmgjfdelnaaGreat

namespace Go.Proofs.YtlapdmgjfdelnaaGreat
open Go.RowKit
set_option maxRecDepth 100000

def okR : Option Int → Int → Bool
  | none, _ => true
  | some h, x => decide (h + 1 < x)
def runsR : Option Int → List (Int × Int) → Bool
  | _, [] => true
  | p, r :: rs => numB r.1 && numB r.2 && decide (r.1 ≤ r.2) && okR p r.1 && runsR (some r.2) rs
theorem runsR_cons (p : Option Int) (r : Int × Int) (rs : List (Int × Int)) : runsR p (r :: rs) = (numB r.1 && numB r.2 && decide (r.1 ≤ r.2) && okR p r.1 && runsR (some r.2) rs) := by cases p <;> rfl
def prevR (l : List (Int × Int)) (k : Nat) : Option Int := if k = 0 then none else l[k - 1]?.map (·.2)
theorem prevR_succ {l : List (Int × Int)} {k : Nat} {x : Int × Int} (h : l[k]? = some x) : prevR l (k + 1) = some x.2 := by simp [prevR, h]
set_option maxHeartbeats 4000000 in
theorem sright_any (l : List (Int × Int)) (v : Value) (w : World) (h : SlP w w.heap.size 2 RuE v l) :
    Calls Tryz.prog 204 #[v] w fun e w' => e = .returned (.bool (runsR none l)) ∧ Below w.heap.size w w' := by
  obtain ⟨A, n, rfl, b1, b2, b3⟩ := h
  unfold Big at b2
  go_enter Tryz.func204, Tryz.ntmps204
  go_wp2_with fail
  go_loopw [7] (fun i wr => ∃ k : Nat, k ≤ l.length ∧ i = .int .i64 k ∧ Hid (runsR (prevR l k) (l.drop k) = runsR none l) ∧ Hid (∀ h, prevR l k = some h → 1 ≤ h ∧ h ≤ 1099511627776) ∧ Below w.heap.size w wr) (fun i _ => l.length - (intOf i).toNat)
  case atStart => exact ⟨0, Nat.zero_le _, rfl, rfl, fun _ h => by simp [prevR] at h, Below.refl _ _⟩
  case round =>
    obtain ⟨k, hk, rfl, hrel, hpr, hb⟩ := hrel
    have hsz := hb.size
    by_cases hlt : k < l.length
    · obtain ⟨r, hx⟩ : ∃ x, l[k]? = some x := ⟨_, List.getElem?_eq_getElem hlt⟩
      obtain ⟨b, off, rfl, hbB, hc⟩ := b3 (by rintro rfl; simp at hlt)
      obtain ⟨cs, ⟨rfl, hok⟩, _, hu⟩ := hc k _ hx
      have e0 : wr.cell? ⟨b, off + k * 2, none⟩ = some (.int .i64 r.1) := (hb.cell hbB).trans (hu 0 _ rfl)
      have e1 : wr.cell? ⟨b, off + k * 2 + 1, none⟩ = some (.int .i64 r.2) := (hb.cell hbB).trans (hu 1 _ rfl)
      have HR : Hid (runsR none l = (numB r.1 && numB r.2 && decide (r.1 ≤ r.2) && okR (prevR l k) r.1 && runsR (prevR l (k + 1)) (l.drop (k + 1)))) := by
        have := hrel.out
        rw [drop_cons hx, runsR_cons] at this
        rw [prevR_succ hx]; exact this.symm
      have HPS := hid (prevR_succ hx)
      have f0 := far_cell (B := wr.heap.size + 1) (w := wr.alloc (.cells #[.int .i64 r.1, .int .i64 r.2] 201)) (b := wr.heap.size) (o := 0) (v := .int .i64 r.1) (by simp) (by omega)
      have f1 := far_cell (B := wr.heap.size + 1) (w := wr.alloc (.cells #[.int .i64 r.1, .int .i64 r.2] 201)) (b := wr.heap.size) (o := 1) (v := .int .i64 r.2) (by simp) (by omega)
      have hprev : ∃ q : Int, (0 < k → prevR l k = some q ∧ (∀ p : Far (wr.heap.size + 1) (wr.alloc (.cells #[.int .i64 r.1, .int .i64 r.2] 201)), p.w'.cell? ⟨b, off + (k - 1) * 2 + 1, none⟩ = some (.int .i64 q))) := by
        by_cases h0 : 0 < k
        · obtain ⟨y, hy⟩ : ∃ y, l[k - 1]? = some y := ⟨_, List.getElem?_eq_getElem (by omega)⟩
          obtain ⟨cs, ⟨rfl, _⟩, _, hu⟩ := hc (k - 1) _ hy
          refine ⟨y.2, fun _ => ⟨by rw [prevR, if_neg (by omega), hy]; rfl, fun p => far_cell ?_ (by omega) p⟩⟩
          rw [World.cell?_alloc_lt _ _ _ (by exact Nat.lt_of_lt_of_le hbB hsz)]; exact (hb.cell hbB).trans (hu 1 _ rfl)
        · exact ⟨0, fun h => absurd h h0⟩
      obtain ⟨q, hprev⟩ := hprev
      go_upto_region 4 with (fail)
      clear hrel hu hc b3 hx e0 e1
      rcases h1 : numB r.1
      · refine wp_region_far (wr.heap.size + 1) (by kernel_rfl) (by kernel_rfl) ?_
        repeat (go_big_quiet_step ((go_at_call 168; exact Calls.far_of (by simp) (eq_same (snum_any _ _)))))
        refine wpQuiet_nil ?_
        intro wq hbq
        have hbw : Below w.heap.size w wq := (hb.alloc (by omega) _).trans (hbq.mono (by omega))
        go_wp2_with fail
        go_ret
        refine ⟨ret_bool ?_, hbw⟩
        rw [HR.out]
        rw [h1]; simp
      rcases h2 : numB r.2
      · refine wp_region_far (wr.heap.size + 1) (by kernel_rfl) (by kernel_rfl) ?_
        repeat (go_big_quiet_step ((go_at_call 168; exact Calls.far_of (by simp) (eq_same (snum_any _ _)))))
        refine wpQuiet_nil ?_
        intro wq hbq
        have hbw : Below w.heap.size w wq := (hb.alloc (by omega) _).trans (hbq.mono (by omega))
        go_wp2_with fail
        go_ret
        refine ⟨ret_bool ?_, hbw⟩
        rw [HR.out]
        rw [h1, h2]; simp
      have HN : Hid (∀ h, prevR l (k + 1) = some h → 1 ≤ h ∧ h ≤ 1099511627776) := fun h hh => by rw [HPS.out] at hh; cases hh; simpa [numB] using h2
      rcases t3 : decide (r.2 < r.1)
      case true =>
        have h3 : Hid (decide (r.1 ≤ r.2) = false) := by have := of_decide_eq_true t3; unfold Hid; simp; omega
        refine wp_region_far (wr.heap.size + 1) (by kernel_rfl) (by kernel_rfl) ?_
        repeat (go_big_quiet_step ((go_at_call 168; exact Calls.far_of (by simp) (eq_same (snum_any _ _)))))
        refine wpQuiet_nil ?_
        intro wq hbq
        have hbw : Below w.heap.size w wq := (hb.alloc (by omega) _).trans (hbq.mono (by omega))
        go_wp2_with fail
        go_ret
        refine ⟨ret_bool ?_, hbw⟩
        rw [HR.out]
        rw [h1, h2, h3.out]; simp
      have h3 : Hid (decide (r.1 ≤ r.2) = true) := by have := of_decide_eq_false t3; unfold Hid; simp; omega
      rcases Nat.eq_zero_or_pos k with h0 | h0
      · have t0 : decide ((0 : Int) < (k : Int)) = false := by simp; omega
        have t0' : decide (0 < k) = false := by simp; omega
        have hpk : Hid (okR (prevR l k) r.1 = true) := by rw [show prevR l k = none by (rw [h0]; rfl)]; rfl
        clear h0 hprev
        refine wp_region_far (wr.heap.size + 1) (by kernel_rfl) (by kernel_rfl) ?_
        repeat (go_big_quiet_step ((go_at_call 168; exact Calls.far_of (by simp) (eq_same (snum_any _ _)))))
        refine wpQuiet_nil ?_
        intro wq hbq
        have hbw : Below w.heap.size w wq := (hb.alloc (by omega) _).trans (hbq.mono (by omega))
        go_wp2_with fail
        go_roundw
        case rel =>
          refine ⟨k + 1, by omega, by go_num, ?_, HN.out, hbw⟩
          show _ = _
          rw [HR.out, h1, h2]
          rw [h3.out, hpk.out]; simp
        case measure => simp [intOf]; omega
      · obtain ⟨hq, q0⟩ := hprev h0
        have hqb := hpr.out q hq
        have hwq : IntKind.i64.wrap (q + 1) = q + 1 := IntWalk.i64_in _ (by omega)
        have hwk : IntKind.i64.wrap ((k : Int) - 1) = (k : Int) - 1 := IntWalk.i64_in _ (by omega)
        rcases t5 : decide (r.1 ≤ q + 1)
        · have hpk : Hid (okR (prevR l k) r.1 = true) := by rw [hq]; have := of_decide_eq_false t5; unfold Hid; simp [okR]; omega
          clear hprev hq hqb
          refine wp_region_far (wr.heap.size + 1) (by kernel_rfl) (by kernel_rfl) ?_
          repeat (go_big_quiet_step ((go_at_call 168; exact Calls.far_of (by simp) (eq_same (snum_any _ _)))))
          refine wpQuiet_nil ?_
          intro wq hbq
          have hbw : Below w.heap.size w wq := (hb.alloc (by omega) _).trans (hbq.mono (by omega))
          go_wp2_with fail
          go_roundw
          case rel =>
            refine ⟨k + 1, by omega, by go_num, ?_, HN.out, hbw⟩
            show _ = _
            rw [HR.out, h1, h2]
            rw [h3.out, hpk.out]; simp
          case measure => simp [intOf]; omega
        · have hpk : Hid (okR (prevR l k) r.1 = false) := by rw [hq]; have := of_decide_eq_true t5; unfold Hid; simp [okR]; omega
          clear hprev hq hqb
          refine wp_region_far (wr.heap.size + 1) (by kernel_rfl) (by kernel_rfl) ?_
          repeat (go_big_quiet_step ((go_at_call 168; exact Calls.far_of (by simp) (eq_same (snum_any _ _)))))
          refine wpQuiet_nil ?_
          intro wq hbq
          have hbw : Below w.heap.size w wq := (hb.alloc (by omega) _).trans (hbq.mono (by omega))
          go_wp2_with fail
          go_ret
          refine ⟨ret_bool ?_, hbw⟩
          rw [HR.out]
          rw [h1, h2, h3.out, hpk.out]; simp
    · obtain rfl : k = l.length := by omega
      have hr := hrel.out
      go_wp2_with fail
      go_ret
      exact ⟨ret_bool (by rw [← hr]; simp [runsR]), hb⟩
end Go.Proofs.YtlapdmgjfdelnaaGreat

namespace Go.Proofs.YtlapdmgjfdelnaaGreat
open Go.RowKit
set_option maxRecDepth 100000
theorem tRight_any (t : Tr) (w : World) (ve vk : Value) (h : t.rd w w.heap.size ve vk) :
    Calls Tryz.prog 81 #[.agg #[ve, vk]] w fun e w' => e = .returned (.bool (t.right 5)) ∧ Below w.heap.size w w' := by
  obtain ⟨A, n, A', m, rfl, rfl⟩ := rd_shape h
  have hb0 : Below w.heap.size w (w.alloc (.cells #[.slice A t.es.length n, .slice A' t.ks.length m] 25)) := (Below.refl _ w).alloc (Nat.le_refl _) _
  go_enter Tryz.func81, Tryz.ntmps81
  go_wp2_with (go_at_call 133; refine (tright_any t 5 _ _ _ (rd_below hb0 (by simp) _ _ _ h) (by omega) (by omega)).mono ?_; rintro e w1 ⟨rfl, hb1⟩)
  go_ret
  exact ⟨rfl, hb0.trans (hb1.mono (by simp))⟩
end Go.Proofs.YtlapdmgjfdelnaaGreat

namespace Go.Proofs.YtlapdmgjfdelnaaGreat
open Go.RowKit
set_option maxRecDepth 100000

end Go.Proofs.YtlapdmgjfdelnaaGreat

namespace Go.Proofs.YtlapdmgjfdelnaaGreat
open Go.RowKit

def PopQ (Q : Exit → Act → World → Prop) (R : Act → World → Prop) : Exit → Act → World → Prop
  | .normal, a, w => R a w
  | e, a, w => Q e a w
theorem PopQ.wp {P : Program} {o : Oper} {a : Act} {w : World} {K : Act → World → Prop} {Q : Exit → Act → World → Prop} {R : Act → World → Prop} (h : o.wp P a w K (PopQ Q R)) : o.wp P a w K Q := by
  unfold Oper.wp at *
  cases hr : (execOp a.eval o).run P w with
  | ok n w' =>
    rw [hr] at h
    cases n with
    | value v => exact h
    | skip => exact h
    | defer d => exact h
    | enter f args => exact Calls.mono h fun e w'' he => by cases e <;> exact he
    | row row args => exact h
    | _ => exact h
  | halt x w' =>
    rw [hr] at h
    cases x <;> exact h

section
variable {P : Program} {Q : Exit → Act → World → Prop} {md : Region.Mode} {ops' : Array Oper} {o : Oper}
theorem all_listed (hord : ∀ (j : Nat) (x : Oper), ops'[j]? = some x → ∀ e ∈ x.after, e.on < j) {listed : Array Bool} (hs : listed.size = ops'.size) (hr : Region.ready md ops' listed = []) : ∀ j, j < ops'.size → listed.getD j false = true := by
  intro j
  induction j using Nat.strongRecOn with
  | ind j ih =>
    intro hj
    cases hl : listed.getD j false with
    | true => rfl
    | false =>
      have hx : ops'[j]? = some ops'[j] := Array.getElem?_eq_getElem hj
      have : j ∈ Region.ready md ops' listed := mem_ready.2 ⟨by simp [Array.getElem?_eq_getElem (hs ▸ hj : j < listed.size)] at hl ⊢; exact hl, _, hx, fun e he _ => ih e.on (hord j _ hx e he) (Nat.lt_trans (hord j _ hx e he) hj)⟩
      rw [hr] at this; cases this
theorem wpOp_pop (hg : ∀ (j : Nat) (x : Oper), ops'[j]? = some x → x.guard = none) {i : Nat} {a : Act} {w : World} {K K' : Act → World → Prop} {R : Act → World → Prop} (hi : i < ops'.size) (hK : ∀ a w, K a w → K' a w) (h : wpOp P ops' (PopQ Q R) i K a w) :
    wpOp P (ops'.push o) Q i K' a w := by
  have hx : ops'[i]? = some ops'[i] := Array.getElem?_eq_getElem hi
  have hx' : (ops'.push o)[i]? = some ops'[i] := by rw [Array.getElem?_push, if_neg (by omega)]; exact hx
  have hw : ∀ ops : Array Oper, Region.wanted ops'[i] (yielded ops a.tmps) = true := fun ops => by simp [Region.wanted, hg i _ hx]
  unfold wpOp at *
  rw [hx'] ; rw [hx] at h
  simp only [hw, if_true] at *
  rcases h with h | h
  · exact .inl (Oper.wp_mono hK (PopQ.wp h))
  · exact .inr h
theorem wpAny_pop (hg : ∀ (j : Nat) (x : Oper), ops'[j]? = some x → x.guard = none) (hord : ∀ (j : Nat) (x : Oper), ops'[j]? = some x → ∀ e ∈ x.after, e.on < j) (hlast : ∀ j, j < ops'.size → ∃ e ∈ o.after, Region.binds md e = true ∧ e.on = j) (hon : ∀ e ∈ o.after, e.on < ops'.size) (hgo : o.guard = none) :
    ∀ (fuel : Nat) (listed : Array Bool) (a : Act) (w : World), listed.size = ops'.size → wpAny P md ops' (PopQ Q (wpList P (ops'.push o) Q [o])) fuel listed a w → wpAny P md (ops'.push o) Q (fuel + 1) (listed.push false) a w := by
  have hin : ∀ (listed : Array Bool), listed.size = ops'.size → ∀ i, i ∈ Region.ready md (ops'.push o) (listed.push false) → (i < ops'.size ∧ i ∈ Region.ready md ops' listed) ∨ (i = ops'.size ∧ Region.ready md ops' listed = []) := by
    intro listed hs i hi
    obtain ⟨h1, x, hx, h2⟩ := mem_ready.1 hi
    have hlt : i < ops'.size + 1 := by have := (Array.getElem?_eq_some_iff.1 hx).1; simpa using this
    by_cases he : i < ops'.size
    · refine .inl ⟨he, mem_ready.2 ⟨?_, x, ?_, fun e hee hb => ?_⟩⟩
      · simp only [Array.getD_eq_getD_getElem?, Array.getElem?_push, if_neg (show ¬ i = listed.size by omega)] at h1 ⊢; exact h1
      · rw [Array.getElem?_push, if_neg (by omega)] at hx; exact hx
      · have hx2 : ops'[i]? = some x := by rw [Array.getElem?_push, if_neg (by omega)] at hx; exact hx
        have h3 := h2 e hee hb
        have h4 := hord i x hx2 e hee
        simp only [Array.getD_eq_getD_getElem?, Array.getElem?_push, if_neg (show ¬ e.on = listed.size by omega)] at h3 ⊢; exact h3
    · obtain rfl : i = ops'.size := by omega
      refine .inr ⟨rfl, ?_⟩
      have hxo : x = o := by rw [Array.getElem?_push, if_pos rfl] at hx; exact (Option.some.inj hx).symm
      subst hxo
      rw [List.eq_nil_iff_forall_not_mem]
      intro j hj
      obtain ⟨g1, y, hy, _⟩ := mem_ready.1 hj
      have hj' := (Array.getElem?_eq_some_iff.1 hy).1
      obtain ⟨e, he1, he2, he3⟩ := hlast j hj'
      have h3 := h2 e he1 he2
      rw [he3] at h3
      simp only [Array.getD_eq_getD_getElem?, Array.getElem?_push, if_neg (show ¬ j = listed.size by omega)] at h3 g1
      rw [Array.getElem?_eq_getElem (show j < listed.size by omega)] at h3 g1
      simp at h3 g1; rw [h3] at g1; cases g1
  have hfin : ∀ (listed : Array Bool), listed.size = ops'.size → Region.ready md ops' listed = [] → Region.ready md (ops'.push o) ((listed.push false).setIfInBounds ops'.size true) = [] := by
    intro listed hs hr
    rw [List.eq_nil_iff_forall_not_mem]
    intro j hj
    obtain ⟨g1, y, hy, _⟩ := mem_ready.1 hj
    have hj' : j < ops'.size + 1 := by have := (Array.getElem?_eq_some_iff.1 hy).1; simpa using this
    by_cases he : j < ops'.size
    · have := all_listed hord hs hr j he
      simp only [Array.getD_eq_getD_getElem?, Array.getElem?_setIfInBounds, Array.getElem?_push, if_neg (show ¬ ops'.size = j by omega), if_neg (show ¬ j = listed.size by omega)] at g1 this
      rw [Array.getElem?_eq_getElem (show j < listed.size by omega)] at g1 this
      simp at g1 this; rw [this] at g1; cases g1
    · obtain rfl : j = ops'.size := by omega
      simp [hs] at g1
  have hstep : ∀ (fuel : Nat) (listed : Array Bool) (a : Act) (w : World), listed.size = ops'.size → Region.ready md ops' listed = [] → wpList P (ops'.push o) Q [o] a w → wpOp P (ops'.push o) Q ops'.size (wpAny P md (ops'.push o) Q fuel ((listed.push false).setIfInBounds ops'.size true)) a w := by
    intro fuel listed a w hs hr h
    unfold wpOp
    rw [Array.getElem?_push, if_pos rfl]
    have hw : Region.wanted o (yielded (ops'.push o) a.tmps) = true := by simp [Region.wanted, hgo]
    unfold wpList at h
    simp only [hw, if_true] at *
    have hK : ∀ a w, wpList P (ops'.push o) Q [] a w → wpAny P md (ops'.push o) Q fuel ((listed.push false).setIfInBounds ops'.size true) a w := fun a w hq => by
      have := hfin listed hs hr
      cases fuel with
      | zero => exact ⟨this, hq⟩
      | succ fuel => exact ⟨fun _ => hq, by rw [this]; simp⟩
    rcases h with h | h
    · exact .inl (Oper.wp_mono hK h)
    · exact .inr h
  intro fuel
  induction fuel with
  | zero =>
    intro listed a w hs h
    obtain ⟨h1, h2⟩ := h
    refine ⟨fun h0 => ?_, fun i hi => ?_⟩
    · exfalso
      have : ops'.size ∈ Region.ready md (ops'.push o) (listed.push false) := mem_ready.2 ⟨by simp [← hs], o, by simp, fun e he _ => by
        have := all_listed hord hs h1 e.on (hon e he)
        simp only [Array.getD_eq_getD_getElem?, Array.getElem?_push, if_neg (show ¬ e.on = listed.size by have := hon e he; omega)] at this ⊢; exact this⟩
      rw [h0] at this; cases this
    · rcases hin listed hs i hi with ⟨_, h3⟩ | ⟨rfl, _⟩
      · rw [h1] at h3; cases h3
      · exact hstep 0 listed a w hs h1 h2
  | succ fuel ih =>
    intro listed a w hs h
    obtain ⟨h1, h2⟩ := h
    refine ⟨fun h0 => ?_, fun i hi => ?_⟩
    · exfalso
      by_cases hr : Region.ready md ops' listed = []
      · have : ops'.size ∈ Region.ready md (ops'.push o) (listed.push false) := mem_ready.2 ⟨by simp [← hs], o, by simp, fun e he _ => by
          have := all_listed hord hs hr e.on (hon e he)
          simp only [Array.getD_eq_getD_getElem?, Array.getElem?_push, if_neg (show ¬ e.on = listed.size by have := hon e he; omega)] at this ⊢; exact this⟩
        rw [h0] at this; cases this
      · obtain ⟨i, hi⟩ := List.exists_mem_of_ne_nil _ hr
        obtain ⟨g1, x, hx, g2⟩ := mem_ready.1 hi
        have hlt := (Array.getElem?_eq_some_iff.1 hx).1
        have : i ∈ Region.ready md (ops'.push o) (listed.push false) := mem_ready.2 ⟨by
          simp only [Array.getD_eq_getD_getElem?, Array.getElem?_push, if_neg (show ¬ i = listed.size by omega)] at g1 ⊢; exact g1, x, by rw [Array.getElem?_push, if_neg (by omega)]; exact hx, fun e he hb => by
          have h3 := g2 e he hb
          have h4 := hord i x hx e he
          simp only [Array.getD_eq_getD_getElem?, Array.getElem?_push, if_neg (show ¬ e.on = listed.size by omega)] at h3 ⊢; exact h3⟩
        rw [h0] at this; cases this
    · rcases hin listed hs i hi with ⟨hlt, h3⟩ | ⟨rfl, hr⟩
      · refine wpOp_pop hg hlt (fun a w hk => ?_) (h2 i h3)
        have := ih (listed.setIfInBounds i true) a w (by simpa using hs) hk
        rw [show (listed.push false).setIfInBounds i true = (listed.setIfInBounds i true).push false from ?_]
        · exact this
        · apply Array.ext_getElem?
          intro j
          simp only [Array.getElem?_setIfInBounds, Array.getElem?_push, Array.size_setIfInBounds, Array.size_push]
          by_cases e1 : i = j
          · subst e1
            simp [show i < listed.size by omega, show ¬ i = listed.size by omega, show i < listed.size + 1 by omega]
          · simp [e1]
      · exact hstep (fuel + 1) listed a w hs hr (h1 hr)
end

/-- The checks, as Bools for the kernel. -/
def popB (ops' : List Oper) (o : Oper) : Bool :=
  ops'.all (fun x => x.guard.isNone) && o.guard.isNone && ((List.range ops'.length).all fun j => match ops'[j]? with | some x => x.after.all fun e => decide (e.on < j) | none => true) &&
    ((List.range ops'.length).all fun j => o.after.any fun e => Region.binds .any e && (e.on == j)) && (o.after.all fun e => decide (e.on < ops'.length))
theorem wp_region_pop {P : Program} {Q : Exit → Act → World → Prop} {S : World → Prop} {id : Nat} (ops' : List Oper) (o : Oper) {ops : Array Oper} {a : Act} {w : World} (hm : P.follows .mixedOrders = true) (ho : ops = (ops' ++ [o]).toArray) (hc : popB ops' o = true)
    (h : wpAnyH P .any ops'.toArray (PopQ Q (wpList P ops Q [o])) S ops'.length (List.replicate ops'.length false).toArray a w.drew) : (Code.region id ops true).wp P Q a w := by
  unfold popB at hc
  simp only [Bool.and_eq_true, List.all_eq_true, List.mem_range, Array.all_eq_true_iff_forall_mem, Array.any_eq_true', decide_eq_true_eq, beq_iff_eq, Option.isNone_iff_eq_none] at hc
  obtain ⟨⟨⟨⟨c1, c2⟩, c3⟩, c4⟩, c5⟩ := hc
  have ho' : ops = ops'.toArray.push o := by rw [ho]; simp
  have h' := wpAny_of_held _ _ _ _ h
  rw [ho'] at h'
  have := wpAny_pop (md := .any) (ops' := ops'.toArray) (o := o) (P := P) (Q := Q) (fun j x hx => c1 x (by simpa using List.mem_of_getElem? (by simpa using hx)))
    (fun j x hx e he => by
      have hx' : ops'[j]? = some x := by simpa using hx
      have := c3 j (List.getElem?_eq_some_iff.1 hx').1
      rw [hx'] at this
      simp only [Array.all_eq_true_iff_forall_mem, decide_eq_true_eq] at this
      exact this e he)
    (fun j hj => by
      obtain ⟨e, h1, h2⟩ := c4 j (by simpa using hj)
      exact ⟨e, h1, h2.1, h2.2⟩)
    (fun e he => by simpa using c5 e he) c2 ops'.length (List.replicate ops'.length false).toArray a w.drew (by simp) h'
  refine wp_region_any hm ?_
  rw [ho']
  have e1 : (ops'.toArray.push o).size = ops'.length + 1 := by simp
  have e2 : Array.replicate (ops'.toArray.push o).size false = (List.replicate ops'.length false).toArray.push false := by
    apply Array.ext'
    rw [e1]; simp [List.replicate_succ']
  rw [e2, e1]
  exact this
def popL (n : Nat) (l : List Oper) : Bool := match l.drop n with | [o] => ((l.take n).length == n) && popB (l.take n) o | _ => false
theorem wp_region_pop_n {P : Program} {Q : Exit → Act → World → Prop} {S : World → Prop} {id : Nat} (n : Nat) {l : List Oper} {a : Act} {w : World} (hm : P.follows .mixedOrders = true) (hc : popL n l = true)
    (h : wpAnyH P .any (l.take n).toArray (PopQ Q (wpList P l.toArray Q (l.drop n))) S n (List.replicate n false).toArray a w.drew) : (Code.region id l.toArray true).wp P Q a w := by
  unfold popL at hc
  split at hc
  · rename_i o ho
    simp only [Bool.and_eq_true, beq_iff_eq] at hc
    refine wp_region_pop (S := S) (l.take n) o hm (by rw [← ho, List.take_append_drop]) hc.2 ?_
    rw [hc.1, ← ho]
    exact h
  · cases hc
end Go.Proofs.YtlapdmgjfdelnaaGreat

namespace Go.Proofs.YtlapdmgjfdelnaaGreat
open Go.RowKit
set_option maxRecDepth 100000

def wholeK (ls : Nat → List (Int × Int)) (k : Nat) : List Sp := (List.range k).flatMap fun (dc : Nat) => spansL (dc : Int) (ls dc)
theorem wholeK_succ (ls : Nat → List (Int × Int)) (k : Nat) : wholeK ls (k + 1) = wholeK ls k ++ spansL (k : Int) (ls k) := by
  unfold wholeK; rw [List.range_succ, List.flatMap_append]; simp
theorem wholeK_len (ls : Nat → List (Int × Int)) (n : Nat) (h : ∀ i, i < 4 → (ls i).length ≤ n) : ∀ k, k ≤ 4 → (wholeK ls k).length ≤ k * n
  | 0, _ => by simp [wholeK]
  | k + 1, hk => by
    rw [wholeK_succ, List.length_append, Nat.add_mul]
    have := wholeK_len ls n h k (by omega)
    have h2 := h k (by omega)
    unfold spansL; rw [List.length_map]; omega

set_option maxHeartbeats 4000000 in
theorem whole_any (ls : Nat → List (Int × Int)) (vs : Nat → Value) (w : World) (h : ∀ i, i < 4 → SlP w w.heap.size 2 RuE (vs i) (ls i)) (hN : ∀ i, i < 4 → (ls i).length ≤ 200000) :
    Calls Tryz.prog 130 #[.agg #[vs 0, vs 1, vs 2, vs 3]] w (RetO w 45 3 (fun _ => SpE) (wholeK ls 4)) := by
  obtain ⟨A0, m0, g0, _⟩ := h 0 (by omega)
  obtain ⟨A1, m1, g1, _⟩ := h 1 (by omega)
  obtain ⟨A2, m2, g2, _⟩ := h 2 (by omega)
  obtain ⟨A3, m3, g3, _⟩ := h 3 (by omega)
  have G0 := hid g0
  have G1 := hid g1
  have G2 := hid g2
  have G3 := hid g3
  have H := hid h
  simp only [g0, g1, g2, g3]
  clear g0 g1 g2 g3 h
  go_enter Tryz.func130, Tryz.ntmps130
  go_wp2_with fail
  go_loopw [3, 9] (fun v i wr => ∃ k : Nat, k ≤ 4 ∧ i = .int .i64 k ∧ OwnP wr (w.heap.size + 1) 45 3 SpE v (wholeK ls k) ∧ Below w.heap.size w wr) (fun _ i _ => 4 - (intOf i).toNat)
  case atStart => exact ⟨0, Nat.zero_le _, rfl, OwnP.nil, (Below.refl _ _).alloc (Nat.le_refl _) _⟩
  case round =>
    obtain ⟨k, hk, rfl, hown, hb⟩ := hrel
    have hsz := hb.size
    by_cases hlt : k < 4
    · obtain ⟨A, n, gv, b1, b2, b3⟩ := H.out k hlt
      have hNk := hN k hlt
      have hidx : ∀ w, (Instr.index 171 (.agg #[.slice A0 (ls 0).length m0, .slice A1 (ls 1).length m1, .slice A2 (ls 2).length m2, .slice A3 (ls 3).length m3]) (.int .i64 (k : Int))).run Tryz.prog w = .ok (.slice A (ls k).length n) w := fun w => by
        rw [← gv]
        match k, hlt with
        | 0, _ => rw [G0.out]; rfl
        | 1, _ => rw [G1.out]; rfl
        | 2, _ => rw [G2.out]; rfl
        | 3, _ => rw [G3.out]; rfl
      have hkl : decide ((k : Int) < 4) = true := by simp; omega
      have HK := hid (wholeK_succ ls k)
      have hwl := wholeK_len ls 200000 hN k hk
      have hwl2 : (wholeK ls k).length ≤ 600000 := by omega
      clear gv hwl
      unfold Big at b2
      go_wp2_with fail
      obtain ⟨wo, rfl⟩ : ∃ wo : World, wo = wr := ⟨_, rfl⟩
      go_loopw [3, 15] (fun v i wr => ∃ j : Nat, j ≤ (ls k).length ∧ i = .int .i64 j ∧ OwnP wr (w.heap.size + 1) 45 3 SpE v (wholeK ls k ++ spansL (k : Int) ((ls k).take j)) ∧ Below w.heap.size w wr) (fun _ i _ => (ls k).length - (intOf i).toNat)
      case atStart => exact ⟨0, Nat.zero_le _, rfl, by simpa [spansL] using hown, hb⟩
      case round =>
        obtain ⟨j, hj, rfl, hown, hb⟩ := hrel
        have hsz := hb.size
        have hsz1 : w.heap.size + 1 ≤ wr.heap.size + 1 := by omega
        by_cases hjl : j < (ls k).length
        · obtain ⟨x, hx⟩ : ∃ x, (ls k)[j]? = some x := ⟨_, List.getElem?_eq_getElem hjl⟩
          obtain ⟨b, off, rfl, hbB, hc⟩ := b3 (by intro e; rw [e] at hjl; simp at hjl)
          obtain ⟨cs, ⟨rfl, hok⟩, _, hu⟩ := hc j _ hx
          have e0 : wr.cell? ⟨b, off + j * 2, none⟩ = some (.int .i64 x.1) := (hb.cell hbB).trans (hu 0 _ rfl)
          have e1 : wr.cell? ⟨b, off + j * 2 + 1, none⟩ = some (.int .i64 x.2) := (hb.cell hbB).trans (hu 1 _ rfl)
          have HX : Hid (wholeK ls k ++ spansL (k : Int) ((ls k).take (j + 1)) = (wholeK ls k ++ spansL (k : Int) ((ls k).take j)) ++ [⟨k, x.1, x.2⟩]) := by unfold Hid spansL; rw [take_succ' hx, List.map_append, List.append_assoc]; rfl
          have HL : Hid ((wholeK ls k ++ spansL (k : Int) ((ls k).take j)).length + [(⟨k, x.1, x.2⟩ : Sp)].length ≤ Few) := by
            unfold Hid Few spansL; simp; omega
          have J0 : Hid (SpE ⟨k, x.1, x.2⟩ [.int .i64 (k : Int), .int .i64 x.1, .int .i64 x.2]) := ⟨rfl, ⟨by show _ ≤ (k : Int); omega, by show (k : Int) ≤ _; omega⟩, hok.1, hok.2⟩
          clear hu hx hc b3 hok
          go_wp2_with (at_builtin; go_loud ((refine wpList_few rfl (.tmp 19) (.tmp 26) _ rfl eiSpan (by decide) (by decide) (fun _ _ h => h.one) rfl ((hown.alloc _).alloc _) rfl (SlP.one J0.out rfl _ (by simp)) HL.out (by rw [World.size_alloc, World.size_alloc]; omega) ?_); intro v1 w1 hown1 hb1 _))
          go_roundw
          case rel => exact ⟨j + 1, by omega, by go_num, by rw [HX.out]; exact hown1, (((hb.alloc hsz _).alloc (by rw [World.size_alloc]; omega) _).trans (hb1.mono (by omega)))⟩
          case measure => simp [intOf]; omega
        · obtain rfl : j = (ls k).length := by omega
          rw [List.take_of_length_le (Nat.le_refl _)] at hown
          go_wp2_with fail
          go_roundw
          case rel => exact ⟨k + 1, by omega, by go_num, by rw [HK.out]; exact hown, hb⟩
          case measure => simp [intOf]; omega
    · obtain rfl : k = 4 := by omega
      go_wp2_with fail
      go_ret
      exact ⟨_, rfl, hown.mono (by omega), hb⟩
end Go.Proofs.YtlapdmgjfdelnaaGreat

namespace Go.Proofs.YtlapdmgjfdelnaaGreat
open Go.RowKit
set_option maxRecDepth 100000

def hasC (c : List Sp) (d : Dt) : Bool := d.right && hasL (partL c d.dc) d.n
end Go.Proofs.YtlapdmgjfdelnaaGreat

namespace Go.Proofs.YtlapdmgjfdelnaaGreat
open Go.RowKit
set_option maxRecDepth 100000

mutual
def Tr.room : Tr → Int → Int → Int
  | .mk es ks, left, deep => Tr.roomL ks (left - es.length - ks.length) deep
def Tr.roomL : List (ByteArray × Tr) → Int → Int → Int
  | [], left, _ => left
  | (_, t) :: ks, left, deep => if left < 0 ∨ deep = 0 then -1 else Tr.roomL ks (t.room left (deep - 1)) deep
end

mutual
theorem room_bd : ∀ (t : Tr), t.Fit → ∀ (left deep : Int), 0 ≤ left → -562949953421312 ≤ t.room left deep ∧ t.room left deep ≤ left
  | .mk es ks, ⟨b1, b2, h3⟩, left, deep, h0 => by
    unfold Big at b1 b2
    rw [Tr.room]
    have h4 := roomL_bd ks h3 (left - es.length - ks.length) deep (by omega)
    refine ⟨h4.1, ?_⟩
    cases ks with
    | nil => rw [Tr.roomL]; simp; omega
    | cons p ks => have := h4.2; simp only [List.length_cons] at *; omega
theorem roomL_bd : ∀ (ks : List (ByteArray × Tr)), Tr.FitL ks → ∀ (left deep : Int), -562949953421312 ≤ left → -562949953421312 ≤ Tr.roomL ks left deep ∧ Tr.roomL ks left deep ≤ max left (-1)
  | [], _, left, deep, h => by rw [Tr.roomL]; omega
  | (k, t) :: ks, ⟨f1, f2⟩, left, deep, h => by
    rw [Tr.roomL]
    split
    · omega
    · have h1 := room_bd t f1 left (deep - 1) (by omega)
      have h2 := roomL_bd ks f2 (t.room left (deep - 1)) deep h1.1
      omega
end

end Go.Proofs.YtlapdmgjfdelnaaGreat

namespace Go.Proofs.YtlapdmgjfdelnaaGreat
open Go.RowKit
set_option maxRecDepth 100000

end Go.Proofs.YtlapdmgjfdelnaaGreat

namespace Go.Proofs.YtlapdmgjfdelnaaGreat
open Go.RowKit
set_option maxRecDepth 100000

mutual
/-- How many levels a tree has. -/
def Tr.dep : Tr → Nat | .mk _ ks => Tr.depL ks + 1
def Tr.depL : List (ByteArray × Tr) → Nat | [] => 0 | (_, t) :: ks => max t.dep (Tr.depL ks)
end
theorem depL_le : ∀ {ks : List Kd} {k : ByteArray} {t : Tr}, (k, t) ∈ ks → t.dep ≤ Tr.depL ks
  | (k', t') :: ks, k, t, h => by
    rw [Tr.depL]
    rcases List.mem_cons.1 h with e | e
    · cases e; exact Nat.le_max_left _ _
    · exact Nat.le_trans (depL_le e) (Nat.le_max_right _ _)
theorem depL_take : ∀ {ks : List Kd} {n : Nat} {k : ByteArray} {t : Tr}, ks[n]? = some (k, t) → Tr.depL (ks.take (n + 1)) = max (Tr.depL (ks.take n)) t.dep
  | (k', t') :: ks, 0, k, t, h => by simp at h; obtain ⟨rfl, rfl⟩ := h; simp [Tr.depL]
  | (k', t') :: ks, n + 1, k, t, h => by
    simp only [List.take_succ_cons]
    rw [Tr.depL, Tr.depL, depL_take (ks := ks) (n := n) (by simpa using h), Nat.max_assoc]
theorem depL_take_le (ks : List Kd) : ∀ n, Tr.depL (ks.take n) ≤ Tr.depL ks := by
  induction ks with
  | nil => intro n; simp
  | cons x ks ih =>
    obtain ⟨k, t⟩ := x
    intro n
    cases n with
    | zero => simp [Tr.depL]
    | succ n => simp only [List.take_succ_cons]; rw [Tr.depL, Tr.depL]; have := ih n; omega
theorem max_int (a b : Nat) : max (a : Int) (b : Int) = ((max a b : Nat) : Int) := by omega

set_option maxHeartbeats 1000000 in
theorem tdeep_any (t : Tr) : ∀ (w : World) (ve vk : Value), t.rd w w.heap.size ve vk → t.dep ≤ 1000 →
    Calls Tryz.prog 222 #[.agg #[ve, vk]] w fun e w' => e = .returned (.int .i64 (t.dep : Nat)) ∧ Below w.heap.size w w' := by
  induction t using Tr.ind with
  | h es ks ih =>
  intro w ve vk h hN
  rw [rd_iff] at h
  obtain ⟨⟨A1, n, rfl, b1, b2, b3⟩, ⟨A2, m, rfl, c1, c2, c3⟩⟩ := h
  clear b3
  unfold Big at b2 c2
  rw [Tr.dep] at hN
  go_enter Tryz.func222, Tryz.ntmps222
  go_wp2_with fail
  go_loopw [3, 9] (fun v i wr => ∃ k : Nat, k ≤ ks.length ∧ i = .int .i64 k ∧ v = .int .i64 (Tr.depL (ks.take k) : Nat) ∧
      Below (w.heap.size + 1) (w.alloc (.cells #[.slice A1 es.length n, .slice A2 ks.length m] 25)) wr) (fun _ i _ => ks.length - (intOf i).toNat)
  case atStart => exact ⟨0, Nat.zero_le _, rfl, by simp [Tr.depL], Below.refl _ _⟩
  case round =>
    obtain ⟨k, hk, rfl, rfl, hb⟩ := hrel
    have hsz := hb.size
    simp only [World.size_alloc] at hsz
    have hdk := depL_take_le ks k
    by_cases hlt : k < ks.length
    · obtain ⟨⟨key, t⟩, hx⟩ : ∃ x, ks[k]? = some x := ⟨_, List.getElem?_eq_getElem hlt⟩
      obtain ⟨b, off, rfl, hbB, hc⟩ := c3 (by rintro rfl; simp at hlt)
      obtain ⟨cs, ⟨ve', vk', rfl, hkb, hrd⟩, _, hu⟩ := hc k _ hx
      obtain ⟨A3, n3, A4, n4, rfl, rfl⟩ := rd_shape hrd
      have hbo : ∀ o, wr.cell? ⟨b, o, none⟩ = w.cell? ⟨b, o, none⟩ := fun o => (hb.cell (p := ⟨b, o, none⟩) (by simp; omega)).trans (World.cell?_alloc_lt _ _ _ hbB)
      have e0 : wr.cell? ⟨b, off + k * 3, none⟩ = some (.string key) := (hbo _).trans (hu 0 _ rfl)
      have e1 : wr.cell? ⟨b, off + k * 3 + 1, none⟩ = some (.slice A3 t.es.length n3) := (hbo _).trans (hu 1 _ rfl)
      have e2 : wr.cell? ⟨b, off + k * 3 + 2, none⟩ = some (.slice A4 t.ks.length n4) := (hbo _).trans (hu 2 _ rfl)
      have hmem : (key, t) ∈ ks := List.mem_of_getElem? hx
      have hB0 : Below w.heap.size w wr := ((Below.refl _ w).alloc (Nat.le_refl _) _).trans (hb.mono (by omega))
      have HR : Hid (∀ o, t.rd (wr.alloc o) (wr.alloc o).heap.size (.slice A3 t.es.length n3) (.slice A4 t.ks.length n4)) := fun o => rd_below (hB0.alloc (by omega) _) (by simp; omega) _ _ _ hrd
      have HX := hid (depL_take hx)
      have hdt : t.dep ≤ 1000 := by have := depL_le hmem; omega
      clear hu hbo hx hc c3 hrd
      go_wp2_with (go_at_call 222; go_loud (refine (ih key t hmem _ _ _ (HR.out _) hdt).mono ?_); rintro e w2 ⟨rfl, hb2⟩; have hs2 := hb2.size; simp only [World.size_alloc] at hs2)
      go_roundw
      case rel =>
        refine ⟨k + 1, by omega, by go_num, by (rw [HX.out, ← max_int]); try (congr 1; first | omega | (split <;> omega)), (hb.alloc (by omega) _).trans (hb2.mono (by simp; omega))⟩
      case measure => simp [intOf]; omega
    · obtain rfl : k = ks.length := by omega
      rw [List.take_of_length_le (Nat.le_refl _)] at hdk ⊢
      go_wp2_with fail
      go_ret
      exact ⟨by rw [Tr.dep]; go_num, ((Below.refl _ w).alloc (Nat.le_refl _) _).trans (hb.mono (by omega))⟩
end Go.Proofs.YtlapdmgjfdelnaaGreat

namespace Go.Proofs.YtlapdmgjfdelnaaGreat
open Go.RowKit

mutual
theorem room_sz : ∀ (t : Tr) (left deep : Int), 0 ≤ t.room left deep → (t.sz : Int) + t.room left deep ≤ left
  | .mk es ks, left, deep, h => by
    rw [Tr.room] at h ⊢
    have := roomL_sz ks _ deep h
    rw [Tr.sz]
    push_cast
    omega
theorem roomL_sz : ∀ (ks : List (ByteArray × Tr)) (left deep : Int), 0 ≤ Tr.roomL ks left deep → (Tr.szL ks : Int) - ks.length + Tr.roomL ks left deep ≤ left
  | [], left, deep, h => by rw [Tr.roomL] at h ⊢; simp [Tr.szL]
  | (k, t) :: ks, left, deep, h => by
    rw [Tr.roomL] at h ⊢
    split at h
    · omega
    · rename_i hc
      rw [if_neg hc]
      have h1 := roomL_sz ks _ deep h
      have hs := szL_len ks
      by_cases h2 : 0 ≤ t.room left (deep - 1)
      · have h3 := room_sz t left (deep - 1) h2
        rw [Tr.szL]; simp only [List.length_cons]; push_cast; omega
      · omega
end
/-- A small tree. -/
def smlB (t : Tr) (n : Int) : Bool := decide (0 ≤ t.room n 8)
end Go.Proofs.YtlapdmgjfdelnaaGreat

namespace Go.Proofs.YtlapdmgjfdelnaaGreat
open Go.RowKit
set_option maxRecDepth 100000

def sumE (es : List En) : Int := es.foldl (fun s e => wrap64 (s + e.v)) 0
theorem sumE_take {es : List En} {k : Nat} {x : En} (h : es[k]? = some x) : sumE (es.take (k + 1)) = wrap64 (sumE (es.take k) + x.v) := by
  unfold sumE; rw [List.take_add_one, h, List.foldl_append]; rfl
end Go.Proofs.YtlapdmgjfdelnaaGreat

namespace Go.Proofs.YtlapdmgjfdelnaaGreat
open Go.RowKit
set_option maxRecDepth 100000

/-- A counter's value. -/
def valT (t : Tr) : Int := if t.right 5 then sumE t.es else 0
set_option maxHeartbeats 4000000 in
theorem cvalue_any (t : Tr) (w : World) (ve vk : Value) (h : t.rd w w.heap.size ve vk) :
    Calls Tryz.prog 33 #[.agg #[ve, vk]] w fun e w' => e = .returned (.int .i64 (valT t)) ∧ Below w.heap.size w w' := by
  have HC : Hid (∀ w', Below w.heap.size w w' → t.rd w' w'.heap.size ve vk) := fun w' hb => rd_below hb hb.size _ _ _ h
  obtain ⟨es, ks⟩ := t
  rw [rd_iff] at h
  obtain ⟨⟨A0, n0, rfl, d1, d2, d3⟩, ⟨A, m, rfl, _, _, _⟩⟩ := h
  unfold Big at d2
  have hb0 : Below w.heap.size w (w.alloc (.cells #[.slice A0 es.length n0, .slice A ks.length m] 25)) := (Below.refl _ w).alloc (Nat.le_refl _) _
  go_enter Tryz.func33, Tryz.ntmps33
  go_wp2_with fail
  refine (tRight_any (.mk es ks) _ _ _ (HC.out _ hb0)).mono ?_
  rintro e w1 ⟨rfl, hb1⟩
  have hs1 := hb1.size
  simp only [World.size_alloc] at hs1
  have hB1 : Below w.heap.size w w1 := hb0.trans (hb1.mono (by simp))
  have c0 : w1.cell? ⟨w.heap.size, 0, none⟩ = some (.slice A0 es.length n0) := by rw [hb1.cell (p := ⟨w.heap.size, 0, none⟩) (by simp)]; simp
  cases hr : Tr.right (.mk es ks) 5
  · have HR : Hid (valT (.mk es ks) = 0) := by unfold Hid valT; rw [hr]; rfl
    clear hr hb1 hb0 d3
    go_wp2_with fail
    go_ret
    exact ⟨ret_int HR.out.symm, hB1⟩
  · have HR : Hid (valT (.mk es ks) = sumE es) := by unfold Hid valT; rw [hr]; rfl
    clear hr hb1 hb0
    go_wp2_with fail
    go_loopw [3, 11] (fun s i wr => ∃ k : Nat, k ≤ es.length ∧ i = .int .i64 k ∧ s = .int .i64 (sumE (es.take k)) ∧ Below w.heap.size w wr) (fun _ i _ => es.length - (intOf i).toNat)
    case atStart => exact ⟨0, Nat.zero_le _, rfl, rfl, hB1⟩
    case round =>
      obtain ⟨k, hk, rfl, rfl, hb⟩ := hrel
      have hsz := hb.size
      by_cases hlt : k < es.length
      · obtain ⟨x, hx⟩ : ∃ x, es[k]? = some x := ⟨_, List.getElem?_eq_getElem hlt⟩
        obtain ⟨b, off, rfl, hbB, hc⟩ := d3 (by rintro rfl; simp at hlt)
        obtain ⟨cs, ⟨rfl, hok⟩, _, hu⟩ := hc k _ hx
        have e0 : wr.cell? ⟨b, off + k * 4, none⟩ = some (.int .i64 x.dc) := (hb.cell hbB).trans (hu 0 _ rfl)
        have e1 : wr.cell? ⟨b, off + k * 4 + 1, none⟩ = some (.int .i64 x.n) := (hb.cell hbB).trans (hu 1 _ rfl)
        have e2 : wr.cell? ⟨b, off + k * 4 + 2, none⟩ = some (.string x.s) := (hb.cell hbB).trans (hu 2 _ rfl)
        have e3 : wr.cell? ⟨b, off + k * 4 + 3, none⟩ = some (.int .i64 x.v) := (hb.cell hbB).trans (hu 3 _ rfl)
        have HX : Hid (sumE (es.take (k + 1)) = wrap64 (sumE (es.take k) + x.v)) := sumE_take hx
        generalize sumE (es.take k) = s at *
        clear hu hc d3 hx hok
        go_wp2_with fail
        go_roundw
        case rel => exact ⟨k + 1, by omega, by go_num, by rw [HX.out] <;> rfl, hb.alloc hsz _⟩
        case measure => simp [intOf]; omega
      · obtain rfl : k = es.length := by omega
        rw [List.take_of_length_le (Nat.le_refl _)]
        go_wp2_with fail
        go_ret
        exact ⟨ret_int HR.out.symm, hb⟩
end Go.Proofs.YtlapdmgjfdelnaaGreat

namespace Go.Proofs.YtlapdmgjfdelnaaGreat
open Go.RowKit
set_option maxRecDepth 100000

theorem guardSpan : Tryz.prog.eqGuardType Tryz.prog.depth 45 = false := by kernel_rfl
theorem guardEntry : Tryz.prog.eqGuardType Tryz.prog.depth 113 = false := by kernel_rfl
theorem neqSpan (x y : Sp) (w : World) : (binOp .neq 45 (.agg #[.int .i64 x.dc, .int .i64 x.fr, .int .i64 x.hi]) (.agg #[.int .i64 y.dc, .int .i64 y.fr, .int .i64 y.hi])).run Tryz.prog w = .ok (.bool (!decide (x = y))) w := by
  have u3 := Tryz.underlying3
  have u2 := Tryz.underlying2
  have hS : Tryz.prog.underlying 45 = some (.struct (Tryz.prog.fieldsOf 45)) := by kernel_rfl
  have hp : Tryz.prog.stoodInHeld 45 = false := by kernel_rfl
  rw [run_neq_struct, show (10000 : Nat) = 9999 + 1 from rfl, run_equalIn_agg w 9999 45 _ _ hS hp]
  simp only [Program.fieldsOf, Tryz.underlying45]
  go_simp
  obtain ⟨a, b, c⟩ := x; obtain ⟨d, e, f⟩ := y
  by_cases h1 : a = d <;> by_cases h2 : b = e <;> by_cases h3 : c = f <;> simp [h1, h2, h3]
theorem bytes_inj (a b : ByteArray) : a.toList = b.toList ↔ a = b := by
  rw [ByteArray.toList_eq, ByteArray.toList_eq]
  obtain ⟨⟨x⟩⟩ := a; obtain ⟨⟨y⟩⟩ := b
  simp
theorem neqEntry (x y : En) (w : World) : (binOp .neq 113 (.agg #[.int .i64 x.dc, .int .i64 x.n, .string x.s, .int .i64 x.v]) (.agg #[.int .i64 y.dc, .int .i64 y.n, .string y.s, .int .i64 y.v])).run Tryz.prog w = .ok (.bool (!decide (x = y))) w := by
  have u3 := Tryz.underlying3
  have u2 := Tryz.underlying2
  have u9 := Tryz.underlying9
  have u27 := Tryz.underlying52
  have hS : Tryz.prog.underlying 113 = some (.struct (Tryz.prog.fieldsOf 113)) := by kernel_rfl
  have hp : Tryz.prog.stoodInHeld 113 = false := by kernel_rfl
  have hS2 : Tryz.prog.underlying 52 = some (.struct (Tryz.prog.fieldsOf 52)) := by kernel_rfl
  have hp2 : Tryz.prog.stoodInHeld 52 = false := by kernel_rfl
  rw [run_neq_struct, show (10000 : Nat) = 9999 + 1 from rfl, run_equalIn_agg w 9999 113 _ _ hS hp]
  simp only [Program.fieldsOf, Tryz.underlying113]
  go_simp
  have hq := fun (a b c d : Int) (w : World) => run_equalIn_agg (P := Tryz.prog) w 9998 52 #[.int .i64 a, .int .i64 b] #[.int .i64 c, .int .i64 d] hS2 hp2
  try simp only [hq, Program.fieldsOf, u27]
  go_simp
  obtain ⟨a, b, s, c⟩ := x; obtain ⟨d, e, u, f⟩ := y
  by_cases h1 : a = d <;> by_cases h2 : b = e <;> by_cases h3 : c = f <;> by_cases h4 : s = u <;> simp [h1, h2, h3, h4, bytes_inj]

/-- A loop that holds two lists against one another has come so far. -/
theorem take_eq_succ {α : Type} {xs ys : List α} {k : Nat} {x y : α} (hx : xs[k]? = some x) (hy : ys[k]? = some y) (h : xs.take k = ys.take k) : xs.take (k + 1) = ys.take (k + 1) ↔ x = y := by
  rw [List.take_add_one, List.take_add_one, hx, hy, h]
  simp

set_option maxHeartbeats 1000000 in
theorem r07same_any (a b : List Sp) (va vb : Value) (w : World) (B : Nat) (ha : SlP w B 3 SpE va a) (hb : SlP w B 3 SpE vb b) :
    Calls Tryz.prog 45 #[va, vb] w fun e w' => e = .returned (.bool (decide (a = b))) ∧ ∃ n, w' = w.drewN n := by
  obtain ⟨A1, n1, rfl, b1, b2, b3⟩ := ha
  obtain ⟨A2, n2, rfl, c1, c2, c3⟩ := hb
  unfold Big at b2 c2
  by_cases hl : a.length = b.length
  · have hl' : ((a.length : Int) != (b.length : Int)) = false := by simp [hl]
    have HL := hid hl
    clear hl
    have gg := guardSpan
    have nn := neqSpan
    go_enter Tryz.func45, Tryz.ntmps45
    go_wp2_with fail
    go_loopw [13] (fun i wr => ∃ k : Nat, k ≤ a.length ∧ i = .int .i64 k ∧ Hid (a.take k = b.take k) ∧ ∃ n, wr = w.drewN n) (fun i _ => a.length - (intOf i).toNat)
    case atStart => exact ⟨0, Nat.zero_le _, rfl, rfl, 0, rfl⟩
    case round =>
      obtain ⟨k, hk, rfl, hrel, q, rfl⟩ := hrel
      by_cases hlt : k < a.length
      · have hlt2 : k < b.length := by have := HL.out; omega
        obtain ⟨x, hx⟩ : ∃ x, a[k]? = some x := ⟨_, List.getElem?_eq_getElem hlt⟩
        obtain ⟨y, hy⟩ : ∃ y, b[k]? = some y := ⟨_, List.getElem?_eq_getElem hlt2⟩
        obtain ⟨ba, oa, rfl, hbA, hc⟩ := b3 (by rintro rfl; simp at hlt)
        obtain ⟨bb, ob, rfl, hbB, hd⟩ := c3 (by rintro rfl; simp at hlt2)
        obtain ⟨cs, ⟨rfl, hok⟩, _, hu⟩ := hc k _ hx
        obtain ⟨ds, ⟨rfl, hok2⟩, _, hv⟩ := hd k _ hy
        have e0 : w.cell? ⟨ba, oa + k * 3, none⟩ = some (.int .i64 x.dc) := hu 0 _ rfl
        have e1 : w.cell? ⟨ba, oa + k * 3 + 1, none⟩ = some (.int .i64 x.fr) := hu 1 _ rfl
        have e2 : w.cell? ⟨ba, oa + k * 3 + 2, none⟩ = some (.int .i64 x.hi) := hu 2 _ rfl
        have g0 : w.cell? ⟨bb, ob + k * 3, none⟩ = some (.int .i64 y.dc) := hv 0 _ rfl
        have g1 : w.cell? ⟨bb, ob + k * 3 + 1, none⟩ = some (.int .i64 y.fr) := hv 1 _ rfl
        have g2 : w.cell? ⟨bb, ob + k * 3 + 2, none⟩ = some (.int .i64 y.hi) := hv 2 _ rfl
        have HT := hid (take_eq_succ hx hy hrel.out)
        have HXY : Hid (a = b → x = y) := fun e => by subst e; rw [hx] at hy; exact Option.some.inj hy
        have hi1 : ((k : Int)) < (a.length : Int) := by omega
        have hi2 : ((k : Int)) < (b.length : Int) := by omega
        clear hu hv hc hd b3 c3 hx hy hok hok2
        rcases hxy : decide (x = y)
        · have hne : x ≠ y := by simpa using hxy
          go_wp2_with fail
          go_quiet (fail)
          go_wp2_with fail
          go_ret
          exact ⟨ret_bool (by simpa using fun e => hne (HXY.out e)), q + nq, by first | rfl | exact World.drewN_drewN _ _ _⟩
        · have hE := hid (of_decide_eq_true hxy)
          go_wp2_with fail
          go_quiet (fail)
          go_wp2_with fail
          go_roundw
          case rel => exact ⟨k + 1, by omega, by go_num, HT.out.2 hE.out, q + nq, by first | rfl | exact World.drewN_drewN _ _ _⟩
          case measure => simp [intOf]; omega
      · obtain rfl : k = a.length := by omega
        have HR := hid hrel.out
        clear hrel
        go_wp2_with fail
        go_ret
        refine ⟨ret_bool ?_, q, rfl⟩
        have h1 := HR.out
        rw [List.take_of_length_le (Nat.le_refl _), List.take_of_length_le (by rw [HL.out]; exact Nat.le_refl _)] at h1
        simp [h1]
  · have hl' : ((a.length : Int) != (b.length : Int)) = true := by simp; omega
    have HL := hid hl
    clear hl
    go_enter Tryz.func45, Tryz.ntmps45
    go_wp2_with fail
    go_ret
    refine ⟨ret_bool ?_, 0, rfl⟩
    have : a ≠ b := fun e => HL.out (by rw [e])
    simp [this]
set_option maxHeartbeats 1000000 in
theorem r10alike_any (a b : List ByteArray) (va vb : Value) (w : World) (B : Nat) (ha : SlP w B 1 StE va a) (hb : SlP w B 1 StE vb b) :
    Calls Tryz.prog 95 #[va, vb] w fun e w' => e = .returned (.bool (decide (a = b))) ∧ ∃ n, w' = w.drewN n := by
  obtain ⟨A1, n1, rfl, b1, b2, b3⟩ := ha
  obtain ⟨A2, n2, rfl, c1, c2, c3⟩ := hb
  unfold Big at b2 c2
  by_cases hl : a.length = b.length
  · have hl' : ((a.length : Int) != (b.length : Int)) = false := by simp [hl]
    have HL := hid hl
    clear hl
    go_enter Tryz.func95, Tryz.ntmps95
    go_wp2_with fail
    go_loopw [13] (fun i wr => ∃ k : Nat, k ≤ a.length ∧ i = .int .i64 k ∧ Hid (a.take k = b.take k) ∧ ∃ n, wr = w.drewN n) (fun i _ => a.length - (intOf i).toNat)
    case atStart => exact ⟨0, Nat.zero_le _, rfl, rfl, 0, rfl⟩
    case round =>
      obtain ⟨k, hk, rfl, hrel, q, rfl⟩ := hrel
      by_cases hlt : k < a.length
      · have hlt2 : k < b.length := by have := HL.out; omega
        obtain ⟨x, hx⟩ : ∃ x, a[k]? = some x := ⟨_, List.getElem?_eq_getElem hlt⟩
        obtain ⟨y, hy⟩ : ∃ y, b[k]? = some y := ⟨_, List.getElem?_eq_getElem hlt2⟩
        obtain ⟨ba, oa, rfl, hbA, hc⟩ := b3 (by rintro rfl; simp at hlt)
        obtain ⟨bb, ob, rfl, hbB, hd⟩ := c3 (by rintro rfl; simp at hlt2)
        obtain ⟨cs, ⟨rfl, hok⟩, _, hu⟩ := hc k _ hx
        obtain ⟨ds, ⟨rfl, hok2⟩, _, hv⟩ := hd k _ hy
        have e0 : w.cell? ⟨ba, oa + k, none⟩ = some (.string x) := by simpa using hu 0 _ rfl
        have g0 : w.cell? ⟨bb, ob + k, none⟩ = some (.string y) := by simpa using hv 0 _ rfl
        have HT := hid (take_eq_succ hx hy hrel.out)
        have HXY : Hid (a = b → x = y) := fun e => by subst e; rw [hx] at hy; exact Option.some.inj hy
        have hi1 : ((k : Int)) < (a.length : Int) := by omega
        have hi2 : ((k : Int)) < (b.length : Int) := by omega
        clear hu hv hc hd b3 c3 hx hy hok hok2
        rcases hxy : (x.toList == y.toList)
        · have hne : x ≠ y := fun e => by rw [e] at hxy; simp at hxy
          have hxy2 : (x.toList != y.toList) = true := by simp [bne, hxy]
          go_wp2_with fail
          go_quiet (fail)
          go_wp2_with fail
          go_ret
          exact ⟨ret_bool (by simpa using fun e => hne (HXY.out e)), q + nq, by first | rfl | exact World.drewN_drewN _ _ _⟩
        · have hE := hid ((bytes_inj x y).1 (by simpa using hxy))
          have hxy2 : (x.toList != y.toList) = false := by simp [bne, hxy]
          go_wp2_with fail
          go_quiet (fail)
          go_wp2_with fail
          go_roundw
          case rel => exact ⟨k + 1, by omega, by go_num, HT.out.2 hE.out, q + nq, by first | rfl | exact World.drewN_drewN _ _ _⟩
          case measure => simp [intOf]; omega
      · obtain rfl : k = a.length := by omega
        have HR := hid hrel.out
        clear hrel
        go_wp2_with fail
        go_ret
        refine ⟨ret_bool ?_, q, rfl⟩
        have h1 := HR.out
        rw [List.take_of_length_le (Nat.le_refl _), List.take_of_length_le (by rw [HL.out]; exact Nat.le_refl _)] at h1
        simp [h1]
  · have hl' : ((a.length : Int) != (b.length : Int)) = true := by simp; omega
    have HL := hid hl
    clear hl
    go_enter Tryz.func95, Tryz.ntmps95
    go_wp2_with fail
    go_ret
    refine ⟨ret_bool ?_, 0, rfl⟩
    have : a ≠ b := fun e => HL.out (by rw [e])
    simp [this]
end Go.Proofs.YtlapdmgjfdelnaaGreat

namespace Go.Proofs.YtlapdmgjfdelnaaGreat
open Go.RowKit
set_option maxRecDepth 100000

def underF (key : ByteArray) (x : Lf) : Option Lf := match x.1 with | [] => none | q :: qs => if q = key then some (qs, x.2) else none
def underL (l : List Lf) (key : ByteArray) : List Lf := l.filterMap (underF key)
end Go.Proofs.YtlapdmgjfdelnaaGreat
