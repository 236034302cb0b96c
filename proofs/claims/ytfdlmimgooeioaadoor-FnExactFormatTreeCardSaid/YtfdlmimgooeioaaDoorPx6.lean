/- Own layer: part of this seat (Px6). Plain theorems; no conditions. -/
import Derived.Test.YtfdlmimgooeioaaDoorPx5
set_option linter.unusedVariables false
set_option linter.unusedSimpArgs false
namespace Go.Px
open Go.RowKit

def boV (b : Bool) : Value := .bool b
theorem sl_congr {A : Option Addr} {n n' c : Nat} (h : n = n') : Value.slice A n c = .slice A n' c := by rw [h]
theorem take_all {α : Type} {l : List α} {k : Nat} (h : l.length ≤ k) : l.take k = l := List.take_of_length_le h
/-! ### What a call holds: rows of memory, in groups -/
/-- a row of memory that a call holds: the slice value at its head, its elements' type and size, how many, their cells -/
structure FE where
  v : Value
  e : TypeId
  sz : Nat
  m : Nat
  xs : List Value
def FE.own (w : World) (x : FE) : Prop := Px.own w 0 x.e x.sz x.v x.m x.xs
def FE.blk (x : FE) : Option Nat := x.v.ownBlock
def Apart (x y : FE) : Prop := Dj x.v y.v
theorem Apart.symm {x y : FE} (h : Apart x y) : Apart y x := Dj.symm h
/-- from the world w0 on only the blocks R and new ones were written; L: what is held -/
structure Mem0 (w0 w : World) (R : List (Option Nat)) (L : List FE) : Prop where
  os : w.os = w0.os
  tape : w.tape = w0.tape
  output : w.output = w0.output
  size : w0.heap.size ≤ w.heap.size
  block : ∀ k, k < w0.heap.size → some k ∉ R → w.heap[k]? = w0.heap[k]?
  own : ∀ x ∈ L, x.own w
  apart : L.Pairwise Apart
  born : ∀ x ∈ L, ∀ k, x.blk = some k → w0.heap.size ≤ k ∨ some k ∈ R
abbrev Mem (w0 w : World) (R : List (Option Nat)) (M : List (List FE)) : Prop := Mem0 w0 w R M.flatten

section
variable {w0 w w' w1 : World} {R : List (Option Nat)} {L L' : List FE} {M M' : List (List FE)}
theorem FE.own.lt {x : FE} (h : x.own w) {k : Nat} (hk : x.blk = some k) : k < w.heap.size := (World.ownsRow.lt h k hk).2
theorem Mem0.refl : Mem0 w w R [] := ⟨rfl, rfl, rfl, Nat.le_refl _, fun _ _ _ => rfl, by simp, .nil, by simp⟩
theorem Mem.refl : Mem w w R [] := Mem0.refl
/-- other blocks than x's were written -/
theorem FE.own.kp {x : FE} {r : Option Nat} (h : x.own w) (hk : w.grownBy w' r) (hr : x.blk = none ∨ x.blk ≠ r) : x.own w' := World.ownsRow.kept h hk hr
theorem FE.own.ext {x : FE} (h : x.own w) (hk : w.grownBy w' none) : x.own w' := by
  refine h.kp hk ?_
  cases x.blk <;> simp
theorem Mem0.ext (h : Mem0 w0 w R L) (hk : w.grownBy w' none) : Mem0 w0 w' R L :=
  ⟨hk.os.trans h.os, hk.tape.trans h.tape, hk.output.trans h.output, Nat.le_trans h.size hk.size, fun k h1 h2 => (hk.block k (Nat.lt_of_lt_of_le h1 h.size) (by simp)).trans (h.block k h1 h2), fun x hx => (h.own x hx).ext hk, h.apart, h.born⟩
theorem Mem0.ext_any (h : Mem0 w0 w R L) (hk : w.grownBy w' none) : Mem0 w0 w' R [] :=
  ⟨hk.os.trans h.os, hk.tape.trans h.tape, hk.output.trans h.output, Nat.le_trans h.size hk.size, fun k h1 h2 => (hk.block k (Nat.lt_of_lt_of_le h1 h.size) (by simp)).trans (h.block k h1 h2), by simp, .nil, by simp⟩
theorem Mem.grown (h : Mem0 w0 w [] L) : w0.grownBy w none := ⟨h.os, h.tape, h.output, h.size, fun k hk _ => h.block k hk (by simp)⟩
theorem Mem.of_grown (h : w0.grownBy w none) : Mem w0 w [] [] := ⟨h.os, h.tape, h.output, h.size, fun k hk _ => h.block k hk (by simp), by simp, .nil, by simp⟩
theorem Mem.of_own {B m sz : Nat} {e : TypeId} {v : Value} {xs : List Value} (ho : Px.own w B e sz v m xs) (hB : w0.heap.size ≤ B) (h : w0.grownBy w none) : Mem w0 w [] [[⟨v, e, sz, m, xs⟩]] :=
  ⟨h.os, h.tape, h.output, h.size, fun k hk _ => h.block k hk (by simp), fun x hx => by simp at hx; subst hx; exact own_mono ho (Nat.zero_le _), by simp, by
    intro x hx k hk
    simp at hx; subst hx
    have := (World.ownsRow.lt ho k hk).1
    left; omega⟩
/-- what lay there before lies there still -/
theorem Rd.at {A : Option Addr} {l : List Value} (h : Rd w0 A l) (hM : Mem0 w0 w [] L) : Rd w A l := h.ext (Mem.grown hM)
def Off (A : Option Addr) (l : List Value) (R : List (Option Nat)) : Prop := l = [] ∨ ∀ a, A = some a → some a.block ∉ R
theorem Rd.atR {A : Option Addr} {l : List Value} (h : Rd w0 A l) (hM : Mem0 w0 w R L) (hn : Off A l R) : Rd w A l := by
  rcases hn with rfl | hn
  · exact Rd.nil
  · rcases h with h | ⟨b, o, hA, hb, hc⟩
    · exact .inl h
    · exact .inr ⟨b, o, hA, Nat.lt_of_lt_of_le hb hM.size, fun j u hu => (World.cell?_of_block (hM.block b hb (by have := hn _ hA; simpa using this))).trans (hc j u hu)⟩
theorem Off.nil {A : Option Addr} {l : List Value} : Off A l [] := .inr (fun _ _ => by simp)

/-! groups chosen, in another order -/
def pick (M : List (List FE)) : List Nat → List (List FE)
  | [] => []
  | i :: r => (M[i]?).getD [] :: pick M r
def Grp (x y : List FE) : Prop := ∀ a ∈ x, ∀ b ∈ y, Apart a b
theorem grp_get : ∀ {M : List (List FE)} (h : M.Pairwise Grp) {i j : Nat} {x y : List FE}, M[i]? = some x → M[j]? = some y → i ≠ j → Grp x y
  | [], _, i, j, x, y, h1, _, _ => by simp at h1
  | g :: M, h, 0, 0, x, y, _, _, hne => absurd rfl hne
  | g :: M, h, 0, j + 1, x, y, h1, h2, _ => by
    simp at h1 h2; subst h1
    obtain ⟨hj, rfl⟩ := List.getElem?_eq_some_iff.1 h2
    exact (List.pairwise_cons.1 h).1 _ (List.getElem_mem hj)
  | g :: M, h, i + 1, 0, x, y, h1, h2, _ => by
    simp at h1 h2; subst h2
    obtain ⟨hj, rfl⟩ := List.getElem?_eq_some_iff.1 h1
    exact fun a ha b hb => ((List.pairwise_cons.1 h).1 _ (List.getElem_mem hj) b hb a ha).symm
  | g :: M, h, i + 1, j + 1, x, y, h1, h2, hne => grp_get (List.pairwise_cons.1 h).2 (by simpa using h1) (by simpa using h2) (by omega)
theorem pick_mem : ∀ (idx : List Nat) (g : List FE), g ∈ pick M idx → g = [] ∨ ∃ i ∈ idx, M[i]? = some g
  | [], g, h => by simp [pick] at h
  | i :: r, g, h => by
    simp only [pick, List.mem_cons] at h
    rcases h with h | h
    · cases hM : M[i]? with
      | none => left; simpa [hM] using h
      | some y => right; exact ⟨i, by simp, by rw [hM, h, hM]; rfl⟩
    · rcases pick_mem r g h with h | ⟨j, hj, h⟩
      · exact .inl h
      · exact .inr ⟨j, by simp [hj], h⟩
theorem pick_pair (h : M.Pairwise Grp) : ∀ (idx : List Nat), idx.Nodup → (pick M idx).Pairwise Grp
  | [], _ => .nil
  | i :: r, hn => by
    simp only [List.nodup_cons] at hn
    refine List.pairwise_cons.2 ⟨fun g hg => ?_, pick_pair h r hn.2⟩
    rcases pick_mem r g hg with rfl | ⟨j, hj, hM⟩
    · intro a _ b hb; simp at hb
    · cases hi : M[i]? with
      | none => intro a ha; simp at ha
      | some x => exact grp_get h hi hM (fun e => hn.1 (e ▸ hj))
theorem Mem.pick (h : Mem w0 w R M) (idx : List Nat) (hn : idx.Nodup) (hM : Px.pick M idx = M') : Mem w0 w R M' := by
  subst hM
  have hp := List.pairwise_flatten.1 h.apart
  have hsub : ∀ x ∈ (Px.pick M idx).flatten, x ∈ M.flatten := by
    intro x hx
    obtain ⟨g, hg, hx⟩ := List.mem_flatten.1 hx
    rcases pick_mem idx g hg with rfl | ⟨i, _, hi⟩
    · simp at hx
    · exact List.mem_flatten.2 ⟨g, List.mem_of_getElem? hi, hx⟩
  refine ⟨h.os, h.tape, h.output, h.size, h.block, fun x hx => h.own x (hsub x hx), List.pairwise_flatten.2 ⟨fun g hg => ?_, pick_pair hp.2 idx hn⟩, fun x hx => h.born x (hsub x hx)⟩
  rcases pick_mem idx g hg with rfl | ⟨i, _, hi⟩
  · exact .nil
  · exact hp.1 g (List.mem_of_getElem? hi)
theorem Mem.none (h : Mem0 w0 w R L) : Mem w0 w R [] := ⟨h.os, h.tape, h.output, h.size, h.block, by simp, .nil, by simp⟩
theorem Mem.merge {a b : List FE} (h : Mem w0 w R (a :: b :: M)) : Mem w0 w R ((a ++ b) :: M) := by simpa [Mem] using h
theorem Mem.split {a b : List FE} (h : Mem w0 w R ((a ++ b) :: M)) : Mem w0 w R (a :: b :: M) := by simpa [Mem] using h
theorem Mem.cast (h : Mem w0 w R M) (e : M = M') : Mem w0 w R M' := e ▸ h
theorem Mem.relen (h : Mem w0 w R M) (i : Nat) {A : Option Addr} {n n' c sz : Nat} {e : TypeId} {xs xs' : List Value} (hi : M[i]? = some [⟨.slice A n c, e, sz, n, xs⟩]) (hn : n = n') (hx : xs = xs') (hM' : M.set i [⟨.slice A n' c, e, sz, n', xs'⟩] = M') : Mem w0 w R M' := by
  subst hn hx hM'
  obtain ⟨hlt, he⟩ := List.getElem?_eq_some_iff.1 hi
  rw [← he, List.set_getElem_self]
  exact h
theorem Mem.get (h : Mem w0 w R M) {i j : Nat} {g : List FE} {x : FE} (hi : M[i]? = some g) (hj : g[j]? = some x) : x.own w := h.own x (List.mem_flatten.2 ⟨g, List.mem_of_getElem? hi, List.mem_of_getElem? hj⟩)
theorem Mem.rd (h : Mem w0 w R M) (i : Nat) {A : Option Addr} {n c m sz : Nat} {e : TypeId} {xs : List Value} {g : List FE} (hi : M[i]? = some (⟨.slice A n c, e, sz, m, xs⟩ :: g)) : Rd w A xs := own_rd (h.get (j := 0) hi rfl)
theorem Mem.rdj (h : Mem w0 w R M) (i j : Nat) {A : Option Addr} {n c m sz : Nat} {e : TypeId} {xs : List Value} {g : List FE} (hi : M[i]? = some g) (hj : g[j]? = some ⟨.slice A n c, e, sz, m, xs⟩) : Rd w A xs := own_rd (h.get hi hj)
theorem Mem.cap (h : Mem w0 w R M) (i : Nat) {A : Option Addr} {n c sz : Nat} {e : TypeId} {xs : List Value} {g : List FE} (hi : M[i]? = some (⟨.slice A n c, e, sz, n, xs⟩ :: g)) : n ≤ c ∧ xs.length = n * sz := by
  obtain ⟨A', c', he, h1, _, _, _, h2⟩ := own_form (h.get (j := 0) hi rfl)
  cases he
  exact ⟨h1, h2⟩
/-- two entries lie apart: the address of one is not in the block of the other -/
theorem Mem.ng (h : Mem w0 w R M) (i j : Nat) (hij : i ≠ j) {A : Option Addr} {n c m sz gr n' c' m' sz' : Nat} {e e' : TypeId} {xs xs' : List Value} {g g' : List FE} (hi : M[i]? = some (⟨.slice A n c, e, sz, m, xs⟩ :: g)) (hj : M[j]? = some (⟨.slice (bl gr) n' c', e', sz', m', xs'⟩ :: g')) : Ng A gr := by
  intro a ha hb
  have hg := grp_get (List.pairwise_flatten.1 h.apart).2 hi hj hij _ (List.mem_cons_self) _ (List.mem_cons_self)
  subst ha
  exact hg a.block rfl (by rw [hb]; rfl)
/-- .. nor is what lay there before the call -/
theorem Mem.ng_old {A : Option Addr} {l : List Value} (h : Mem w0 w [] M) (hA : Rd w0 A l) (i : Nat) {gr n c m sz : Nat} {e : TypeId} {xs : List Value} {g : List FE} (hi : M[i]? = some (⟨.slice (bl gr) n c, e, sz, m, xs⟩ :: g)) : Off A l [some gr] := by
  rcases hA with h0 | ⟨b, o, rfl, hb, _⟩
  · exact .inl h0
  · refine .inr (fun a ha => ?_)
    cases ha
    have := h.born _ (List.mem_flatten.2 ⟨_, List.mem_of_getElem? hi, List.mem_cons_self⟩) gr rfl
    simp at this ⊢
    omega
theorem Off.of_ng {A : Option Addr} {l : List Value} {gr : Nat} (h : Ng A gr) : Off A l [some gr] := .inr fun a ha => by simpa using h a ha

/-! one entry written -/
theorem flat_at2 : ∀ {M : List (List FE)} {i j : Nat} {g : List FE} {x : FE}, M[i]? = some g → g[j]? = some x → ∃ L1 L2, M.flatten = L1 ++ x :: L2 ∧ ∀ x', (M.set i (g.set j x')).flatten = L1 ++ x' :: L2
  | [], i, j, g, x, h, _ => by simp at h
  | g0 :: M, 0, j, g, x, h, hj => by
    simp at h; subst h
    obtain ⟨hlt, rfl⟩ := List.getElem?_eq_some_iff.1 hj
    refine ⟨g0.take j, g0.drop (j + 1) ++ M.flatten, ?_, fun x' => ?_⟩
    · rw [List.flatten_cons]
      have h1 : g0 = g0.take j ++ g0[j] :: g0.drop (j + 1) := by rw [← List.drop_eq_getElem_cons hlt, List.take_append_drop]
      conv => lhs; rw [h1]
      simp only [List.append_assoc, List.cons_append]
    · rw [List.set_cons_zero, List.flatten_cons, List.set_eq_take_append_cons_drop, if_pos hlt]
      simp
  | g0 :: M, i + 1, j, g, x, h, hj => by
    obtain ⟨L1, L2, h1, h2⟩ := flat_at2 (M := M) (i := i) (by simpa using h) hj
    exact ⟨g0 ++ L1, L2, by rw [List.flatten_cons, h1, List.append_assoc], fun x' => by rw [List.set_cons_succ, List.flatten_cons, h2, List.append_assoc]⟩
theorem Mem0.upd {L1 L2 : List FE} {x x' : FE} (h : Mem0 w0 w R (L1 ++ x :: L2)) (hk : w.grownBy w' x.blk) (ho : x'.own w') (hb : x'.blk = x.blk ∨ x'.blk = some w.heap.size ∨ x'.blk = Option.none) : Mem0 w0 w' R (L1 ++ x' :: L2) := by
  have hp := List.pairwise_append.1 h.apart
  have hc := List.pairwise_cons.1 hp.2.1
  have hm1 : ∀ y ∈ L1, y ∈ L1 ++ x :: L2 := fun y hy => by simp [hy]
  have hm2 : ∀ y ∈ L2, y ∈ L1 ++ x :: L2 := fun y hy => by simp [hy]
  have hx : x ∈ L1 ++ x :: L2 := by simp
  have hn : ∀ y, y.own w → Apart x y → y.blk = Option.none ∨ y.blk ≠ x.blk := fun y _ ha => by
    cases hy : y.blk with
    | none => exact .inl rfl
    | some k => exact .inr fun he => ha k he.symm hy
  have hap : ∀ y, y.own w → Apart x y → Apart x' y := fun y hy ha k h1 h2 => by
    rcases hb with hb | hb | hb
    · exact ha k (hb.symm.trans h1) h2
    · have hk1 : some w.heap.size = some k := hb.symm.trans h1
      have := FE.own.lt hy h2
      simp at hk1; omega
    · have : Option.none = some k := hb.symm.trans h1
      cases this
  refine ⟨hk.os.trans h.os, hk.tape.trans h.tape, hk.output.trans h.output, Nat.le_trans h.size hk.size, fun k h1 h2 => ?_, ?_, ?_, ?_⟩
  · refine (hk.block k (Nat.lt_of_lt_of_le h1 h.size) (fun he => ?_)).trans (h.block k h1 h2)
    rcases h.born x hx k he.symm with h3 | h3
    · omega
    · exact h2 h3
  · intro y hy
    simp only [List.mem_append, List.mem_cons] at hy
    rcases hy with hy | rfl | hy
    · exact (h.own y (hm1 y hy)).kp hk (hn y (h.own y (hm1 y hy)) (hp.2.2 y hy x (by simp)).symm)
    · exact ho
    · exact (h.own y (hm2 y hy)).kp hk (hn y (h.own y (hm2 y hy)) (hc.1 y hy))
  · refine List.pairwise_append.2 ⟨hp.1, List.pairwise_cons.2 ⟨fun y hy => hap y (h.own y (hm2 y hy)) (hc.1 y hy), hc.2⟩, fun y hy z hz => ?_⟩
    simp only [List.mem_cons] at hz
    rcases hz with rfl | hz
    · exact (hap y (h.own y (hm1 y hy)) (hp.2.2 y hy x (by simp)).symm).symm
    · exact hp.2.2 y hy z (by simp [hz])
  · intro y hy k hk'
    simp only [List.mem_append, List.mem_cons] at hy
    rcases hy with hy | rfl | hy
    · exact h.born y (hm1 y hy) k hk'
    · rcases hb with hb | hb | hb
      · exact h.born x hx k (hb.symm.trans hk')
      · have hk1 : some w.heap.size = some k := hb.symm.trans hk'
        simp at hk1
        left; have := h.size; omega
      · have : Option.none = some k := hb.symm.trans hk'
        cases this
    · exact h.born y (hm2 y hy) k hk'
theorem Mem.upd {i j : Nat} {g : List FE} {x x' : FE} (h : Mem w0 w R M) (hi : M[i]? = some g) (hj : g[j]? = some x) (hk : w.grownBy w' x.blk) (ho : x'.own w') (hb : x'.blk = x.blk ∨ x'.blk = some w.heap.size ∨ x'.blk = Option.none) : Mem w0 w' R (M.set i (g.set j x')) := by
  obtain ⟨L1, L2, h1, h2⟩ := flat_at2 hi hj
  show Mem0 _ _ _ _
  rw [h2]
  have h' : Mem0 w0 w R M.flatten := h
  rw [h1] at h'
  exact h'.upd hk ho hb
/-! new entries -/
theorem Mem.cons {x : FE} (h : Mem w0 w R M) (hk : w.grownBy w' Option.none) (ho : x.own w') (hb : ∀ k, x.blk = some k → w.heap.size ≤ k) : Mem w0 w' R ([x] :: M) := by
  have h' := Mem0.ext h hk
  refine ⟨h'.os, h'.tape, h'.output, h'.size, h'.block, ?_, ?_, ?_⟩
  · intro y hy
    simp only [List.flatten_cons, List.singleton_append, List.mem_cons] at hy
    rcases hy with rfl | hy
    · exact ho
    · exact h'.own y hy
  · rw [List.flatten_cons, List.singleton_append]
    refine List.pairwise_cons.2 ⟨fun y hy k h1 h2 => ?_, h.apart⟩
    have := hb k h1
    have := FE.own.lt (h.own y hy) h2
    omega
  · intro y hy
    simp only [List.flatten_cons, List.singleton_append, List.mem_cons] at hy
    rcases hy with rfl | hy
    · intro k hk'
      have := hb k hk'
      have := h.size
      left; omega
    · exact h'.born y hy
theorem Mem.addNil {e : TypeId} {sz : Nat} (h : Mem w0 w R M) : Mem w0 w R ([⟨.slice Option.none 0 0, e, sz, 0, []⟩] :: M) :=
  Mem.cons h (krefl w _) (World.ownsRow_nil w 0 e sz) (fun k hk => by simp [FE.blk, Value.ownBlock] at hk)
/-! calls -/
abbrev blks (M : List (List FE)) : List (Option Nat) := M.flatten.map FE.blk
theorem Mem.focus {Ma rest : List (List FE)} {R' : List (Option Nat)} (h : Mem w0 w R (Ma ++ rest)) (hR : blks Ma = R') : Mem w w R' Ma := by
  subst hR
  have h' : Mem0 w0 w R (Ma.flatten ++ rest.flatten) := by rw [← List.flatten_append]; exact h
  exact ⟨rfl, rfl, rfl, Nat.le_refl _, fun _ _ _ => rfl, fun x hx => h'.own x (by simp only [List.mem_append]; exact .inl hx), (List.pairwise_append.1 h'.apart).1, fun x hx k hk => .inr (hk ▸ List.mem_map_of_mem hx)⟩
theorem Mem.call {Ma rest M1 : List (List FE)} {R' : List (Option Nat)} (h : Mem w0 w R (Ma ++ rest)) (h1 : Mem w w1 R' M1) (hR : blks Ma = R') : Mem w0 w1 R (M1 ++ rest) := by
  subst hR
  have h' : Mem0 w0 w R (Ma.flatten ++ rest.flatten) := by rw [← List.flatten_append]; exact h
  have hp := List.pairwise_append.1 h'.apart
  have hno : ∀ y ∈ rest.flatten, ∀ k, y.blk = some k → some k ∉ blks Ma := fun y hy k hk hm => by
    obtain ⟨x, hx, he⟩ := List.mem_map.1 hm
    exact hp.2.2 x hx y hy k he hk
  have hlt : ∀ y ∈ rest.flatten, ∀ k, y.blk = some k → k < w.heap.size := fun y hy k hk => FE.own.lt (h'.own y (by simp only [List.mem_append]; exact .inr hy)) hk
  show Mem0 _ _ _ _
  rw [List.flatten_append]
  refine ⟨h1.os.trans h'.os, h1.tape.trans h'.tape, h1.output.trans h'.output, Nat.le_trans h'.size h1.size, fun k hk hr => ?_, ?_, ?_, ?_⟩
  · refine (h1.block k (Nat.lt_of_lt_of_le hk h'.size) (fun hm => ?_)).trans (h'.block k hk hr)
    obtain ⟨x, hx, he⟩ := List.mem_map.1 hm
    rcases h'.born x (by simp only [List.mem_append]; exact .inl hx) k he with h3 | h3
    · omega
    · exact hr h3
  · intro y hy
    simp only [List.mem_append] at hy
    rcases hy with hy | hy
    · exact h1.own y hy
    · have hyo := h'.own y (by simp only [List.mem_append]; exact .inr hy)
      refine ⟨hyo.1, ?_⟩
      rcases hyo.2 with hn | ⟨g, cap, cur, hv, hb, hg, rest'⟩
      · exact .inl hn
      · have hk : y.blk = some g := by unfold FE.blk; rw [hv]; rfl
        exact .inr ⟨g, cap, cur, hv, hb, (h1.block g (hlt y hy g hk) (hno y hy g hk)).trans hg, rest'⟩
  · refine List.pairwise_append.2 ⟨h1.apart, hp.2.1, fun x hx y hy k h2 h3 => ?_⟩
    rcases h1.born x hx k h2 with h4 | h4
    · have := hlt y hy k h3; omega
    · exact hno y hy k h3 h4
  · intro y hy k hk
    simp only [List.mem_append] at hy
    rcases hy with hy | hy
    · rcases h1.born y hy k hk with h4 | h4
      · left; have := h'.size; omega
      · obtain ⟨x, hx, he⟩ := List.mem_map.1 h4
        exact h'.born x (by simp only [List.mem_append]; exact .inl hx) k he
    · exact h'.born y (by simp only [List.mem_append]; exact .inr hy) k hk
theorem Mem.call0 {M1 : List (List FE)} (h : Mem w0 w R M) (h1 : Mem w w1 [] M1) : Mem w0 w1 R (M1 ++ M) := Mem.call (Ma := []) h h1 rfl
end

/-! ### Operations on what is held -/
section
variable {P : Program} {σ : Sig} {w0 w : World} {T U T' e : TypeId} {pos : String} {after : Array Edge} {g : Option (Nat × Bool)} {x y : Operand}
variable {zs : List Value} {bytes : Nat} {agg : Bool} {n : Nat} {Q : Post} {ops rest : List Oper} {R : List (Option Nat)} {M : List (List FE)}
theorem blk_own' {b m sz : Nat} {t : TypeId} {l : List Value} (h : Blk w b t l) (hl : l.length = m * sz) (hm : m ≤ maxLen) : FE.own w ⟨.slice (bl b) m m, t, sz, m, l⟩ :=
  own_new h (Nat.zero_le _) hl hm
theorem mem_blk {i j k sz m : Nat} {gs : List FE} {t : TypeId} {l : List Value} (h : Mem w0 w R M) (hi : M[i]? = some gs) (hj : gs[j]? = some ⟨.slice (bl k) m m, t, sz, m, l⟩) : Blk w k t l := by
  obtain ⟨hl, ⟨h1, _⟩ | ⟨b, c', cur, h1, hB, hh, hn, hc, hs, ht⟩⟩ := h.get hi hj
  · cases h1
  · cases h1
    simp only at hl hh hs ht
    unfold Blk
    rw [hh, ← ht]
    simp only [List.take_of_length_le (show cur.toList.length ≤ m * sz by simp; omega)]
theorem O.mbox {d k : Nat} {vs : List Value} {v : Value} (hM : Mem w0 w R M) (hg : gok ops σ g = true) (hx : ev σ x = v) (hv : v.cells = vs.toArray) (hk : vs.length = k) (hd : Nat.blt d n = true)
    (h : ∀ w' b, w0.heap.size ≤ b → Mem w0 w' R ([⟨.slice (bl b) 1 1, T, k, 1, vs⟩] :: M) → O P n ops rest Q (upd σ d (.pointer (ofs (bl b) 0))) w') : O P n ops (⟨some d, .box T x, T', pos, after, g⟩ :: rest) Q σ w :=
  O.box hg hx hv hd fun w' b hb hE hB => h w' b (by have := hM.size; omega) (Mem.cons hM hE (blk_own' (m := 1) (sz := k) hB (by omega) (by decide)) (fun k hk => by simp [FE.blk, Value.ownBlock] at hk; omega))
theorem O.malloc {d k : Nat} (hM : Mem w0 w R M) (hg : gok ops σ g = true) (hd : Nat.blt d n = true) (he : ElT P T zs bytes agg) (hk : zs.length = k)
    (h : ∀ w' b, w0.heap.size ≤ b → Mem w0 w' R ([⟨.slice (bl b) 1 1, T, k, 1, zs⟩] :: M) → O P n ops rest Q (upd σ d (.pointer (ofs (bl b) 0))) w') : O P n ops (⟨some d, .alloc T, T', pos, after, g⟩ :: rest) Q σ w :=
  O.alloc hg hd he fun w' b hb hE hB => h w' b (by have := hM.size; omega) (Mem.cons hM hE (blk_own' (m := 1) (sz := k) hB (by omega) (by decide)) (fun k hk => by simp [FE.blk, Value.ownBlock] at hk; omega))
theorem O.mmake {d k sz : Nat} {xs : List Value} (hM : Mem w0 w R M) (hg : gok ops σ g = true) (hT : P.underlying T = some (.slice e)) (he : ElT P e zs bytes agg) (hsz : zs.length = sz) (hx : ev σ x = I k) (hy : ev σ y = I k) (hd : Nat.blt d n = true) (hk : bytes * k ≤ 281474976710656) (hm : k ≤ 1152921504606846976) (hq : zer zs k = xs)
    (h : ∀ w' b, w0.heap.size ≤ b → Mem w0 w' R ([⟨.slice (bl b) k k, e, sz, k, xs⟩] :: M) → O P n ops rest Q (upd σ d (.slice (bl b) k k)) w') : O P n ops (⟨some d, .makeSlice T x y, T', pos, after, g⟩ :: rest) Q σ w :=
  O.make hg hT he hx hy hd hk (by omega) fun w' b hb hE hB => h w' b (by have := hM.size; omega) (Mem.cons hM hE (blk_own' (m := k) (sz := sz) (hB.cast hq) (by rw [← hq, zer_length, hsz]) (by simp only [maxLen]; omega)) (fun k hk => by simp [FE.blk, Value.ownBlock] at hk; omega))
theorem O.mlit {d len sz : Nat} {parts : List (Nat × Operand)} {ps : List (Nat × Value)} {cs : List Value} (hM : Mem w0 w R M) (hg : gok ops σ g = true) (hT : P.underlying T = some (.slice e)) (he : ElT P e zs bytes agg) (hsz : zs.length = sz) (hp : evp σ parts = ps) (hd : Nat.blt d n = true) (hsm : Nat.ble (len * zs.length) 16777216 = true)
    (hc : fillS zs len ps = some cs.toArray) (hl : cs.length = len * sz) (hl2 : Nat.ble len 16777216 = true)
    (h : ∀ w' b, w0.heap.size ≤ b → Mem w0 w' R ([⟨.slice (bl b) len len, e, sz, len, cs⟩] :: M) → O P n ops rest Q (upd σ d (.slice (bl b) len len)) w') : O P n ops (⟨some d, .buildSlice T len parts.toArray, T', pos, after, g⟩ :: rest) Q σ w :=
  O.lit hg hT he hp hd hsm hc fun w' b hb hE hB => h w' b (by have := hM.size; omega) (Mem.cons hM hE (blk_own' (m := len) (sz := sz) hB hl (by have := Nat.le_of_ble_eq_true hl2; simp only [maxLen]; omega)) (fun k hk => by simp [FE.blk, Value.ownBlock] at hk; omega))
theorem O.mstore {A : Option Addr} {m c k sz : Nat} {t : TypeId} {v : Value} {vs xs xs' : List Value} {gs : List FE} {M' : List (List FE)} (i j : Nat) (hM : Mem w0 w R M) (hi : M[i]? = some gs) (hj : gs[j]? = some ⟨.slice A m c, t, sz, m, xs⟩) (hg : gok ops σ g = true) (he : ElT P T zs bytes agg) (hx : ev σ x = .pointer (ofs A k)) (hy : ev σ y = v) (hv : v.cells = vs.toArray) (hvl : vs.length = zs.length) (h1 : (vs.all one) = true)
    (hk : k + vs.length ≤ xs.length) (h0 : 0 < vs.length) (hq : spl xs k vs = xs') (hM' : M.set i (gs.set j ⟨.slice A m c, t, sz, m, xs'⟩) = M')
    (h : ∀ w', Mem w0 w' R M' → O P n ops rest Q σ w') : O P n ops (⟨none, .store T x y, T', pos, after, g⟩ :: rest) Q σ w := by
  subst hq hM'
  exact O.storeRow hg he hx hy hv hvl h1 (hM.get hi hj) hk h0 fun w' hE _ ho => h w' (Mem.upd hM hi hj hE ho (.inl rfl))
theorem O.mappend {d : Nat} {t : TypeId} {A A2 : Option Addr} {m k c c2 sz : Nat} {xs news : List Value} {gs : List FE} {m1 : Nat} {xs1 : List Value} {M' : Option Addr → Nat → List (List FE)} (i j : Nat) (hM : Mem w0 w R M) (hi : M[i]? = some gs) (hj : gs[j]? = some ⟨.slice A m c, e, sz, m, xs⟩) (hg : gok ops σ g = true) (ht : P.underlying t = some (.slice e)) (he : ElT P e zs bytes agg) (hz : zs.length = sz ∧ 0 < sz) (hx : ev σ x = .slice A m c) (hy : ev σ y = .slice A2 k c2) (hd : Nat.blt d n = true)
    (hr : Rd w A2 news) (hl : news.length = k * sz) (h1 : (news.all one) = true) (hn : m + k ≤ 1152921504606846976) (hby : (m + k) * bytes ≤ 140737488355328) (hm1 : m + k = m1) (hxs : xs ++ news = xs1) (hM' : ∀ A' c', M.set i (gs.set j ⟨.slice A' m1 c', e, sz, m1, xs1⟩) = M' A' c')
    (h : ∀ w' A' c', m1 ≤ c' → Mem w0 w' R (M' A' c') → O P n ops rest Q (upd σ d (.slice A' m1 c')) w') :
    O P n ops (⟨some d, .call ⟨.builtin .append, #[x, y], #[t, t]⟩, T', pos, after, g⟩ :: rest) Q σ w := by
  obtain ⟨rfl, hz⟩ := hz
  subst hm1 hxs
  refine O.append (B := 0) hg ht he hz hx hy hd (hM.get hi hj) hr hl h1 (Nat.le_trans hn (by decide)) hby (Nat.zero_le _) fun w' v' ho hE hb => ?_
  obtain ⟨A', c', rfl, hc, _, _, _, _⟩ := own_form ho
  exact h w' A' c' hc (hM' A' c' ▸ Mem.upd hM hi hj hE ho (hb.elim .inl (fun h => .inr (.inl h))))
end
/-! cells of lists -/
theorem zer_map {α : Type} {f : α → Value} {a : α} {n : Nat} {z : Value} (h : f a = z) : zer [z] n = (List.replicate n a).map f := by rw [zer_one, List.map_replicate, h]
theorem zer_flat {α : Type} {f : α → List Value} {a : α} {n : Nat} {zs : List Value} (h : f a = zs) : zer zs n = (List.replicate n a).flatMap f := by
  rw [zer_eq, ← h]
  induction n with
  | zero => rfl
  | succ n ih => rw [List.replicate_succ, List.flatten_cons, ih, List.replicate_succ, List.flatMap_cons]
theorem spl_map {α : Type} {f : α → Value} {l : List α} {k : Nat} {a : α} (hk : k < l.length) : spl (l.map f) (k * 1) [f a] = (l.set k a).map f := by
  rw [Nat.mul_one, spl_one (by simpa using hk), List.map_set]
theorem spl_flat {α : Type} {f : α → List Value} {n : Nat} (hn : ∀ a, (f a).length = n) {l : List α} {k : Nat} {a : α} (hk : k < l.length) : spl (l.flatMap f) (k * n) (f a) = (l.set k a).flatMap f := by
  have h1 : (l.set k a) = l.take k ++ a :: l.drop (k + 1) := by rw [List.set_eq_take_append_cons_drop, if_pos hk]
  rw [h1, List.flatMap_append, List.flatMap_cons, flat_take hn, flat_drop hn]
  unfold spl
  rw [hn, Nat.succ_mul, List.append_assoc]
/-- a part of an element is written -/
theorem spl_part {α : Type} {f : α → List Value} {n o : Nat} (hn : ∀ a, (f a).length = n) {l : List α} {k : Nat} {a : α} {vs : List Value} (hk : k < l.length) (ho : o + vs.length ≤ n) (ha : spl (f l[k]) o vs = f a) : spl (l.flatMap f) (k * n + o) vs = (l.set k a).flatMap f := by
  rw [← spl_flat hn hk (a := a), ← ha]
  have hsp : l.flatMap f = (l.flatMap f).take (k * n) ++ (f l[k] ++ (l.flatMap f).drop (k * n + n)) := by
    have := spl_flat hn hk (a := l[k])
    rw [List.set_getElem_self] at this
    conv => lhs; rw [← this]
    unfold spl
    rw [hn, List.append_assoc]
  have hlen : ((l.flatMap f).take (k * n)).length = k * n := by
    rw [← flat_take hn, flat_len hn, List.length_take, Nat.min_eq_left (by omega)]
  have hfl := hn l[k]
  generalize hX : (l.flatMap f).take (k * n) = X at *
  generalize hY : (l.flatMap f).drop (k * n + n) = Y at *
  generalize l.flatMap f = Z at *
  subst hsp
  have e1 : (X ++ (f l[k] ++ Y)).take (k * n + o) = X ++ (f l[k]).take o := by
    rw [← hlen, List.take_length_add_append, List.take_append_of_le_length (by omega)]
  have e2 : (X ++ (f l[k] ++ Y)).drop (k * n + o + vs.length) = (f l[k]).drop (o + vs.length) ++ Y := by
    rw [Nat.add_assoc, ← hlen, List.drop_length_add_append, List.drop_append_of_le_length (by omega)]
  have e3 : (spl (f l[k]) o vs).length = n := by rw [spl_length (by omega), hfl]
  have e4 : (X ++ (f l[k] ++ Y)).drop (k * n + (spl (f l[k]) o vs).length) = Y := by
    rw [e3, ← hlen, List.drop_length_add_append, ← hfl, List.drop_left]
  have e5 : (X ++ (f l[k] ++ Y)).take (k * n) = X := by rw [← hlen, List.take_left]
  show _ ++ _ ++ _ = _ ++ _ ++ _
  rw [e1, e2, e4, e5]
  unfold spl
  simp only [List.append_assoc]
end Go.Px
