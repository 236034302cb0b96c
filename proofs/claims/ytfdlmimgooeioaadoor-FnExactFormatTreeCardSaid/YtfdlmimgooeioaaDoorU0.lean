/- Own layer: part of this seat (U0). Plain theorems; no conditions. -/
import Derived.Test.YtfdlmimgooeioaaDoorR0
set_option linter.unusedVariables false
set_option linter.unusedSimpArgs false
/-! trees of pages: validity, once for both walks -/
namespace Go.Px
structure PgT where
  keys : List Int
  kids : List Int
  vals : List Int
deriving DecidableEq
structure TrT where
  root : Int
  pages : List PgT
deriving DecidableEq
def gP (T : TrT) (i : Int) : PgT := T.pages.getD i.toNat ⟨[], [], []⟩
def inT (T : TrT) (i : Int) : Bool := decide (0 ≤ i) && decide (i < (T.pages.length : Int))
theorem inT_iff {T : TrT} {i : Int} : inT T i = true ↔ 0 ≤ i ∧ i < (T.pages.length : Int) := by simp [inT]
/-- a page by itself -/
def frB (T : TrT) (i : Int) : Bool :=
  decide ((gP T i).keys.length ≤ 4) && validK (gP T i).keys && (decide (i = T.root) || decide (2 ≤ (gP T i).keys.length)) &&
    (if (gP T i).kids = [] then decide ((gP T i).vals.length = (gP T i).keys.length) && (gP T i).vals.all isValB
     else decide ((gP T i).vals = []) && decide (1 ≤ (gP T i).keys.length) && decide ((gP T i).kids.length = (gP T i).keys.length + 1))
def lowK (p : PgT) (low : Int) (k : Nat) : Int := if k = 0 then low else p.keys.getD (k - 1) 0
def highK (p : PgT) (high : Int) (k : Nat) : Int := if k < p.keys.length then p.keys.getD k 0 else high
def keysIn (p : PgT) (low high : Int) : Bool := p.keys.all fun k => decide (low ≤ k) && decide (k < high)
/-- right, of a height -/
def okB (T : TrT) : Nat → Int → Int → Int → Bool
  | 0, _, _, _ => false
  | d + 1, i, low, high => inT T i && frB T i && keysIn (gP T i) low high &&
    (if d = 0 then decide ((gP T i).kids = []) else decide ((gP T i).kids ≠ []) && (List.range (gP T i).kids.length).all fun k => okB T d ((gP T i).kids.getD k 0) (lowK (gP T i) low k) (highK (gP T i) high k))
/-- the pages below, from the top, each with those below it -/
def subT (T : TrT) : Nat → Int → List Int
  | 0, _ => []
  | d + 1, i => i :: (gP T i).kids.flatMap (subT T d)
def validT (T : TrT) : Bool := (decide (1 ≤ T.pages.length) && decide (T.pages.length ≤ 16)) && inT T T.root &&
  [1, 2, 3].any fun d => okB T d T.root 0 100 && decide (subT T d T.root).Nodup && decide ((subT T d T.root).length = T.pages.length)
section
variable {T : TrT}
theorem okB_iff {d : Nat} {i low high : Int} : okB T (d + 1) i low high = true ↔ inT T i = true ∧ frB T i = true ∧ keysIn (gP T i) low high = true ∧
    ((d = 0 ∧ (gP T i).kids = []) ∨ (d ≠ 0 ∧ (gP T i).kids ≠ [] ∧ ∀ k, k < (gP T i).kids.length → okB T d ((gP T i).kids.getD k 0) (lowK (gP T i) low k) (highK (gP T i) high k) = true)) := by
  simp only [okB, Bool.and_eq_true]
  by_cases hd : d = 0
  · rw [if_pos hd]; simp [hd, and_assoc]
  · rw [if_neg hd]; simp [hd, and_assoc]
theorem okB_in {d : Nat} {i low high : Int} (h : okB T d i low high = true) : inT T i = true := by
  cases d with
  | zero => simp [okB] at h
  | succ d => exact (okB_iff.1 h).1
theorem ok_kids {d : Nat} {i low high : Int} (h : okB T (d + 1) i low high = true) : (gP T i).kids = [] ↔ d = 0 := by
  rcases (okB_iff.1 h).2.2.2 with ⟨h1, h2⟩ | ⟨h1, h2, _⟩
  · simp [h1, h2]
  · simp [h1, h2]
/-- all that is below is in range -/
theorem sub_in : ∀ {d : Nat} {i low high : Int}, okB T d i low high = true → ∀ x ∈ subT T d i, inT T x = true
  | 0, _, _, _, h, _, _ => by simp [okB] at h
  | d + 1, i, low, high, h, x, hx => by
    simp only [subT] at hx
    rcases List.mem_cons.1 hx with rfl | hx
    · exact okB_in h
    · obtain ⟨y, hy, hx⟩ := List.mem_flatMap.1 hx
      rcases (okB_iff.1 h).2.2.2 with ⟨h1, h2⟩ | ⟨_, _, h3⟩
      · rw [h2] at hy; simp at hy
      · obtain ⟨k, hk, rfl⟩ := List.getElem_of_mem hy
        have h4 := h3 k hk
        rw [List.getD_eq_getElem?_getD, List.getElem?_eq_getElem hk, Option.getD_some] at h4
        exact sub_in h4 x hx
/-! the program's way: pages are marked, leaves are all at one depth -/
def visK (f : Nat → Int → List Int → Int → Option (List Int × Int)) : Nat → List Int → List Int → Int → Option (List Int × Int)
  | _, [], seen, ld => some (seen, ld)
  | k, x :: xs, seen, ld => match f k x seen ld with
    | none => none
    | some (s, l) => visK f (k + 1) xs s l
def visT (T : TrT) : Nat → Int → Int → Int → List Int → Int → Option (List Int × Int)
  | 0, _, _, _, _, _ => none
  | n + 1, i, low, high, seen, ld =>
    if !inT T i || decide (i ∈ seen) then none
    else if !frB T i || !keysIn (gP T i) low high then none
    else if (gP T i).kids = [] then (if ld < 0 ∨ ld = 2 - (n : Int) then some (seen ++ [i], 2 - (n : Int)) else none)
    else visK (fun k x s l => visT T n x (lowK (gP T i) low k) (highK (gP T i) high k) s l) 0 (gP T i).kids (seen ++ [i]) ld
theorem vis_k {f : Nat → Int → List Int → Int → Option (List Int × Int)} {D : Nat → Prop} {G : Nat → Nat → Int → Bool} {sb : Nat → Int → List Int} {V : Nat → Int}
    (hf : ∀ k x s l s2 l2, f k x s l = some (s2, l2) ↔ ∃ d, D d ∧ G d k x = true ∧ (sb d x).Nodup ∧ (∀ y ∈ sb d x, y ∉ s) ∧ s2 = s ++ sb d x ∧ l2 = V d ∧ (l < 0 ∨ l = V d)) (hv : ∀ d, D d → 0 ≤ V d) (hi : ∀ d e, V d = V e → d = e) :
    ∀ {xs : List Int} {k : Nat} {s : List Int} {l : Int} {s2 : List Int} {l2 : Int}, xs ≠ [] → (visK f k xs s l = some (s2, l2) ↔ ∃ d, D d ∧ (∀ j, j < xs.length → G d (k + j) (xs.getD j 0) = true) ∧ (xs.flatMap (sb d)).Nodup ∧ (∀ y ∈ xs.flatMap (sb d), y ∉ s) ∧ s2 = s ++ xs.flatMap (sb d) ∧ l2 = V d ∧ (l < 0 ∨ l = V d))
  | [], _, _, _, _, _, h => absurd rfl h
  | x :: xs, k, s, l, s2, l2, _ => by
    simp only [visK]
    cases hfx : f k x s l with
    | none =>
      simp only [reduceCtorEq, false_iff]
      rintro ⟨d, hd, h1, h2, h3, h4, h5, h6⟩
      rw [List.flatMap_cons] at h2 h3
      have h2' := List.nodup_append.1 h2
      have := (hf k x s l (s ++ sb d x) (V d)).2 ⟨d, hd, by simpa using h1 0 (by simp), h2'.1, fun y hy => h3 y (List.mem_append_left _ hy), rfl, rfl, h6⟩
      rw [hfx] at this; cases this
    | some q =>
      obtain ⟨s3, l3⟩ := q
      obtain ⟨d, hd, a1, a2, a3, a4, a5, a6⟩ := (hf k x s l s3 l3).1 hfx
      subst a4 a5
      simp only
      by_cases hx : xs = []
      · subst hx
        simp only [visK, Option.some.injEq, Prod.mk.injEq, List.flatMap_cons, List.flatMap_nil, List.append_nil]
        constructor
        · rintro ⟨rfl, rfl⟩
          exact ⟨d, hd, fun j hj => by have : j = 0 := by simpa using hj
                                       subst this; simpa using a1, a2, a3, rfl, rfl, a6⟩
        · rintro ⟨e, he, c1, _, _, c4, c5, c6⟩
          have c1' := c1 0 (by simp)
          have hde : d = e := by
            have := (hf k x s l (s ++ sb d x) (V d)).1 hfx
            rcases a6 with a6 | a6
            · rcases c6 with c6 | c6
              · subst c4 c5
                -- the answer is one: it is the one that f gave
                have h9 := (hf k x s l (s ++ sb e x) (V e)).2 ⟨e, he, by simpa using c1', by assumption, by assumption, rfl, rfl, .inl c6⟩
                rw [hfx] at h9; simp only [Option.some.injEq, Prod.mk.injEq] at h9
                exact hi _ _ h9.2
              · have := hv e he; omega
            · rcases c6 with c6 | c6
              · have := hv d hd; omega
              · exact hi _ _ (a6.symm.trans c6)
          subst hde; exact ⟨c4.symm, c5.symm⟩
      · rw [vis_k hf hv hi hx]
        constructor
        · rintro ⟨e, he, b1, b2, b3, b4, b5, b6⟩
          have hde : d = e := by
            rcases b6 with b6 | b6
            · have := hv d hd; omega
            · exact hi _ _ b6
          subst hde
          refine ⟨d, hd, fun j hj => ?_, ?_, fun y hy => ?_, by rw [b4, List.flatMap_cons, List.append_assoc], b5, a6⟩
          · cases j with
            | zero => simpa using a1
            | succ j => have := b1 j (by simpa using hj); rw [show k + (j + 1) = k + 1 + j by omega]; simpa using this
          · rw [List.flatMap_cons]
            refine List.nodup_append.2 ⟨a2, b2, fun y hy z hz e => ?_⟩
            subst e; exact b3 y hz (List.mem_append_right _ hy)
          · rw [List.flatMap_cons] at hy
            rcases List.mem_append.1 hy with hy | hy
            · exact a3 y hy
            · intro hs; exact b3 y hy (List.mem_append_left _ hs)
        · rintro ⟨e, he, b1, b2, b3, b4, b5, b6⟩
          rw [List.flatMap_cons] at b2 b3
          have b2' := List.nodup_append.1 b2
          have hde : d = e := by
            have h9 := (hf k x s l (s ++ sb e x) (V e)).2 ⟨e, he, by simpa using b1 0 (by simp), b2'.1, fun y hy => b3 y (List.mem_append_left _ hy), rfl, rfl, b6⟩
            rw [hfx] at h9; simp only [Option.some.injEq, Prod.mk.injEq] at h9
            exact hi _ _ h9.2
          subst hde
          refine ⟨d, hd, fun j hj => ?_, b2'.2.1, fun y hy hs => ?_, by rw [b4, List.flatMap_cons, List.append_assoc], b5, .inr rfl⟩
          · have := b1 (j + 1) (by simpa using hj); rw [show k + 1 + j = k + (j + 1) by omega]; simpa using this
          · rcases List.mem_append.1 hs with hs | hs
            · exact b3 y (List.mem_append_right _ hy) hs
            · exact b2'.2.2 y hs y hy rfl
/-- a visit that succeeds -/
theorem vis_iff : ∀ {n : Nat} {i low high : Int} {seen : List Int} {ld : Int} {s2 : List Int} {l2 : Int}, n ≤ 3 →
    (visT T n i low high seen ld = some (s2, l2) ↔ ∃ d, (1 ≤ d ∧ d ≤ n) ∧ okB T d i low high = true ∧ (subT T d i).Nodup ∧ (∀ y ∈ subT T d i, y ∉ seen) ∧ s2 = seen ++ subT T d i ∧ l2 = 2 - (n : Int) + d ∧ (ld < 0 ∨ ld = 2 - (n : Int) + d))
  | 0, _, _, _, _, _, _, _, _ => by
    simp only [visT, reduceCtorEq, false_iff]
    rintro ⟨d, hd, _⟩; omega
  | n + 1, i, low, high, seen, ld, s2, l2, hn => by
    simp only [visT]
    by_cases h1 : inT T i = true
    · by_cases h2 : i ∈ seen
      · rw [if_pos (by simp [h2])]
        simp only [reduceCtorEq, false_iff]
        rintro ⟨d, hd, h3, _, h4, _⟩
        cases d with
        | zero => omega
        | succ d => exact h4 i (by simp [subT]) h2
      · rw [if_neg (by simp [h1, h2])]
        by_cases h3 : frB T i = true ∧ keysIn (gP T i) low high = true
        · rw [if_neg (by simp [h3.1, h3.2])]
          by_cases h4 : (gP T i).kids = []
          · rw [if_pos h4]
            constructor
            · intro h
              split at h
              · rename_i hl
                simp only [Option.some.injEq, Prod.mk.injEq] at h
                refine ⟨1, ⟨by omega, by omega⟩, okB_iff.2 ⟨h1, h3.1, h3.2, .inl ⟨rfl, h4⟩⟩, ?_, ?_, ?_, ?_, ?_⟩
                · simp [subT, h4]
                · intro y hy; simp [subT, h4] at hy; subst hy; exact h2
                · rw [← h.1]; simp [subT, h4]
                · rw [← h.2]; omega
                · omega
              · cases h
            · rintro ⟨d, hd, h5, _, _, h6, h7, h8⟩
              cases d with
              | zero => omega
              | succ d =>
                have hd0 := (ok_kids h5).1 h4
                subst hd0
                rw [if_pos (by omega), h6, h7]
                simp [subT, h4]; omega
          · rw [if_neg h4]
            have key := vis_k (f := fun k x s l => visT T n x (lowK (gP T i) low k) (highK (gP T i) high k) s l) (D := fun d => 1 ≤ d ∧ d ≤ n) (G := fun d k x => okB T d x (lowK (gP T i) low k) (highK (gP T i) high k)) (sb := subT T) (V := fun d => 2 - (n : Int) + d)
              (fun k x s l s2 l2 => vis_iff (by omega)) (fun d hd => by omega) (fun d e h => by omega) (xs := (gP T i).kids) (k := 0) (s := seen ++ [i]) (l := ld) (s2 := s2) (l2 := l2) h4
            rw [key]
            constructor
            · rintro ⟨d, hd, b1, b2, b3, b4, b5, b6⟩
              refine ⟨d + 1, ⟨by omega, by omega⟩, okB_iff.2 ⟨h1, h3.1, h3.2, .inr ⟨by omega, h4, fun k hk => by have := b1 k hk; rwa [Nat.zero_add] at this⟩⟩, ?_, ?_, ?_, ?_, ?_⟩
              · simp only [subT]
                exact List.nodup_cons.2 ⟨fun hm => b3 i hm (by simp), b2⟩
              · intro y hy
                simp only [subT] at hy
                rcases List.mem_cons.1 hy with rfl | hy
                · exact h2
                · intro hs; exact b3 y hy (List.mem_append_left _ hs)
              · rw [b4]; simp [subT]
              · rw [b5]; simp; omega
              · simp; omega
            · rintro ⟨d, hd, b1, b2, b3, b4, b5, b6⟩
              cases d with
              | zero => omega
              | succ d =>
                rcases (okB_iff.1 b1).2.2.2 with ⟨_, c2⟩ | ⟨c1, _, c3⟩
                · exact absurd c2 h4
                · simp only [subT] at b2 b3 b4
                  have b2' := List.nodup_cons.1 b2
                  refine ⟨d, ⟨by omega, by omega⟩, fun k hk => by have := c3 k hk; rwa [Nat.zero_add], b2'.2, fun y hy hs => ?_, ?_, ?_, ?_⟩
                  · rcases List.mem_append.1 hs with hs | hs
                    · exact b3 y (List.mem_cons_of_mem _ hy) hs
                    · rw [List.mem_singleton] at hs; subst hs; exact b2'.1 hy
                  · rw [b4]; simp
                  · rw [b5]; simp; omega
                  · simp at b6; omega
        · rw [if_pos (by cases ha : frB T i <;> cases hb : keysIn (gP T i) low high <;> simp_all)]
          simp only [reduceCtorEq, false_iff]
          rintro ⟨d, hd, h5, _⟩
          cases d with
          | zero => omega
          | succ d => exact h3 ⟨(okB_iff.1 h5).2.1, (okB_iff.1 h5).2.2.1⟩
    · rw [if_pos (by simp [h1])]
      simp only [reduceCtorEq, false_iff]
      rintro ⟨d, hd, h5, _⟩
      exact h1 (okB_in h5)
end
end Go.Px
namespace Go.Px
section
variable {T : TrT}
theorem cover {L : List Int} {n : Nat} (hn : L.Nodup) (hr : ∀ x ∈ L, 0 ≤ x ∧ x < (n : Int)) : (∀ i, i < n → (i : Int) ∈ L) ↔ L.length = n := by
  have hR : ((List.range n).map fun i : Nat => (i : Int)).Nodup := by
    exact List.Pairwise.map _ (fun a b (h : a ≠ b) (e : (a : Int) = (b : Int)) => h (by omega)) List.nodup_range
  have h1 : L ⊆ (List.range n).map fun i : Nat => (i : Int) := fun x hx => by
    have := hr x hx
    exact List.mem_map.2 ⟨x.toNat, List.mem_range.2 (by omega), by omega⟩
  have h2 := List.Nodup.length_le_of_subset hn h1
  simp only [List.length_map, List.length_range] at h2
  constructor
  · intro h
    have h3 : ((List.range n).map fun i : Nat => (i : Int)) ⊆ L := fun x hx => by
      obtain ⟨i, hi, rfl⟩ := List.mem_map.1 hx
      exact h i (List.mem_range.1 hi)
    have h4 := List.Nodup.length_le_of_subset hR h3
    simp only [List.length_map, List.length_range] at h4
    omega
  · intro h i hi
    apply Classical.byContradiction
    intro hm
    have h5 : ((i : Int) :: L).Nodup := List.nodup_cons.2 ⟨hm, hn⟩
    have h6 : ((i : Int) :: L) ⊆ (List.range n).map fun i : Nat => (i : Int) := fun x hx => by
      rcases List.mem_cons.1 hx with rfl | hx
      · exact List.mem_map.2 ⟨i, List.mem_range.2 hi, rfl⟩
      · exact h1 hx
    have h7 := List.Nodup.length_le_of_subset h5 h6
    simp at h7; omega
theorem valid_iff : validT T = true ↔ (1 ≤ T.pages.length ∧ T.pages.length ≤ 16) ∧ ∃ d, (1 ≤ d ∧ d ≤ 3) ∧ okB T d T.root 0 100 = true ∧ (subT T d T.root).Nodup ∧ (subT T d T.root).length = T.pages.length := by
  constructor
  · intro h
    simp only [validT, Bool.and_eq_true, decide_eq_true_eq, List.any_eq_true] at h
    obtain ⟨⟨h1, h2⟩, d, hd, ⟨h3, h4⟩, h5⟩ := h
    refine ⟨h1, d, ?_, h3, h4, h5⟩
    simp at hd; omega
  · rintro ⟨h1, d, hd, h3, h4, h5⟩
    simp only [validT, Bool.and_eq_true, decide_eq_true_eq, List.any_eq_true]
    exact ⟨⟨h1, okB_in h3⟩, d, by simp; omega, ⟨h3, h4⟩, h5⟩
/-- the program's answer -/
theorem valid_vis_no (h : visT T 3 T.root 0 100 [] (-1) = none) : validT T = false := by
  cases hv : validT T with
  | false => rfl
  | true =>
    obtain ⟨_, d, hd, h3, h4, _⟩ := valid_iff.1 hv
    have := (vis_iff (T := T) (n := 3) (i := T.root) (low := 0) (high := 100) (seen := []) (ld := -1) (s2 := [] ++ subT T d T.root) (l2 := 2 - ((3 : Nat) : Int) + d) (by omega)).2 ⟨d, hd, h3, h4, by simp, rfl, rfl, .inl (by omega)⟩
    rw [h] at this; cases this
theorem valid_vis {s : List Int} {l : Int} (h1 : 1 ≤ T.pages.length ∧ T.pages.length ≤ 16) (h : visT T 3 T.root 0 100 [] (-1) = some (s, l)) : validT T = true ↔ ∀ i, i < T.pages.length → (i : Int) ∈ s := by
  obtain ⟨d, hd, h3, h4, _, h5, _, _⟩ := (vis_iff (by omega)).1 h
  rw [List.nil_append] at h5
  subst h5
  have hin := fun x hx => inT_iff.1 (sub_in h3 x hx)
  rw [cover h4 hin]
  constructor
  · intro hv
    obtain ⟨_, d2, hd2, g3, g4, g5⟩ := valid_iff.1 hv
    have := (vis_iff (T := T) (n := 3) (i := T.root) (low := 0) (high := 100) (seen := []) (ld := -1) (s2 := [] ++ subT T d2 T.root) (l2 := 2 - ((3 : Nat) : Int) + d2) (by omega)).2 ⟨d2, hd2, g3, g4, by simp, rfl, rfl, .inl (by omega)⟩
    rw [h] at this
    simp only [List.nil_append, Option.some.injEq, Prod.mk.injEq] at this
    rw [this.1]; exact g5
  · intro hl
    exact valid_iff.2 ⟨h1, d, hd, h3, h4, hl⟩
/-! the reference's way: the height first -/
def hgt (T : TrT) : Nat → Int → Nat
  | 0, _ => 0
  | f + 1, i => if inT T i = true ∧ (gP T i).kids ≠ [] then 1 + hgt T f ((gP T i).kids.getD 0 0) else 0
def heightT (T : TrT) : Nat := 1 + hgt T 3 T.root
def allIn (l : List Int) (a b : Int) : Bool := l.all fun x => decide (a ≤ x) && decide (x ≤ b)
def fitS (T : TrT) : Nat → Int → Int → Int → Bool
  | 0, _, _, _ => false
  | d + 1, i, low, hi => validK (gP T i).keys && decide ((gP T i).keys.length ≤ 4) && allIn (gP T i).keys low hi && (decide (i = T.root) || decide (2 ≤ (gP T i).keys.length)) &&
    (if d = 0 then decide ((gP T i).kids = []) && decide ((gP T i).vals.length = (gP T i).keys.length) && allIn (gP T i).vals (-1000) 1000
     else decide ((gP T i).keys ≠ []) && decide ((gP T i).vals = []) && decide ((gP T i).kids.length = (gP T i).keys.length + 1) && allIn (gP T i).kids 0 ((T.pages.length : Int) - 1) &&
       (List.range (gP T i).kids.length).all fun k => fitS T d ((gP T i).kids.getD k 0) (lowK (gP T i) low k) (highK (gP T i) (hi + 1) k - 1))
theorem keysIn_all {p : PgT} {low hi : Int} : keysIn p low (hi + 1) = allIn p.keys low hi := by
  unfold keysIn allIn
  congr 1
  funext k
  congr 1
  exact decide_eq_decide.2 (by omega)
theorem vals_all {l : List Int} : l.all isValB = allIn l (-1000) 1000 := by
  unfold allIn
  congr 1
theorem fit_ok : ∀ {d : Nat} {i low hi : Int}, inT T i = true → fitS T d i low hi = okB T d i low (hi + 1)
  | 0, _, _, _, _ => rfl
  | d + 1, i, low, hi, h => by
    simp only [fitS, okB, h, Bool.true_and]
    rw [keysIn_all]
    by_cases hd : d = 0
    · subst hd
      simp only [if_true]
      by_cases hk : (gP T i).kids = []
      · unfold frB
        rw [if_pos hk, vals_all]
        simp only [hk, decide_true, Bool.and_true, Bool.true_and]
        cases validK (gP T i).keys <;> cases decide ((gP T i).keys.length ≤ 4) <;> cases allIn (gP T i).keys low hi <;> cases (decide (i = T.root) || decide (2 ≤ (gP T i).keys.length)) <;> simp
      · simp [hk]
    · rw [if_neg hd, if_neg hd]
      by_cases hk : (gP T i).kids = []
      · simp [hk]
      · unfold frB
        rw [if_neg hk]
        have e1 : (gP T i).kids.length = (gP T i).keys.length + 1 → (allIn (gP T i).kids 0 ((T.pages.length : Int) - 1) && (List.range (gP T i).kids.length).all fun k => fitS T d ((gP T i).kids.getD k 0) (lowK (gP T i) low k) (highK (gP T i) (hi + 1) k - 1)) = (List.range (gP T i).kids.length).all fun k => okB T d ((gP T i).kids.getD k 0) (lowK (gP T i) low k) (highK (gP T i) (hi + 1) k) := fun _ => by
          rw [Bool.eq_iff_iff]
          simp only [Bool.and_eq_true, List.all_eq_true, List.mem_range]
          constructor
          · rintro ⟨a, b⟩ k hk2
            have hin : inT T ((gP T i).kids.getD k 0) = true := by
              rw [List.getD_eq_getElem?_getD, List.getElem?_eq_getElem hk2, Option.getD_some]
              have := List.all_eq_true.1 a _ (List.getElem_mem hk2)
              simp at this
              exact inT_iff.2 ⟨this.1, by omega⟩
            have := b k hk2
            rw [fit_ok hin] at this
            rwa [show highK (gP T i) (hi + 1) k - 1 + 1 = highK (gP T i) (hi + 1) k by omega] at this
          · intro a
            refine ⟨List.all_eq_true.2 fun x hx => ?_, fun k hk2 => ?_⟩
            · obtain ⟨k, hk2, rfl⟩ := List.getElem_of_mem hx
              have := okB_in (a k hk2)
              rw [List.getD_eq_getElem?_getD, List.getElem?_eq_getElem hk2, Option.getD_some] at this
              have := inT_iff.1 this
              simp; omega
            · rw [fit_ok (okB_in (a k hk2)), show highK (gP T i) (hi + 1) k - 1 + 1 = highK (gP T i) (hi + 1) k by omega]
              exact a k hk2
        have e2 : decide ((gP T i).keys ≠ []) = decide (1 ≤ (gP T i).keys.length) := by
          apply decide_eq_decide.2
          cases (gP T i).keys <;> simp
        by_cases hl : (gP T i).kids.length = (gP T i).keys.length + 1
        · rw [← e1 hl, e2]
          simp only [hl, decide_true, Bool.and_true, Bool.true_and, hk, ne_eq, not_false_eq_true]
          generalize (allIn (gP T i).kids 0 ((T.pages.length : Int) - 1)) = x1
          generalize ((List.range ((gP T i).keys.length + 1)).all fun k => fitS T d ((gP T i).kids.getD k 0) (lowK (gP T i) low k) (highK (gP T i) (hi + 1) k - 1)) = x2
          cases validK (gP T i).keys <;> cases decide ((gP T i).keys.length ≤ 4) <;> cases allIn (gP T i).keys low hi <;> cases (decide (i = T.root) || decide (2 ≤ (gP T i).keys.length)) <;> cases decide (1 ≤ (gP T i).keys.length) <;> cases decide ((gP T i).vals = []) <;> cases x1 <;> cases x2 <;> rfl
        · simp [hl]
theorem hgt_ok : ∀ {d f : Nat} {i low high : Int}, okB T (d + 1) i low high = true → d ≤ f → hgt T f i = d
  | 0, f, i, low, high, h, _ => by
    have hk := (ok_kids h).2 rfl
    cases f with
    | zero => rfl
    | succ f => simp only [hgt]; rw [if_neg (by simp [hk])]
  | d + 1, 0, i, low, high, h, hf => by omega
  | d + 1, f + 1, i, low, high, h, hf => by
    have hk : (gP T i).kids ≠ [] := fun e => by have := (ok_kids h).1 e; omega
    simp only [hgt]
    rw [if_pos ⟨okB_in h, hk⟩]
    rcases (okB_iff.1 h).2.2.2 with ⟨h1, _⟩ | ⟨_, _, h3⟩
    · omega
    · rw [hgt_ok (h3 0 (by cases hh : (gP T i).kids with | nil => exact absurd hh hk | cons a b => simp)) (by omega)]; omega
/-- the reference's answer -/
theorem valid_ref : validT T = ((decide (1 ≤ T.pages.length) && decide (T.pages.length ≤ 16)) && inT T T.root && decide (heightT T ≤ 3) && fitS T (heightT T) T.root 0 99 && decide (subT T (heightT T) T.root).Nodup && decide ((subT T (heightT T) T.root).length = T.pages.length)) := by
  rw [Bool.eq_iff_iff]
  constructor
  · intro hv
    obtain ⟨h1, d, hd, h3, h4, h5⟩ := valid_iff.1 hv
    have hh : heightT T = d := by
      cases d with
      | zero => omega
      | succ d => unfold heightT; rw [hgt_ok h3 (by omega)]; omega
    have hin := okB_in h3
    simp only [Bool.and_eq_true, decide_eq_true_eq, hh]
    refine ⟨⟨⟨⟨⟨h1, hin⟩, hd.2⟩, ?_⟩, h4⟩, h5⟩
    rw [fit_ok hin]; exact h3
  · intro h
    simp only [Bool.and_eq_true, decide_eq_true_eq] at h
    obtain ⟨⟨⟨⟨⟨h1, h2⟩, h3⟩, h4⟩, h5⟩, h6⟩ := h
    rw [fit_ok h2] at h4
    exact valid_iff.2 ⟨h1, heightT T, ⟨by unfold heightT; omega, h3⟩, h4, h5, h6⟩
end
end Go.Px
