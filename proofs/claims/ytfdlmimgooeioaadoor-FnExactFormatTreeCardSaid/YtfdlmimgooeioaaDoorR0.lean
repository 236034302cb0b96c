/- Own layer: part of this seat (R0). Plain theorems; no conditions. -/
import Derived.Test.YtfdlmimgooeioaaDoorPx8
set_option linter.unusedVariables false
set_option linter.unusedSimpArgs false
/-! Rows: keys and pairs in ascending order, as plain functions on lists. -/
namespace Go.Px
theorem getD_lt {α : Type} {l : List α} {k : Nat} {d : α} (h : k < l.length) : l.getD k d = l[k] := by simp [h]
def isKeyB (k : Int) : Bool := decide (0 ≤ k) && decide (k ≤ 99)
def isValB (v : Int) : Bool := decide (-1000 ≤ v) && decide (v ≤ 1000)
theorem isKey_iff {k : Int} : isKeyB k = true ↔ 0 ≤ k ∧ k ≤ 99 := by simp [isKeyB]
theorem isVal_iff {k : Int} : isValB k = true ↔ -1000 ≤ k ∧ k ≤ 1000 := by simp [isValB]
def asc : List Int → Bool
  | a :: b :: r => decide (a < b) && asc (b :: r)
  | _ => true
theorem asc_iff : ∀ l : List Int, asc l = true ↔ ∀ i (h : i + 1 < l.length), l[i] < l[i + 1]
  | [] => by simp [asc]
  | [a] => by simp [asc]
  | a :: b :: r => by
    simp only [asc, Bool.and_eq_true, asc_iff (b :: r), decide_eq_true_eq]
    constructor
    · rintro ⟨h1, h2⟩ i hi
      cases i with
      | zero => exact h1
      | succ i => exact h2 i (by simpa using hi)
    · intro h
      exact ⟨h 0 (by simp), fun i hi => h (i + 1) (by simpa using hi)⟩
theorem asc_lt {l : List Int} (h : asc l = true) : ∀ i j (hi : i < j) (hj : j < l.length), l[i]'(by omega) < l[j] := by
  intro i j hij hj
  induction j with
  | zero => omega
  | succ j ih =>
    have h1 := (asc_iff l).1 h j hj
    by_cases he : i = j
    · subst he; exact h1
    · exact Int.lt_trans (ih (by omega) (by omega)) h1
theorem asc_of_lt {l : List Int} (h : ∀ i j (_ : i < j) (hj : j < l.length), l[i]'(by omega) < l[j]) : asc l = true := (asc_iff l).2 fun i hi => h i (i + 1) (by omega) hi
theorem asc_pair {l : List Int} : asc l = true ↔ l.Pairwise (· < ·) := by
  rw [List.pairwise_iff_getElem]
  exact ⟨fun h i j hi hj hij => asc_lt h i j hij hj, fun h => asc_of_lt fun i j hij hj => h i j (by omega) hj hij⟩
theorem asc_take {l : List Int} {k : Nat} (h : asc (l.take k) = true) (hk : k < l.length) (hb : ∀ h0 : 0 < k, l[k - 1]'(by omega) < l[k]) : asc (l.take (k + 1)) = true := by
  rw [asc_iff] at h ⊢
  intro i hi
  simp only [List.length_take] at hi h
  simp only [List.getElem_take] at h ⊢
  by_cases hik : i + 1 < k
  · exact h i (by omega)
  · have e : k = i + 1 := by omega
    subst e
    exact hb (by omega)
theorem asc_not {l : List Int} {k : Nat} (h0 : 0 < k) (hk : k < l.length) (hb : ¬ l[k - 1]'(by omega) < l[k]) : asc l = false := by
  cases hp : asc l with
  | false => rfl
  | true =>
    have := (asc_iff l).1 hp (k - 1) (by omega)
    have e : k - 1 + 1 = k := by omega
    simp only [e] at this
    exact absurd this hb
def validK (l : List Int) : Bool := l.all isKeyB && asc l
theorem validK_iff {l : List Int} : validK l = true ↔ (∀ k ∈ l, 0 ≤ k ∧ k ≤ 99) ∧ asc l = true := by
  simp [validK, isKeyB]
theorem validK_key {l : List Int} (h : validK l = true) {k : Nat} (hk : k < l.length) : 0 ≤ l[k] ∧ l[k] ≤ 99 := (validK_iff.1 h).1 _ (List.getElem_mem hk)
/-- no more than a hundred valid keys -/
theorem validK_ge {l : List Int} (h : validK l = true) : ∀ k (hk : k < l.length), (k : Int) ≤ l[k] := by
  intro k hk
  induction k with
  | zero => exact (validK_key h hk).1
  | succ k ih =>
    have h1 := ih (by omega)
    have h2 := asc_lt (validK_iff.1 h).2 k (k + 1) (by omega) hk
    push_cast; omega
theorem validK_len {l : List Int} (h : validK l = true) : l.length ≤ 100 := by
  rcases Nat.eq_zero_or_pos l.length with h0 | h0
  · omega
  · have h1 := validK_ge h (l.length - 1) (by omega)
    have h2 := (validK_key h (k := l.length - 1) (by omega)).2
    omega
/-- how many are less -/
def below (l : List Int) (k : Int) : Nat := (l.takeWhile fun a => decide (a < k)).length
def upTo (l : List Int) (k : Int) : Nat := (l.takeWhile fun a => decide (a ≤ k)).length
theorem tw_le {α : Type} {p : α → Bool} : ∀ (l : List α), (l.takeWhile p).length ≤ l.length
  | [] => by simp
  | a :: l => by simp only [List.takeWhile_cons]; split <;> simp [tw_le l]
theorem tw_lt {α : Type} {p : α → Bool} : ∀ {l : List α} {i : Nat} (h : i < (l.takeWhile p).length), p (l[i]'(Nat.lt_of_lt_of_le h (tw_le l))) = true
  | [], i, h => by simp at h
  | a :: l, i, h => by
    simp only [List.takeWhile_cons] at h
    split at h
    · rename_i ha
      cases i with
      | zero => exact ha
      | succ i => simpa using tw_lt (l := l) (i := i) (by simpa using h)
    · simp at h
theorem tw_stop {α : Type} {p : α → Bool} : ∀ {l : List α} (h : (l.takeWhile p).length < l.length), p l[(l.takeWhile p).length] = false
  | [], h => by simp at h
  | a :: l, h => by
    simp only [List.takeWhile_cons] at h ⊢
    split at h
    · rename_i ha
      simp only [ha, if_true, List.length_cons, List.getElem_cons_succ]
      exact tw_stop (l := l) (by simpa using h)
    · rename_i ha
      simp [ha]
theorem tw_eq {α : Type} {p : α → Bool} {l : List α} {n : Nat} (hn : n ≤ l.length) (h1 : ∀ i (hi : i < n), p (l[i]'(by omega)) = true) (h2 : ∀ h : n < l.length, p l[n] = false) : (l.takeWhile p).length = n := by
  rcases Nat.lt_trichotomy (l.takeWhile p).length n with h | h | h
  · have := tw_stop (p := p) (l := l) (by omega)
    rw [h1 _ h] at this; cases this
  · exact h
  · have := tw_lt (p := p) h
    rw [h2 (by have := tw_le (p := p) l; omega)] at this; cases this
theorem below_le (l : List Int) (k : Int) : below l k ≤ l.length := tw_le l
theorem upTo_le (l : List Int) (k : Int) : upTo l k ≤ l.length := tw_le l
theorem below_lt {l : List Int} {k : Int} {i : Nat} (h : i < below l k) : l[i]'(Nat.lt_of_lt_of_le h (below_le l k)) < k := by simpa using tw_lt h
theorem below_stop {l : List Int} {k : Int} (h : below l k < l.length) : k ≤ l[below l k] := by
  have := tw_stop (p := fun a => decide (a < k)) (l := l) h
  simp only [decide_eq_false_iff_not] at this
  unfold below
  omega
theorem below_eq {l : List Int} {k : Int} {n : Nat} (hn : n ≤ l.length) (h1 : ∀ i (hi : i < n), l[i]'(by omega) < k) (h2 : ∀ h : n < l.length, k ≤ l[n]) : below l k = n :=
  tw_eq hn (fun i hi => by simpa using h1 i hi) (fun h => by have := h2 h; simp; omega)
theorem upTo_lt {l : List Int} {k : Int} {i : Nat} (h : i < upTo l k) : l[i]'(Nat.lt_of_lt_of_le h (upTo_le l k)) ≤ k := by simpa using tw_lt h
theorem upTo_stop {l : List Int} {k : Int} (h : upTo l k < l.length) : k < l[upTo l k] := by
  have := tw_stop (p := fun a => decide (a ≤ k)) (l := l) h
  simp only [decide_eq_false_iff_not] at this
  unfold upTo
  omega
theorem upTo_eq {l : List Int} {k : Int} {n : Nat} (hn : n ≤ l.length) (h1 : ∀ i (hi : i < n), l[i]'(by omega) ≤ k) (h2 : ∀ h : n < l.length, k < l[n]) : upTo l k = n :=
  tw_eq hn (fun i hi => by simpa using h1 i hi) (fun h => by have := h2 h; simp; omega)
theorem below_ge {l : List Int} {k : Int} (h : asc l = true) {i : Nat} (hi : below l k ≤ i) (hl : i < l.length) : k ≤ l[i] := by
  have h1 := below_stop (l := l) (k := k) (by omega)
  by_cases he : i = below l k
  · subst he; exact h1
  · have := asc_lt h (below l k) i (by omega) hl
    omega
theorem below_mem {l : List Int} {k : Int} (h : asc l = true) : k ∈ l ↔ ∃ hb : below l k < l.length, l[below l k] = k := by
  constructor
  · intro hm
    obtain ⟨i, hi, he⟩ := List.getElem_of_mem hm
    have h1 : below l k ≤ i := by
      rcases Nat.lt_or_ge i (below l k) with h2 | h2
      · have := below_lt h2; omega
      · exact h2
    have hb : below l k < l.length := by omega
    refine ⟨hb, ?_⟩
    have h2 := below_stop hb
    by_cases h3 : i = below l k
    · subst h3; exact he
    · have := asc_lt h (below l k) i (by omega) hi
      omega
  · rintro ⟨hb, he⟩
    rw [← he]; exact List.getElem_mem hb
/-- a binary search for the first place of at least k -/
theorem search_below {l : List Int} {k : Int} {n : Nat} (hn : n ≤ l.length) (h1 : ∀ i (hi : i < n), ¬ k ≤ l[i]'(by omega)) (h2 : ∀ i (_ : n ≤ i) (hi : i < l.length), k ≤ l[i]) : below l k = n :=
  below_eq hn (fun i hi => by have := h1 i hi; omega) (fun h => h2 n (Nat.le_refl _) h)
theorem search_upTo {l : List Int} {k : Int} {n : Nat} (hn : n ≤ l.length) (h1 : ∀ i (hi : i < n), ¬ k < l[i]'(by omega)) (h2 : ∀ i (_ : n ≤ i) (hi : i < l.length), k < l[i]) : upTo l k = n :=
  upTo_eq hn (fun i hi => by have := h1 i hi; omega) (fun h => h2 n (Nat.le_refl _) h)

/-! pairs -/
structure PairT where
  key : Int
  val : Int
  deriving DecidableEq
instance : Inhabited PairT := ⟨⟨0, 0⟩⟩
def encP (p : PairT) : List Value := [I p.key, I p.val]
theorem encP_len (p : PairT) : (encP p).length = 2 := rfl
theorem Pair_eq (a b : PairT) : [decide (a.key = b.key), decide (a.val = b.val)].all id = decide (a = b) := by
  cases a; cases b; simp [List.all, Bool.and_true]
theorem Pair_ne (a b : PairT) : (!([decide (a.key = b.key), decide (a.val = b.val)].all id)) = decide (a ≠ b) := by
  rw [Pair_eq]; by_cases h : a = b <;> simp [h]
abbrev keysP (l : List PairT) : List Int := l.map (·.key)
def validR (l : List PairT) : Bool := decide (l.length ≤ 24) && l.all (fun p => isValB p.val) && validK (keysP l)
theorem validR_iff {l : List PairT} : validR l = true ↔ l.length ≤ 24 ∧ (∀ p ∈ l, -1000 ≤ p.val ∧ p.val ≤ 1000) ∧ validK (keysP l) = true := by
  simp [validR, isValB, and_assoc]
def plc (l : List PairT) (k : Int) : Nat := below (keysP l) k
theorem plc_le (l : List PairT) (k : Int) : plc l k ≤ l.length := by have := below_le (keysP l) k; simpa [plc] using this
def isInB (l : List PairT) (k : Int) : Bool := decide (k ∈ keysP l)
def putP (l : List PairT) (x : PairT) : List PairT := l.take (plc l x.key) ++ x :: l.drop (if isInB l x.key then plc l x.key + 1 else plc l x.key)
def dropP (l : List PairT) (k : Int) : List PairT := if isInB l k then l.take (plc l k) ++ l.drop (plc l k + 1) else l
def lookP (l : List PairT) (k : Int) : Option Int := (l.find? fun p => decide (p.key = k)).map (·.val)
theorem isIn_at {l : List PairT} (h : asc (keysP l) = true) {k : Int} : isInB l k = true ↔ ∃ hb : plc l k < l.length, l[plc l k].key = k := by
  unfold isInB plc
  rw [decide_eq_true_eq, below_mem h]
  simp
theorem look_none {l : List PairT} {k : Int} : lookP l k = none ↔ ∀ p ∈ l, p.key ≠ k := by
  simp [lookP]
theorem look_some {l : List PairT} (h : asc (keysP l) = true) {k v : Int} : lookP l k = some v ↔ (⟨k, v⟩ : PairT) ∈ l := by
  unfold lookP
  constructor
  · intro hl
    cases hf : l.find? (fun p => decide (p.key = k)) with
    | none => rw [hf] at hl; cases hl
    | some p =>
      rw [hf] at hl
      have h1 := List.find?_some hf
      have h2 := List.mem_of_find?_eq_some hf
      simp at h1 hl
      subst h1 hl
      exact h2
  · intro hm
    cases hf : l.find? (fun p => decide (p.key = k)) with
    | none =>
      have := (List.find?_eq_none.1 hf) _ hm
      simp at this
    | some p =>
      have h1 := List.find?_some hf
      have h2 := List.mem_of_find?_eq_some hf
      simp at h1
      obtain ⟨i, hi, he⟩ := List.getElem_of_mem hm
      obtain ⟨j, hj, he'⟩ := List.getElem_of_mem h2
      have hij : i = j := by
        rcases Nat.lt_trichotomy i j with h3 | h3 | h3
        · have := asc_lt h i j h3 (by simpa using hj)
          simp [he, he', h1] at this
        · exact h3
        · have := asc_lt h j i h3 (by simpa using hi)
          simp [he, he', h1] at this
      subst hij
      rw [he] at he'
      subst he'
      rfl
theorem look_isIn {l : List PairT} {k : Int} : (lookP l k).isSome = isInB l k := by
  unfold isInB
  cases h : lookP l k with
  | none =>
    rw [look_none] at h
    symm
    simp only [Option.isSome_none, decide_eq_false_iff_not, List.mem_map, not_exists, not_and]
    exact fun p hp => h p hp
  | some v =>
    symm
    simp only [Option.isSome_some, decide_eq_true_eq]
    unfold lookP at h
    cases hf : l.find? (fun p => decide (p.key = k)) with
    | none => rw [hf] at h; cases h
    | some p =>
      have h1 := List.find?_some hf
      have h2 := List.mem_of_find?_eq_some hf
      simp at h1
      exact List.mem_map.2 ⟨p, h2, h1⟩
/-- a row is known by what is looked up in it -/
theorem row_ext : ∀ {a b : List PairT}, asc (keysP a) = true → asc (keysP b) = true → (∀ k, lookP a k = lookP b k) → a = b := by
  intro a b ha hb h
  have hm : ∀ p, p ∈ a ↔ p ∈ b := fun p => by
    have h1 := look_some ha (k := p.key) (v := p.val)
    have h2 := look_some hb (k := p.key) (v := p.val)
    rw [h p.key] at h1
    exact h1.symm.trans h2
  rw [asc_pair] at ha hb
  have ha' : a.Pairwise fun p q => p.key < q.key := by simpa [List.pairwise_map] using ha
  have hb' : b.Pairwise fun p q => p.key < q.key := by simpa [List.pairwise_map] using hb
  clear ha hb h
  induction a generalizing b with
  | nil =>
    cases b with
    | nil => rfl
    | cons q b => exact absurd ((hm q).2 (by simp)) (by simp)
  | cons p a ih =>
    cases b with
    | nil => exact absurd ((hm p).1 (by simp)) (by simp)
    | cons q b =>
      have ha1 := List.pairwise_cons.1 ha'
      have hb1 := List.pairwise_cons.1 hb'
      have hpq : p = q := by
        rcases List.mem_cons.1 ((hm p).1 (by simp)) with h | h
        · exact h
        · rcases List.mem_cons.1 ((hm q).2 (by simp)) with h' | h'
          · exact h'.symm
          · have := hb1.1 p h; have := ha1.1 q h'; omega
      subst hpq
      congr 1
      refine ih (fun r => ⟨fun hr => ?_, fun hr => ?_⟩) ha1.2 hb1.2
      · rcases List.mem_cons.1 ((hm r).1 (by simp [hr])) with h | h
        · subst h; have := ha1.1 r hr; omega
        · exact h
      · rcases List.mem_cons.1 ((hm r).2 (by simp [hr])) with h | h
        · subst h; have := hb1.1 r hr; omega
        · exact h
theorem keysP_take (l : List PairT) (k : Nat) : keysP (l.take k) = (keysP l).take k := by simp
theorem put_keys_pair {l : List PairT} (h : asc (keysP l) = true) (x : PairT) : asc (keysP (putP l x)) = true := by
  rw [asc_pair]
  have hp := asc_pair.1 h
  unfold putP keysP
  rw [List.map_append, List.map_cons]
  refine List.pairwise_append.2 ⟨?_, List.pairwise_cons.2 ⟨?_, ?_⟩, ?_⟩
  · rw [List.map_take]; exact hp.sublist (List.take_sublist _ _)
  · intro k hk
    obtain ⟨p, hm, rfl⟩ := List.mem_map.1 hk
    obtain ⟨i, hi, he⟩ := List.getElem_of_mem hm
    rw [List.getElem_drop] at he
    rw [List.length_drop] at hi
    have hle : plc l x.key ≤ (if isInB l x.key then plc l x.key + 1 else plc l x.key) := by split <;> omega
    have h1 := below_ge (l := keysP l) (k := x.key) h (i := (if isInB l x.key then plc l x.key + 1 else plc l x.key) + i) (Nat.le_trans hle (Nat.le_add_right _ _)) (by simp; omega)
    simp only [List.getElem_map, he] at h1
    rcases Int.lt_or_eq_of_le h1 with h2 | h2
    · exact h2
    · exfalso
      have hin : isInB l x.key = true := by
        unfold isInB
        rw [decide_eq_true_eq, h2]
        exact List.mem_map.2 ⟨p, List.mem_of_mem_drop hm, rfl⟩
      obtain ⟨hb, hk'⟩ := (isIn_at h).1 hin
      simp only [hin, if_true] at he hi
      have := asc_lt h (plc l x.key) (plc l x.key + 1 + i) (by omega) (by simp; omega)
      simp only [List.getElem_map, hk', he] at this
      omega
  · rw [List.map_drop]; exact hp.sublist (List.drop_sublist _ _)
  · intro a ha b hb
    obtain ⟨p, hm, rfl⟩ := List.mem_map.1 ha
    obtain ⟨i, hi, he⟩ := List.getElem_of_mem hm
    rw [List.getElem_take] at he
    rw [List.length_take] at hi
    have h1 := below_lt (l := keysP l) (k := x.key) (i := i) (by unfold plc at hi; omega)
    simp only [List.getElem_map, he] at h1
    rcases List.mem_cons.1 hb with rfl | hb
    · exact h1
    · obtain ⟨q, hq, rfl⟩ := List.mem_map.1 hb
      obtain ⟨j, hj, he'⟩ := List.getElem_of_mem hq
      rw [List.getElem_drop] at he'
      rw [List.length_drop] at hj
      have hle : plc l x.key ≤ (if isInB l x.key then plc l x.key + 1 else plc l x.key) := by split <;> omega
      have h2 := below_ge (l := keysP l) (k := x.key) h (i := (if isInB l x.key then plc l x.key + 1 else plc l x.key) + j) (Nat.le_trans hle (Nat.le_add_right _ _)) (by simp; omega)
      simp only [List.getElem_map, he'] at h2
      omega
theorem mem_take_lt {l : List PairT} (h : asc (keysP l) = true) {k : Int} {p : PairT} (hp : p ∈ l) : p ∈ l.take (plc l k) ↔ p.key < k := by
  constructor
  · intro hm
    obtain ⟨i, hi, he⟩ := List.getElem_of_mem hm
    rw [List.getElem_take] at he
    rw [List.length_take] at hi
    have h1 := below_lt (l := keysP l) (k := k) (i := i) (by unfold plc at hi; omega)
    simpa only [List.getElem_map, he] using h1
  · intro hlt
    obtain ⟨i, hi, rfl⟩ := List.getElem_of_mem hp
    have h1 : i < plc l k := by
      rcases Nat.lt_or_ge i (plc l k) with h2 | h2
      · exact h2
      · have := below_ge (l := keysP l) (k := k) h (i := i) h2 (by simpa using hi)
        simp only [List.getElem_map] at this
        omega
    rw [List.mem_take_iff_getElem]
    exact ⟨i, by omega, rfl⟩
theorem put_mem {l : List PairT} (h : asc (keysP l) = true) (x p : PairT) : p ∈ putP l x ↔ p = x ∨ (p ∈ l ∧ p.key ≠ x.key) := by
  have hd : p ∈ l.drop (if isInB l x.key then plc l x.key + 1 else plc l x.key) ↔ p ∈ l ∧ x.key < p.key := by
    constructor
    · intro hm
      refine ⟨List.mem_of_mem_drop hm, ?_⟩
      have := asc_pair.1 (put_keys_pair h x)
      unfold putP keysP at this
      rw [List.map_append, List.map_cons] at this
      exact (List.pairwise_cons.1 (List.pairwise_append.1 this).2.1).1 _ (List.mem_map_of_mem hm)
    · rintro ⟨hm, hlt⟩
      obtain ⟨i, hi, rfl⟩ := List.getElem_of_mem hm
      have hnot : ¬ l[i] ∈ l.take (plc l x.key) := fun hc => by have := (mem_take_lt h hm).1 hc; omega
      have h1 : plc l x.key ≤ i := by
        rcases Nat.lt_or_ge i (plc l x.key) with h2 | h2
        · exact absurd (by rw [List.mem_take_iff_getElem]; exact ⟨i, by omega, rfl⟩) hnot
        · exact h2
      rw [List.mem_drop_iff_getElem]
      split
      · rename_i hin
        obtain ⟨hb, hk⟩ := (isIn_at h).1 hin
        have hne : i ≠ plc l x.key := by rintro rfl; omega
        exact ⟨i - (plc l x.key + 1), by omega, by congr 1; omega⟩
      · exact ⟨i - plc l x.key, by omega, by congr 1; omega⟩
  unfold putP
  rw [List.mem_append, List.mem_cons, hd]
  constructor
  · rintro (h1 | rfl | ⟨h1, h2⟩)
    · have hm := List.mem_of_mem_take h1
      have := (mem_take_lt h hm).1 h1
      exact .inr ⟨hm, by omega⟩
    · exact .inl rfl
    · exact .inr ⟨h1, by omega⟩
  · rintro (rfl | ⟨h1, h2⟩)
    · exact .inr (.inl rfl)
    · rcases Int.lt_or_gt_of_ne h2 with h3 | h3
      · exact .inl ((mem_take_lt h h1).2 h3)
      · exact .inr (.inr ⟨h1, h3⟩)
theorem look_mem_ext {a b : List PairT} (ha : asc (keysP a) = true) (hb : asc (keysP b) = true) {k : Int} (h : ∀ v, (⟨k, v⟩ : PairT) ∈ a ↔ (⟨k, v⟩ : PairT) ∈ b) : lookP a k = lookP b k := by
  cases h1 : lookP a k with
  | some v => exact ((look_some hb).2 ((h v).1 ((look_some ha).1 h1))).symm
  | none =>
    cases h2 : lookP b k with
    | none => rfl
    | some v => rw [(look_some ha).2 ((h v).2 ((look_some hb).1 h2))] at h1; cases h1
theorem look_put {l : List PairT} (h : asc (keysP l) = true) (x : PairT) (k : Int) : lookP (putP l x) k = if k = x.key then some x.val else lookP l k := by
  have hp := put_keys_pair h x
  split
  · rename_i he
    subst he
    exact (look_some hp).2 ((put_mem h x _).2 (.inl rfl))
  · rename_i he
    refine look_mem_ext hp h fun v => ?_
    rw [put_mem h]
    constructor
    · rintro (h1 | h1)
      · exact absurd (by rw [← h1]) he
      · exact h1.1
    · intro h1; exact .inr ⟨h1, he⟩
theorem drop_keys {l : List PairT} (h : asc (keysP l) = true) (k : Int) : asc (keysP (dropP l k)) = true := by
  unfold dropP
  split
  · rw [asc_pair]
    have hp := asc_pair.1 h
    have hs : List.Sublist (l.take (plc l k) ++ l.drop (plc l k + 1)) l := by
      conv => rhs; rw [← List.take_append_drop (plc l k) l]
      exact List.Sublist.append (List.Sublist.refl _) (by rw [← List.drop_drop]; exact List.drop_sublist _ _)
    exact hp.sublist (hs.map _)
  · exact h
theorem drop_mem {l : List PairT} (h : asc (keysP l) = true) (k : Int) (p : PairT) : p ∈ dropP l k ↔ p ∈ l ∧ p.key ≠ k := by
  unfold dropP
  split
  · rename_i hin
    obtain ⟨hb, hk⟩ := (isIn_at h).1 hin
    have hput := put_mem h ⟨k, l[plc l k].val⟩ p
    unfold putP at hput
    simp only [hin, if_true] at hput
    have he : (⟨k, l[plc l k].val⟩ : PairT) = l[plc l k] := by cases hl : l[plc l k] with | mk a b => rw [hl] at hk; simp at hk; subst hk; rfl
    rw [List.mem_append, List.mem_cons] at hput
    rw [List.mem_append]
    constructor
    · rintro (h1 | h1)
      · have hm := List.mem_of_mem_take h1
        have := (mem_take_lt h hm).1 h1
        exact ⟨hm, by omega⟩
      · have hm := List.mem_of_mem_drop h1
        refine ⟨hm, ?_⟩
        obtain ⟨i, hi, he'⟩ := List.getElem_of_mem h1
        rw [List.getElem_drop] at he'
        rw [List.length_drop] at hi
        have := asc_lt h (plc l k) (plc l k + 1 + i) (by omega) (by simp; omega)
        simp only [List.getElem_map, hk, he'] at this
        omega
    · rintro ⟨h1, h2⟩
      rcases hput.2 (.inr ⟨h1, h2⟩) with h3 | h3 | h3
      · exact .inl h3
      · exact absurd (by rw [h3]) h2
      · exact .inr h3
  · rename_i hin
    constructor
    · intro h1
      refine ⟨h1, fun he => hin ?_⟩
      unfold isInB
      rw [decide_eq_true_eq, ← he]
      exact List.mem_map_of_mem h1
    · exact fun h1 => h1.1
theorem look_drop {l : List PairT} (h : asc (keysP l) = true) (k0 k : Int) : lookP (dropP l k0) k = if k = k0 then none else lookP l k := by
  have hp := drop_keys h k0
  split
  · rename_i he
    subst he
    rw [look_none]
    intro p hm
    exact ((drop_mem h k p).1 hm).2
  · rename_i he
    refine look_mem_ext hp h fun v => ?_
    rw [drop_mem h]
    exact ⟨fun h1 => h1.1, fun h1 => ⟨h1, he⟩⟩
theorem put_len {l : List PairT} {x : PairT} : (putP l x).length ≤ l.length + 1 := by
  unfold putP
  simp only [List.length_append, List.length_take, List.length_cons, List.length_drop]
  split <;> omega
theorem drop_len {l : List PairT} {k : Int} : (dropP l k).length ≤ l.length := by
  unfold dropP
  split
  · simp; omega
  · exact Nat.le_refl _
end Go.Px
namespace Go.Px
theorem below_step {l : List Int} {k : Int} {n : Nat} (h : n ≤ below l k) (hn : n < l.length) (hl : l[n] < k) : n + 1 ≤ below l k := by
  rcases Nat.eq_or_lt_of_le h with he | he
  · have := below_stop (l := l) (k := k) (by omega)
    simp only [← he] at this
    omega
  · omega
theorem below_end {l : List Int} {k : Int} {n : Nat} (h : n ≤ below l k) (hs : l.length ≤ n ∨ ∃ hn : n < l.length, k ≤ l[n]) : below l k = n := by
  rcases hs with hs | ⟨hn, hs⟩
  · have := below_le l k; omega
  · rcases Nat.eq_or_lt_of_le h with he | he
    · exact he.symm
    · have := below_lt he; omega
theorem upTo_step {l : List Int} {k : Int} {n : Nat} (h : n ≤ upTo l k) (hn : n < l.length) (hl : l[n] ≤ k) : n + 1 ≤ upTo l k := by
  rcases Nat.eq_or_lt_of_le h with he | he
  · have := upTo_stop (l := l) (k := k) (by omega)
    simp only [← he] at this
    omega
  · omega
theorem upTo_end {l : List Int} {k : Int} {n : Nat} (h : n ≤ upTo l k) (hs : l.length ≤ n ∨ ∃ hn : n < l.length, k < l[n]) : upTo l k = n := by
  rcases hs with hs | ⟨hn, hs⟩
  · have := upTo_le l k; omega
  · rcases Nat.eq_or_lt_of_le h with he | he
    · exact he.symm
    · have := upTo_lt he; omega
theorem mem_step {l : List Int} {k : Int} {n : Nat} (h : ∀ x ∈ l.take n, x ≠ k) (hn : n < l.length) (hl : l[n] ≠ k) : ∀ x ∈ l.take (n + 1), x ≠ k := by
  rw [take_snoc hn]
  intro x hx
  rcases List.mem_append.1 hx with hx | hx
  · exact h x hx
  · simp at hx; subst hx; exact hl
theorem mem_end {l : List Int} {k : Int} {n : Nat} (h : ∀ x ∈ l.take n, x ≠ k) (hn : l.length ≤ n) : decide (k ∈ l) = false := by
  rw [List.take_of_length_le hn] at h
  exact decide_eq_false fun hm => h k hm rfl
theorem all_step {α : Type} {p : α → Bool} {l : List α} {k : Nat} (h : (l.take k).all p = true) (hk : k < l.length) (hp : p l[k] = true) : (l.take (k + 1)).all p = true := by
  rw [take_snoc hk, List.all_append, h]; simp [hp]
theorem all_fail {α : Type} {p : α → Bool} {l : List α} {k : Nat} (hk : k < l.length) (hp : p l[k] = false) : l.all p = false := by
  rw [List.all_eq_false]; exact ⟨l[k], List.getElem_mem hk, by simp [hp]⟩
theorem all_end {α : Type} {p : α → Bool} {l : List α} {k : Nat} (h : (l.take k).all p = true) (hk : l.length ≤ k) : l.all p = true := by rwa [List.take_of_length_le hk] at h
theorem validK_no1 {l : List Int} {k : Nat} (hk : k < l.length) (h : isKeyB l[k] = false) : validK l = false := by rw [validK, all_fail hk h]; rfl
theorem validK_no2 {l : List Int} {k : Nat} (h0 : 0 < k) (hk : k < l.length) (h : ¬ l[k - 1]'(by omega) < l[k]) : validK l = false := by rw [validK, asc_not h0 hk h, Bool.and_false]
theorem validK_yes {l : List Int} {k : Nat} (h1 : (l.take k).all isKeyB = true) (h2 : asc (l.take k) = true) (hk : l.length ≤ k) : validK l = true := by
  rw [List.take_of_length_le hk] at h1 h2
  rw [validK, h1, h2]; rfl
theorem put_in {l : List PairT} {x : PairT} (h : isInB l x.key = true) (hb : plc l x.key < l.length) : l.set (plc l x.key) x = putP l x := by
  unfold putP
  rw [if_pos h, List.set_eq_take_append_cons_drop, if_pos hb]
theorem put_out {l : List PairT} {x : PairT} (h : isInB l x.key = false) : l.take (plc l x.key) ++ ([x] ++ l.drop (plc l x.key)) = putP l x := by
  unfold putP
  simp [h]
theorem isIn_iff {l : List PairT} (h : asc (keysP l) = true) {k : Int} : isInB l k = true ↔ (plc l k < l.length ∧ (l[plc l k]?).map (·.key) = some k) := by
  rw [isIn_at h]
  constructor
  · rintro ⟨hb, he⟩; exact ⟨hb, by rw [List.getElem?_eq_getElem hb]; simp [he]⟩
  · rintro ⟨hb, he⟩; exact ⟨hb, by rw [List.getElem?_eq_getElem hb] at he; simpa using he⟩
theorem isIn_yes {l : List PairT} (h : asc (keysP l) = true) {k : Int} (hb : plc l k < l.length) (he : l[plc l k].key = k) : isInB l k = true := (isIn_at h).2 ⟨hb, he⟩
theorem isIn_no {l : List PairT} (h : asc (keysP l) = true) {k : Int} (he : ∀ hb : plc l k < l.length, l[plc l k].key ≠ k) : isInB l k = false := by
  cases hc : isInB l k with
  | false => rfl
  | true => obtain ⟨hb, h1⟩ := (isIn_at h).1 hc; exact absurd h1 (he hb)
theorem validR_asc {l : List PairT} (h : validR l = true) : asc (keysP l) = true := (validK_iff.1 (validR_iff.1 h).2.2).2
theorem validR_len {l : List PairT} (h : validR l = true) : l.length ≤ 24 := (validR_iff.1 h).1
theorem validR_no {l : List PairT} {k : Nat} (hk : k < l.length) (h : isValB l[k].val = false) : validR l = false := by
  unfold validR
  rw [all_fail (p := fun p => isValB p.val) hk h]; simp
theorem drop_in {l : List PairT} {k : Int} (h : isInB l k = true) : l.take (plc l k) ++ l.drop (plc l k + 1) = dropP l k := by simp [dropP, h]
theorem drop_out {l : List PairT} {k : Int} (h : isInB l k = false) : dropP l k = l := by simp [dropP, h]
end Go.Px
namespace Go.Px
theorem isIn_dec {l : List PairT} (h : asc (keysP l) = true) {k : Int} (hb : plc l k < l.length) : decide (l[plc l k].key = k) = isInB l k := by
  by_cases he : l[plc l k].key = k
  · rw [decide_eq_true he, isIn_yes h hb he]
  · rw [decide_eq_false he, isIn_no h (fun _ => he)]
theorem isIn_out {l : List PairT} (h : asc (keysP l) = true) {k : Int} (hb : l.length ≤ plc l k) : isInB l k = false := isIn_no h (fun hb' => by omega)
end Go.Px
namespace Go.Px
theorem look_key {l : List PairT} (h : asc (keysP l) = true) {k : Int} {i : Nat} (hi : i < l.length) (hk : l[i].key = k) : lookP l k = some l[i].val := by
  subst hk
  exact (look_some h).2 (List.getElem_mem hi)
theorem look_no {l : List PairT} {k : Int} (h : k ∉ keysP l) : lookP l k = none := by
  rw [look_none]
  intro p hp he
  exact h (he ▸ List.mem_map_of_mem hp)
end Go.Px
