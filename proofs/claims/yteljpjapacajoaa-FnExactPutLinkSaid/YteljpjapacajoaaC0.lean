/- Own layer: part of this seat (C0). Plain theorems; no conditions. -/
import Derived.Test.YteljpjapacajoaaPx9
import Derived.Test.YteljpjapacajoaaR0
set_option linter.unusedVariables false
set_option linter.unusedSimpArgs false
/-! chains of links: the plain laws -/
namespace Go.Px
def gL (l : List LinkT) (i : Nat) : LinkT := l.getD i ⟨[], 0, 0⟩
theorem gL_ts {L : List LnkL} {j : Nat} (h : j < L.length) : gL (tsL L) j = L[j].t := by simp [gL, tsL, h]
theorem gL_at {l : List LinkT} {j : Nat} (h : j < l.length) : gL l j = l[j] := by simp [gL, h]
theorem tsL_len (L : List LnkL) : (tsL L).length = L.length := by simp
def inLk (low high : Int) (k : Int) : Bool := decide (low ≤ k) && decide (k < high)
def okLk (x : LinkT) (low : Int) : Bool := decide (low ≤ x.high) && decide (x.keys.length ≤ 4) && validK x.keys && x.keys.all (inLk low x.high)
theorem okLk_iff {x : LinkT} {low : Int} : okLk x low = true ↔ low ≤ x.high ∧ x.keys.length ≤ 4 ∧ validK x.keys = true ∧ ∀ k ∈ x.keys, low ≤ k ∧ k < x.high := by
  simp [okLk, inLk, and_assoc]
def vcA (l : List LinkT) : Nat → List Int → Int → Int → Bool
  | 0, _, _, _ => false
  | n + 1, seen, at_, low => (decide (0 ≤ at_) && decide (at_ < l.length)) && !decide (at_ ∈ seen) && okLk (gL l at_.toNat) low &&
    (if n = 0 then decide ((gL l at_.toNat).right = -1) && decide ((gL l at_.toNat).high = 100) else vcA l n (seen ++ [at_]) (gL l at_.toNat).right (gL l at_.toNat).high)
def validC (l : List LinkT) : Bool := decide (1 ≤ l.length) && decide (l.length ≤ 16) && vcA l l.length [] 0 0
section
variable {l : List LinkT} {n i : Nat} {seen : List Int} {at_ low : Int}
theorem vc_out (h : at_ < 0 ∨ (l.length : Int) ≤ at_) : vcA l n seen at_ low = false := by
  cases n with
  | zero => rfl
  | succ n =>
    simp only [vcA]
    rcases h with h | h
    · rw [decide_eq_false (show ¬ (0 : Int) ≤ at_ by omega)]; simp
    · rw [decide_eq_false (show ¬ at_ < (l.length : Int) by omega)]; simp
theorem vc_seen (h : at_ ∈ seen) : vcA l n seen at_ low = false := by
  cases n with
  | zero => rfl
  | succ n => simp only [vcA]; rw [decide_eq_true h]; simp
theorem vc_bad (h : okLk (gL l at_.toNat) low = false) : vcA l n seen at_ low = false := by
  cases n with
  | zero => rfl
  | succ n => simp only [vcA]; rw [h]; simp
theorem vc_last (h1 : 0 ≤ at_) (h2 : at_ < l.length) (h3 : at_ ∉ seen) (h4 : okLk (gL l at_.toNat) low = true) : vcA l 1 seen at_ low = (decide ((gL l at_.toNat).right = -1) && decide ((gL l at_.toNat).high = 100)) := by
  simp only [vcA]
  rw [decide_eq_true h1, decide_eq_true h2, decide_eq_false h3, h4]; simp
theorem vc_next (hn : n ≠ 0) (h1 : 0 ≤ at_) (h2 : at_ < l.length) (h3 : at_ ∉ seen) (h4 : okLk (gL l at_.toNat) low = true) : vcA l (n + 1) seen at_ low = vcA l n (seen ++ [at_]) (gL l at_.toNat).right (gL l at_.toNat).high := by
  simp only [vcA]
  rw [decide_eq_true h1, decide_eq_true h2, decide_eq_false h3, h4, if_neg hn]; simp
theorem vc_le : ∀ {n : Nat} {seen : List Int} {at_ low : Int}, vcA l n seen at_ low = true → low ≤ 100
  | 0, _, _, _, h => by simp [vcA] at h
  | n + 1, seen, at_, low, h => by
    simp only [vcA, Bool.and_eq_true] at h
    obtain ⟨⟨_, h2⟩, h3⟩ := h
    have h4 := (okLk_iff.1 h2).1
    split at h3
    · simp at h3; omega
    · have := vc_le h3; omega
theorem vc_high (hn : n ≠ 0) (h : 100 < (gL l at_.toNat).high) : vcA l n seen at_ low = false := by
  cases hh : vcA l n seen at_ low with
  | false => rfl
  | true =>
    exfalso
    cases n with
    | zero => exact hn rfl
    | succ n =>
      simp only [vcA, Bool.and_eq_true] at hh
      obtain ⟨_, h3⟩ := hh
      split at h3
      · simp at h3; omega
      · have := vc_le h3; omega
theorem validC_big (h : ¬ (1 ≤ l.length ∧ l.length ≤ 16)) : validC l = false := by
  unfold validC
  rcases Nat.lt_or_ge l.length 1 with h1 | h1
  · rw [decide_eq_false (show ¬ 1 ≤ l.length by omega)]; simp
  · rw [decide_eq_false (show ¬ l.length ≤ 16 by omega)]; simp
theorem validC_run (h1 : 1 ≤ l.length) (h2 : l.length ≤ 16) : validC l = vcA l l.length [] 0 0 := by
  unfold validC; rw [decide_eq_true h1, decide_eq_true h2]; simp
/-- the table of places seen -/
def seenT (seen : List Int) : List Bool := (List.range 16).map fun i : Nat => decide ((i : Int) ∈ seen)
theorem seenT_len (seen : List Int) : (seenT seen).length = 16 := by simp [seenT]
theorem seenT_nil : List.replicate 16 false = seenT [] := by decide
theorem seenT_get {seen : List Int} {i : Nat} (h : i < 16) : (seenT seen)[i]'(by rw [seenT_len]; exact h) = decide ((i : Int) ∈ seen) := by simp [seenT]
theorem seenT_set {seen : List Int} {i : Nat} (h : i < 16) : (seenT seen).set i true = seenT (seen ++ [(i : Int)]) := by
  apply List.ext_getElem
  · simp [seenT]
  · intro j h1 h2
    have hj : j < 16 := by rw [seenT_len] at h2; exact h2
    rw [seenT_get hj, List.getElem_set]
    by_cases he : i = j
    · subst he; simp
    · rw [if_neg he, seenT_get hj]
      have : ¬ (j : Int) = (i : Int) := by omega
      simp [this]
end
end Go.Px
namespace Go.Px
theorem ok_no {x : LinkT} {low : Int} (h : x.high < low ∨ 4 < x.keys.length ∨ validK x.keys = false) : okLk x low = false := by
  cases hh : okLk x low with
  | false => rfl
  | true =>
    obtain ⟨h1, h2, h3, _⟩ := okLk_iff.1 hh
    rcases h with h | h | h
    · omega
    · omega
    · rw [h3] at h; exact h
theorem ok_key {x : LinkT} {low : Int} {k : Nat} (hk : k < x.keys.length) (h : x.keys[k] < low ∨ x.high ≤ x.keys[k]) : okLk x low = false := by
  cases hh : okLk x low with
  | false => rfl
  | true =>
    obtain ⟨_, _, _, h4⟩ := okLk_iff.1 hh
    have := h4 _ (List.getElem_mem hk)
    omega
theorem ok_yes {x : LinkT} {low : Int} (h1 : low ≤ x.high) (h2 : x.keys.length ≤ 4) (h3 : validK x.keys = true) (h4 : x.keys.all (inLk low x.high) = true) : okLk x low = true := by
  unfold okLk; rw [decide_eq_true h1, decide_eq_true h2, h3, h4]; rfl
theorem in_step {l : List Int} {low high : Int} {k : Nat} (h : (l.take k).all (inLk low high) = true) (hk : k < l.length) (h1 : low ≤ l[k]) (h2 : l[k] < high) : (l.take (k + 1)).all (inLk low high) = true :=
  all_step h hk (by simp [inLk, h1, h2])
end Go.Px
namespace Go.Px
theorem ok_yes2 {x : LinkT} {low : Int} (h1 : low ≤ x.high) (h2 : x.keys.length ≤ 4) (h3 : validK x.keys = true) (h4 : x.keys.all (fun k => decide (low ≤ k) && decide (k ≤ x.high - 1)) = true) : okLk x low = true := by
  refine okLk_iff.2 ⟨h1, h2, h3, fun k hk => ?_⟩
  have := List.all_eq_true.1 h4 k hk
  simp at this
  omega
theorem ok_key2 {x : LinkT} {low : Int} (h4 : x.keys.all (fun k => decide (low ≤ k) && decide (k ≤ x.high - 1)) = false) : okLk x low = false := by
  cases hh : okLk x low with
  | false => rfl
  | true =>
    obtain ⟨_, _, _, h5⟩ := okLk_iff.1 hh
    have : x.keys.all (fun k => decide (low ≤ k) && decide (k ≤ x.high - 1)) = true := List.all_eq_true.2 fun k hk => by have := h5 k hk; simp; omega
    rw [this] at h4; exact h4
theorem vc_range {l : List LinkT} {n : Nat} {seen : List Int} {at_ low : Int} (h : (decide (low ≤ (gL l at_.toNat).high) && decide ((gL l at_.toNat).high ≤ 100)) = false) : vcA l n seen at_ low = false := by
  cases n with
  | zero => rfl
  | succ n =>
    by_cases h1 : (gL l at_.toNat).high < low
    · exact vc_bad (ok_no (.inl h1))
    · refine vc_high (by omega) ?_
      rw [decide_eq_true (show low ≤ (gL l at_.toNat).high by omega)] at h
      simp at h; omega
theorem validC_run2 {l : List LinkT} : validC l = (vcA l l.length [] 0 0 && decide (l.length ≤ 16)) := by
  unfold validC
  cases l with
  | nil => rfl
  | cons x l => simp [Bool.and_comm]
end Go.Px
