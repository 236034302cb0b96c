/- Own layer: part of this seat (W1). Plain theorems; no conditions. -/
import Derived.Test.YtekfncmhinbghaaW0
set_option linter.unusedVariables false
set_option linter.unusedSimpArgs false
/-! Plain laws of words: separators, packed words. -/
namespace Go.Px
theorem sepF_ne {a b : List UInt8} (h : sepF a b ≠ []) : isWordB a = true ∧ isWordB b = true ∧ blt a b = true ∧ sepF a b = b.take (comm a b + 1) := by
  unfold sepF at h ⊢
  split at h
  · exact absurd rfl h
  · rename_i hc
    rw [if_neg hc]
    simp at hc
    exact ⟨hc.1.1, hc.1.2, hc.2, rfl⟩
theorem sep_len {a b : List UInt8} (h : sepF a b ≠ []) : (sepF a b).length = comm a b + 1 := by
  obtain ⟨_, _, h3, h4⟩ := sepF_ne h
  have := comm_lt h3
  rw [h4]; simp; omega
theorem blt_cons (a b : UInt8) (x y : List UInt8) : blt (a :: x) (b :: y) = (decide (a < b) || (decide (a = b) && blt x y)) := by
  by_cases h1 : a < b
  · simp [blt, Op.bytesLess, h1]
  · by_cases h2 : a = b
    · subst h2; simp [blt, Op.bytesLess, h1]
    · simp [blt, Op.bytesLess, h1, h2]
theorem blt_take_comm : ∀ {a b : List UInt8}, blt a b = true → blt a (b.take (comm a b + 1)) = true
  | [], [], h => by simp [blt, Op.bytesLess] at h
  | [], b :: y, _ => by simp [comm, blt, Op.bytesLess]
  | a :: x, [], h => by simp [blt, Op.bytesLess] at h
  | a :: x, b :: y, h => by
    simp only [comm]
    rw [blt_cons] at h
    by_cases he : a = b
    · subst he
      simp at h
      simp [blt_cons, blt_take_comm h]
    · simp [he] at h
      simp [he, blt_cons, h]
theorem le_of_take : ∀ (b : List UInt8) (k : Nat), (blt (b.take k) b || decide (b.take k = b)) = true
  | [], k => by simp
  | b :: y, 0 => by simp [blt, Op.bytesLess]
  | b :: y, k + 1 => by
    have := le_of_take y k
    simp only [List.take_succ_cons, blt_cons]
    simp at this ⊢
    exact this
theorem take_comm : ∀ (a b : List UInt8), b.take (comm a b) = a.take (comm a b)
  | [], b => by simp [comm]
  | a :: x, [] => by simp [comm]
  | a :: x, b :: y => by
    simp only [comm]
    split
    · rename_i he; subst he; simp [take_comm x y]
    · simp
theorem sep_lt {a b : List UInt8} (h : sepF a b ≠ []) : blt a (sepF a b) = true := by
  obtain ⟨_, _, h3, h4⟩ := sepF_ne h
  rw [h4]; exact blt_take_comm h3
theorem sep_le {a b : List UInt8} (h : sepF a b ≠ []) : (blt (sepF a b) b || decide (sepF a b = b)) = true := by
  obtain ⟨_, _, _, h4⟩ := sepF_ne h
  rw [h4]; exact le_of_take _ _
theorem sep_sz {a b : List UInt8} (h : sepF a b ≠ []) : (sepF a b).length ≤ b.length := by
  obtain ⟨_, _, h3, h4⟩ := sepF_ne h
  rw [h4, List.length_take]; exact Nat.min_le_right _ _
theorem sep_head {a b : List UInt8} (h : sepF a b ≠ []) : b.take (sepF a b).length = sepF a b := by
  rw [sep_len h]; exact (sepF_ne h).2.2.2.symm
theorem sep_short {a b : List UInt8} (h : sepF a b ≠ []) : (blt ((sepF a b).take ((sepF a b).length - 1)) a || decide ((sepF a b).take ((sepF a b).length - 1) = a)) = true := by
  obtain ⟨_, _, _, h4⟩ := sepF_ne h
  have e : (sepF a b).take ((sepF a b).length - 1) = a.take (comm a b) := by
    rw [sep_len h, h4, List.take_take, show min (comm a b + 1 - 1) (comm a b + 1) = comm a b by omega, take_comm]
  rw [e]; exact le_of_take _ _
theorem sep_back {a b : List UInt8} (h : sepF a b ≠ []) : sepF b a = [] := sepF_c (blt_asym (sepF_ne h).2.2.1)
theorem sep_pos {a b : List UInt8} (h : sepF a b ≠ []) : 1 ≤ (sepF a b).length := by rw [sep_len h]; omega
end Go.Px
