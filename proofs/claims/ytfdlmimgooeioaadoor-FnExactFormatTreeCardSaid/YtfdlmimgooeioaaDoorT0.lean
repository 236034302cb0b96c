/- Own layer: part of this seat (T0). Plain theorems; no conditions. -/
import Derived.Test.YtfdlmimgooeioaaDoorG0
import Derived.Lib.ItoaLen
set_option linter.unusedVariables false
set_option linter.unusedSimpArgs false
/-! texts of rows: what is computed -/
namespace Go.Px
open Go.Lib
theorem dec_small {u : Nat} (h : u < 10) : decDigits u = [UInt8.ofNat (48 + u)] := by rw [decDigits, dif_pos h]
theorem dec_big {u : Nat} (h : ¬ u < 10) : decDigits u = decDigits (u / 10) ++ [UInt8.ofNat (48 + u % 10)] := by rw [decDigits, dif_neg h]
/-- the decimal form -/
def itoaS (n : Int) : Str := itoa n
theorem itoa_dig {n : Int} (h0 : 0 ≤ n) (h : n < 10) : itoaS n = [UInt8.ofNat (48 + n.toNat)] := by
  unfold itoaS itoa; rw [if_neg (by omega), dec_small (by omega)]
theorem itoa_ten {n : Int} (h : 10 ≤ n) : itoaS n = itoaS (n / 10) ++ [UInt8.ofNat (48 + n.toNat % 10)] := by
  unfold itoaS itoa
  rw [if_neg (by omega), if_neg (by omega), dec_big (by omega)]
  congr 2
  omega
theorem itoa_min {n : Int} (h : n < 0) : itoaS n = 45 :: itoaS (-n) := by
  unfold itoaS itoa
  rw [if_pos h, if_neg (by omega)]
  congr 2
  omega
theorem dec_sign {b : UInt8} : ∀ {u : Nat}, b ∈ decDigits u → 48 ≤ b.toNat ∧ b.toNat ≤ 57
  | u, h => by
    by_cases hu : u < 10
    · rw [dec_small hu, List.mem_singleton] at h
      subst h
      rw [UInt8.toNat_ofNat']; omega
    · rw [dec_big hu] at h
      rcases List.mem_append.1 h with h | h
      · exact dec_sign h
      · rw [List.mem_singleton] at h
        subst h
        rw [UInt8.toNat_ofNat']; omega
  termination_by u => u
  decreasing_by omega
theorem itoa_sign {n : Int} {b : UInt8} (h : b ∈ itoaS n) : b.toNat = 45 ∨ (48 ≤ b.toNat ∧ b.toNat ≤ 57) := by
  unfold itoaS itoa at h
  split at h
  · rcases List.mem_cons.1 h with rfl | h
    · left; rfl
    · right; exact dec_sign h
  · right; exact dec_sign h
theorem itoa_len {n : Int} (h0 : -9223372036854775808 ≤ n) (h1 : n ≤ 9223372036854775807) : (itoaS n).length ≤ 21 := itoa_length_le n h0 h1
def fmtP (p : PairT) : Str := itoaS p.key ++ ([58] ++ itoaS p.val)
def fmtL : List PairT → Str
  | [] => []
  | x :: l => fmtP x ++ l.flatMap fun y => 44 :: fmtP y
def fmtR (l : List PairT) : Str := if validR l then fmtL l else []
theorem fmtL_snoc {a : List PairT} {x : PairT} : fmtL (a ++ [x]) = fmtL a ++ ((if a = [] then [] else [44]) ++ fmtP x) := by
  cases a with
  | nil => simp [fmtL]
  | cons y a => simp [fmtL]
theorem fmtL_take {l : List PairT} {k : Nat} (h : k < l.length) : fmtL (l.take (k + 1)) = fmtL (l.take k) ++ ((if k = 0 then [] else [44]) ++ fmtP l[k]) := by
  rw [take_snoc h, fmtL_snoc]
  congr 2
  by_cases hk : k = 0
  · subst hk; simp
  · rw [if_neg hk, if_neg]
    intro e
    have := congrArg List.length e
    rw [List.length_take, List.length_nil] at this; omega
def small (p : PairT) : Prop := (0 ≤ p.key ∧ p.key ≤ 99) ∧ -1000 ≤ p.val ∧ p.val ≤ 1000
theorem valid_small {l : List PairT} (h : validR l = true) : ∀ p ∈ l, small p := fun p hp => (validR_parts.1 h).2.2 p hp
theorem fmtP_len {p : PairT} (h : small p) : (fmtP p).length ≤ 43 := by
  obtain ⟨h1, h2⟩ := h
  have a := itoa_len (n := p.key) (by omega) (by omega)
  have b := itoa_len (n := p.val) (by omega) (by omega)
  simp only [fmtP, List.length_append, List.length_cons, List.length_nil]; omega
theorem fmtL_len : ∀ {l : List PairT} (k : Nat), (∀ p ∈ l, small p) → k ≤ l.length → (fmtL (l.take k)).length ≤ 44 * k
  | l, 0, _, _ => by simp [fmtL]
  | l, k + 1, h, hk => by
    rw [fmtL_take (by omega)]
    have h1 := fmtL_len (l := l) k h (by omega)
    have h2 := fmtP_len (h _ (List.getElem_mem (show k < l.length by omega)))
    simp only [List.length_append]
    have h3 : (if k = 0 then ([] : Str) else [44]).length ≤ 1 := by split <;> simp
    omega
theorem fmtR_yes {l : List PairT} (h : validR l = true) : fmtR l = fmtL l := by simp [fmtR, h]
theorem fmtR_no {l : List PairT} (h : validR l = false) : fmtR l = [] := by simp [fmtR, h]
/-- signs counted -/
def cnt (b : UInt8) (s : Str) : Nat := s.countP (fun c => decide (c = b))
theorem cnt_app {b : UInt8} {s t : Str} : cnt b (s ++ t) = cnt b s + cnt b t := List.countP_append
theorem cnt_take {b : UInt8} {s : Str} {k : Nat} (h : k < s.length) : cnt b (s.take (k + 1)) = cnt b (s.take k) + if s[k] = b then 1 else 0 := by
  rw [take_snoc h, cnt_app]
  congr 1
  simp [cnt, List.countP_cons]
theorem cnt_itoa {b : UInt8} {n : Int} (hb : b.toNat = 58 ∨ b.toNat = 44) : cnt b (itoaS n) = 0 := by
  unfold cnt
  rw [List.countP_eq_zero]
  intro c hc e
  have h1 := itoa_sign hc
  have h2 : c = b := by simpa using e
  subst h2; omega
theorem cnt_fmtP (p : PairT) : cnt 58 (fmtP p) = 1 ∧ cnt 44 (fmtP p) = 0 := by
  simp only [fmtP, cnt_app]
  rw [cnt_itoa (.inl rfl), cnt_itoa (.inl rfl), cnt_itoa (.inr rfl), cnt_itoa (.inr rfl)]
  decide
theorem cnt_fmtL : ∀ {l : List PairT} (k : Nat), k ≤ l.length → cnt 58 (fmtL (l.take k)) = k ∧ cnt 44 (fmtL (l.take k)) = k - 1
  | l, 0, _ => by simp [fmtL, cnt]
  | l, k + 1, hk => by
    obtain ⟨h1, h2⟩ := cnt_fmtL (l := l) k (by omega)
    rw [fmtL_take (by omega), cnt_app, cnt_app, cnt_app, cnt_app, h1, h2, (cnt_fmtP _).1, (cnt_fmtP _).2]
    by_cases hk0 : k = 0
    · subst hk0; simp [cnt]
    · rw [if_neg hk0]
      have a : cnt 58 [44] = 0 := by decide
      have b : cnt 44 [44] = 1 := by decide
      rw [a, b]; omega
end Go.Px
namespace Go.Px
theorem u8_is {b c : UInt8} {n : Int} (hc : (c.toNat : Int) = n) : b = c ↔ (b.toNat : Int) = n := by
  subst hc
  constructor
  · rintro rfl; rfl
  · intro h; exact UInt8.toNat_inj.1 (by omega)
end Go.Px
