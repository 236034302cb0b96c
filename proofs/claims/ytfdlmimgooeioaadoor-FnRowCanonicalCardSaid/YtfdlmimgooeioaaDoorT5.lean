/- Own layer: part of this seat (T5). Plain theorems; no conditions. -/
import Derived.Test.YtfdlmimgooeioaaDoorT4
import Derived.Lib.AtoiBound
set_option linter.unusedVariables false
set_option linter.unusedSimpArgs false
/-! reading rows: what the walks end with -/
namespace Go.Px
open Go.Lib
theorem pair_nf {s : Str} (h : (cut s [58]).2.2 = false) : pairS s = none := by
  rcases cut_eq (c := 58) (s := s) with ⟨h1, _⟩ | ⟨a, r, _, _, h3⟩
  · exact pairS_cut0 h1
  · rw [h3] at h; cases h
theorem pair_yf {s : Str} (h : (cut s [58]).2.2 = true) : pairS s = (match numS (cut s [58]).1, numS (cut s [58]).2.1 with | some k, some v => some ⟨k, v⟩ | _, _ => none) := by
  rcases cut_eq (c := 58) (s := s) with ⟨_, h2⟩ | ⟨a, r, h1, h2, h3⟩
  · rw [h2] at h; cases h
  · rw [h3]; simp only; rw [h1, pairS_cut h2]
    cases numS a <;> cases numS r <;> rfl
theorem opt_none {α : Type} {o : Option α} (h : o.isSome = false) : o = none := by cases o <;> simp at h ⊢
theorem opt_some {α : Type} {o : Option α} {d : α} (h : o.isSome = true) : o = some (o.getD d) := by cases o <;> simp at h ⊢
theorem pair_no1 {s : Str} (hf : (cut s [58]).2.2 = true) (h : (numS (cut s [58]).1).isSome = false) : pairS s = none := by
  rw [pair_yf hf, opt_none h]
theorem pair_no2 {s : Str} (hf : (cut s [58]).2.2 = true) (h : (numS (cut s [58]).2.1).isSome = false) : pairS s = none := by
  rw [pair_yf hf, opt_none h]; cases numS (cut s [58]).1 <;> rfl
theorem pair_ok {s : Str} (hf : (cut s [58]).2.2 = true) (h1 : (numS (cut s [58]).1).isSome = true) (h2 : (numS (cut s [58]).2.1).isSome = true) : pairS s = some ⟨(numS (cut s [58]).1).getD 0, (numS (cut s [58]).2.1).getD 0⟩ := by
  rw [pair_yf hf, opt_some (d := 0) h1, opt_some (d := 0) h2]; rfl
theorem row_nil : rowS [] = some [] := rfl
theorem row_bad {s : Str} (hs : s ≠ []) (h : partsS (splS 44 s) = none) : rowS s = none := by unfold rowS; rw [if_neg hs, h]
theorem row_inv {s : Str} {L : List PairT} (hs : s ≠ []) (h : partsS (splS 44 s) = some L) (hv : validR L = false) : rowS s = none := by unfold rowS; rw [if_neg hs, h]; simp [hv]
theorem row_ok {s : Str} {L : List PairT} (hs : s ≠ []) (h : partsS (splS 44 s) = some L) (hv : validR L = true) : rowS s = some L := by unfold rowS; rw [if_neg hs, h]; simp [hv]
theorem rowS_len {s : Str} : ((rowS s).getD []).length ≤ 24 := by
  cases h : rowS s with
  | none => simp
  | some l => exact validR_len (row_canon h).2
theorem itoa_pos (n : Int) : 1 ≤ (itoaS n).length := by
  have := itoa_ne n
  cases h : itoaS n with
  | nil => exact absurd h this
  | cons a b => simp
theorem fmtP_ge (p : PairT) : 3 ≤ (fmtP p).length := by
  have a := itoa_pos p.key
  have b := itoa_pos p.val
  simp only [fmtP, List.length_append, List.length_cons, List.length_nil]; omega
theorem flatP_ge : ∀ (l : List PairT), 4 * l.length ≤ ((l.map fmtP).flatMap fun x => (44 : UInt8) :: x).length
  | [] => by simp
  | x :: l => by
    have h1 := fmtP_ge x
    have h2 := flatP_ge l
    simp only [List.map_cons, List.flatMap_cons, List.length_append, List.length_cons]; omega
theorem parts_len {s : Str} {L : List PairT} (h : partsS (splS 44 s) = some L) : 4 * L.length ≤ s.length + 1 := by
  obtain ⟨p, ps, h1, h2⟩ := splS_join (c := 44) s.length s (Nat.le_refl _)
  have h3 := parts_fmt h
  rw [h1] at h3
  cases L with
  | nil => simp at h3
  | cons x l =>
    simp only [List.map_cons, List.cons.injEq] at h3
    rw [h2, h3.1, h3.2, List.length_append, List.length_cons]
    have := fmtP_ge x
    have := flatP_ge l
    omega
theorem splS_len {c : UInt8} : ∀ {s : Str}, (splS c s).length ≤ s.length + 1
  | [] => by simp [splS]
  | b :: s => by
    have ih := splS_len (c := c) (s := s)
    simp only [splS]
    split
    · simp; omega
    · cases h : splS c s with
      | nil => simp
      | cons p ps => rw [h] at ih; simp at ih ⊢; omega
/-! the loop that cuts -/
theorem spl_step {c : UInt8} {s : Str} {L : List Str} {f i : Nat} (h : L ++ splS c (s.drop f) = splS c s) (hn : c ∉ (s.drop f).take (i - f)) (hf : f ≤ i) (hi : i < s.length) (hc : s[i] = c) : (L ++ [(s.drop f).take (i - f)]) ++ splS c (s.drop (i + 1)) = splS c s := by
  rw [← h, List.append_assoc]
  congr 1
  have e : s.drop f = (s.drop f).take (i - f) ++ c :: s.drop (i + 1) := by
    conv => lhs; rw [← List.take_append_drop (i - f) (s.drop f)]
    congr 1
    rw [List.drop_drop, show f + (i - f) = i by omega, List.drop_eq_getElem_cons hi, hc]
  conv => rhs; rw [e]
  rw [splS_hit hn]; rfl
theorem notin_step {c : UInt8} {s : Str} {f i : Nat} (hn : c ∉ (s.drop f).take (i - f)) (hf : f ≤ i) (hi : i < s.length) (hc : s[i] ≠ c) : c ∉ (s.drop f).take (i + 1 - f) := by
  have h1 : i - f < (s.drop f).length := by simp; omega
  rw [show i + 1 - f = i - f + 1 by omega, take_snoc h1]
  intro hm
  rcases List.mem_append.1 hm with hm | hm
  · exact hn hm
  · rw [List.mem_singleton, List.getElem_drop] at hm
    apply hc
    rw [hm]; congr 1; omega
theorem spl_end {c : UInt8} {s : Str} {L : List Str} {f i : Nat} (h : L ++ splS c (s.drop f) = splS c s) (hn : c ∉ (s.drop f).take (i - f)) (hi : s.length ≤ i) : L ++ [s.drop f] = splS c s := by
  rw [List.take_of_length_le (by simp; omega)] at hn
  rw [← h, splS_none hn]
/-! the loop that reads -/
theorem dval_snocT {s : Str} {i : Nat} (h : i < s.length) : dval (s.take (i + 1)) = dig (dval (s.take i)) s[i] := by rw [take_snoc h, dval_snoc]
theorem dval_bound : ∀ (n : Nat) (s : Str), s.length = n → dval s < 10 ^ n := by
  intro n
  induction n with
  | zero => intro s hs; have : s = [] := List.eq_nil_of_length_eq_zero hs; subst this; simp [dval]
  | succ n ih =>
    intro s hs
    have h1 : s = s.take n ++ [s[n]'(by omega)] := by rw [← take_snoc (by omega), List.take_of_length_le (by omega)]
    have h2 := ih (s.take n) (by simp; omega)
    rw [h1, dval_snoc]
    unfold dig
    split
    · rename_i hb; rw [Nat.pow_succ]; omega
    · rw [Nat.pow_succ]; omega
theorem dval_small {s : Str} (h : s.length ≤ 5) : dval s ≤ 99999 := by
  have h1 := dval_bound s.length s rfl
  have h2 : 10 ^ s.length ≤ 10 ^ 5 := Nat.pow_le_pow_right (by omega) h
  omega
theorem num_bad {s : Str} {i : Nat} (h : i < s.length) (h0 : i ≠ 0 ∨ s[i] ≠ 45) (hb : ¬ (48 ≤ (s[i]).toNat ∧ (s[i]).toNat ≤ 57)) : numS s = none := numS_no fun n e => by
  subst e
  exact hb (itoa_tail h h0)
theorem num_e {s : Str} (h : s = [] ∨ ¬ s.length ≤ 5 ∨ s = [45]) : numS s = none := by
  rcases h with h | h | h
  · subst h; exact numS_no fun n => itoa_ne n
  · exact numS_long h
  · subst h; exact numS_no fun n => itoa_dash n
theorem pv_neg {s : Str} (h : 0 < s.length) (h0 : s[0] = 45) : pv s = -(dval s : Int) := by
  unfold pv; rw [if_pos]; rw [← h0, List.head?_eq_getElem?, List.getElem?_eq_getElem h]
theorem pv_pos {s : Str} (h : 0 < s.length) (h0 : s[0] ≠ 45) : pv s = dval s := by
  unfold pv; rw [if_neg]; rw [List.head?_eq_getElem?, List.getElem?_eq_getElem h]; simpa using h0
theorem num_fin {s : Str} {n : Int} (hn : pv s = n) (hl : s.length ≤ 5) (h : itoaS n = s) : numS s = some n := numS_yes hl h
theorem num_fno {s : Str} {n : Int} (hn : pv s = n) (h : itoaS n ≠ s) : numS s = none := by
  unfold numS; rw [if_neg fun hc => h (by rw [← hn]; exact hc.2)]
/-! pairs, as the reference reads them -/
theorem pair_n2 {s : Str} (h : (splS 58 s).length ≠ 2) : pairS s = none := by
  unfold pairS
  split
  · rename_i a b e; rw [e] at h; exact absurd rfl h
  · rfl
theorem pair_2 {s : Str} (h : (splS 58 s).length = 2) : pairS s = (match numS ((splS 58 s)[0]'(by omega)), numS ((splS 58 s)[1]'(by omega)) with | some k, some v => some ⟨k, v⟩ | _, _ => none) := by
  have key : ∃ a b, splS 58 s = [a, b] := by
    cases h1 : splS 58 s with
    | nil => rw [h1] at h; simp at h
    | cons a t =>
      cases t with
      | nil => rw [h1] at h; simp at h
      | cons b t =>
        cases t with
        | nil => exact ⟨a, b, rfl⟩
        | cons c t => rw [h1] at h; simp at h
  obtain ⟨a, b, e⟩ := key
  unfold pairS
  simp only [e, List.getElem_cons_zero, List.getElem_cons_succ]
  cases numS a <;> cases numS b <;> rfl
theorem pair_2no {s : Str} (h : (splS 58 s).length = 2) (hb : (numS ((splS 58 s)[0]'(by omega))).isSome = false ∨ (numS ((splS 58 s)[1]'(by omega))).isSome = false) : pairS s = none := by
  rw [pair_2 h]
  rcases hb with hb | hb
  · rw [opt_none hb]
  · rw [opt_none hb]; cases numS ((splS 58 s)[0]'(by omega)) <;> rfl
theorem pair_2ok {s : Str} (h : (splS 58 s).length = 2) (h1 : (numS ((splS 58 s)[0]'(by omega))).isSome = true) (h2 : (numS ((splS 58 s)[1]'(by omega))).isSome = true) : pairS s = some ⟨(numS ((splS 58 s)[0]'(by omega))).getD 0, (numS ((splS 58 s)[1]'(by omega))).getD 0⟩ := by
  rw [pair_2 h, opt_some (d := 0) h1, opt_some (d := 0) h2]; rfl
end Go.Px
namespace Go.Px
theorem splS_piece {c : UInt8} {n : Nat} : ∀ {s : Str}, s.length ≤ n → ∀ x ∈ splS c s, x.length ≤ n
  | [], _, x, hx => by simp [splS] at hx; subst hx; simp
  | b :: s, h, x, hx => by
    simp only [List.length_cons] at h
    have ih := splS_piece (c := c) (n := n - 1) (s := s) (by omega)
    simp only [splS] at hx
    split at hx
    · rcases List.mem_cons.1 hx with rfl | hx
      · simp
      · have := ih x hx; omega
    · cases hs : splS c s with
      | nil => rw [hs] at hx; simp at hx; subst hx; simp; omega
      | cons p ps =>
        rw [hs] at hx ih
        simp only at hx
        rcases List.mem_cons.1 hx with rfl | hx
        · have := ih p (by simp); simp only [List.length_cons]; omega
        · have := ih x (by simp [hx]); omega
end Go.Px
