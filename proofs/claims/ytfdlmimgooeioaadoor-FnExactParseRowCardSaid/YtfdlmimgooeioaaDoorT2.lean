/- Own layer: part of this seat (T2). Plain theorems; no conditions. -/
import Derived.Test.YtfdlmimgooeioaaDoorT0
import Derived.Lib.Split
import Derived.Lib.Atoi
set_option linter.unusedVariables false
set_option linter.unusedSimpArgs false
/-! texts of rows read: plain laws -/
namespace Go.Px
open Go.Lib
/-! cutting at a sign -/
def splS (c : UInt8) : Str → List Str
  | [] => [[]]
  | b :: s => if b = c then [] :: splS c s else match splS c s with
    | [] => [[b]]
    | p :: ps => (b :: p) :: ps
theorem splS_none {c : UInt8} : ∀ {s : Str}, c ∉ s → splS c s = [s]
  | [], _ => rfl
  | b :: s, h => by
    simp only [List.mem_cons, not_or] at h
    simp only [splS]
    rw [if_neg (fun e => h.1 e.symm), splS_none h.2]
theorem splS_hit {c : UInt8} {r : Str} : ∀ {a : Str}, c ∉ a → splS c (a ++ c :: r) = a :: splS c r
  | [], _ => by simp [splS]
  | b :: a, h => by
    simp only [List.mem_cons, not_or] at h
    simp only [List.cons_append, splS]
    rw [if_neg (fun e => h.1 e.symm), splS_hit h.2]
theorem split_byte {c : UInt8} {s : Str} {i : Nat} (h : indexByte s c = i) : ∃ a r, s = a ++ c :: r ∧ a = s.take i ∧ r = s.drop (i + 1) ∧ c ∉ a := by
  obtain ⟨h1, h2⟩ := indexByte_some h
  obtain ⟨hi, hc⟩ := List.getElem?_eq_some_iff.1 h1
  refine ⟨s.take i, s.drop (i + 1), ?_, rfl, rfl, fun hm => ?_⟩
  · rw [← hc, ← List.drop_eq_getElem_cons hi, List.take_append_drop]
  · obtain ⟨k, hk, e⟩ := List.getElem_of_mem hm
    simp only [List.length_take] at hk
    rw [List.getElem_take] at e
    exact h2 k (by omega) (by rw [List.getElem?_eq_getElem (by omega), e])
theorem no_byte {c : UInt8} {s : Str} (h : indexByte s c = -1) : c ∉ s := by
  intro hm
  obtain ⟨k, hk, e⟩ := List.getElem_of_mem hm
  exact indexByte_none h k (by rw [List.getElem?_eq_getElem hk, e])
theorem index_two {c : UInt8} {s : Str} : indexByte s c = -1 ∨ ∃ i : Nat, indexByte s c = i := by
  have := indexByte_ge s c
  rcases Int.lt_or_le (indexByte s c) 0 with h | h
  · left; omega
  · right; exact ⟨(indexByte s c).toNat, by omega⟩
theorem splK_eq {c : UInt8} : ∀ (n : Nat) (s : Str), s.length ≤ n → splitK [c] 0 (count s [c]) s = splS c s := by
  intro n
  induction n with
  | zero =>
    intro s hs
    have : s = [] := List.eq_nil_of_length_eq_zero (by omega)
    subst this
    have : indexByte [] c = -1 := rfl
    rw [count_miss (by rw [index_one]; exact this)]; rfl
  | succ n ih =>
    intro s hs
    rcases index_two (c := c) (s := s) with h | ⟨i, h⟩
    · rw [count_miss (by rw [index_one]; exact h), splS_none (no_byte h)]; rfl
    · obtain ⟨a, r, e, ha, hr, hn⟩ := split_byte h
      have h' : index s [c] = i := by rw [index_one]; exact h
      have hlt := indexByte_some h
      have hi : i < s.length := (List.getElem?_eq_some_iff.1 hlt.1).1
      rw [count_hit (s := s) (sub := [c]) (i := i) (by simp) h', Nat.add_comm 1, splitK, if_neg (by rw [h']; simp), h']
      simp only [Int.toNat_natCast, Nat.add_zero, List.length_singleton]
      rw [ih (s.drop (i + 1)) (by simp; omega), ← hr, ← ha]
      rw [e, splS_hit hn]
theorem cut_eq {c : UInt8} {s : Str} : (c ∉ s ∧ cut s [c] = (s, [], false)) ∨ ∃ a r, s = a ++ c :: r ∧ c ∉ a ∧ cut s [c] = (a, r, true) := by
  rcases index_two (c := c) (s := s) with h | ⟨i, h⟩
  · left
    refine ⟨no_byte h, ?_⟩
    unfold cut; rw [index_one, h, if_neg (by omega)]
  · right
    obtain ⟨a, r, e, ha, hr, hn⟩ := split_byte h
    refine ⟨a, r, e, hn, ?_⟩
    unfold cut; rw [index_one, h, if_pos (by omega), ha, hr]
    simp
/-! numbers read -/
def dig (n : Nat) (b : UInt8) : Nat := if 48 ≤ b.toNat ∧ b.toNat ≤ 57 then 10 * n + (b.toNat - 48) else n
def dval (s : Str) : Nat := s.foldl dig 0
theorem dval_snoc {s : Str} {b : UInt8} : dval (s ++ [b]) = dig (dval s) b := by simp [dval]
theorem dval_dec : ∀ (u : Nat), dval (decDigits u) = u
  | u => by
    have hd : ∀ v n : Nat, v < 10 → dig n (UInt8.ofNat (48 + v)) = 10 * n + v := fun v n hv => by
      have e : (UInt8.ofNat (48 + v)).toNat = 48 + v := by rw [UInt8.toNat_ofNat']; omega
      unfold dig; rw [e, if_pos (by omega)]; omega
    by_cases hu : u < 10
    · rw [dec_small hu]
      show dig 0 _ = u
      rw [hd u 0 hu]; omega
    · rw [dec_big hu, dval_snoc, dval_dec (u / 10), hd _ _ (by omega)]; omega
  termination_by u => u
  decreasing_by omega
/-- the number that a text may be -/
def pv (s : Str) : Int := if s.head? = some 45 then -(dval s : Int) else dval s
theorem dval_minus {s : Str} : dval (45 :: s) = dval s := by
  show List.foldl dig (dig 0 45) s = _
  have : dig 0 45 = 0 := by decide
  rw [this]; rfl
theorem dec_ne (u : Nat) : decDigits u ≠ [] := by
  by_cases hu : u < 10
  · rw [dec_small hu]; simp
  · rw [dec_big hu]; simp
theorem dec_head (u : Nat) : (decDigits u).head? ≠ some 45 := by
  intro h
  have := dec_sign (List.mem_of_mem_head? h)
  revert this; decide
theorem pv_itoa (n : Int) : pv (itoaS n) = n := by
  unfold itoaS itoa
  split
  · unfold pv
    rw [if_pos (by rfl), dval_minus, dval_dec]; omega
  · unfold pv
    rw [if_neg (dec_head _), dval_dec]; omega
def numS (s : Str) : Option Int := if s.length ≤ 5 ∧ itoaS (pv s) = s then some (pv s) else none
theorem numS_yes {s : Str} {n : Int} (hl : s.length ≤ 5) (h : itoaS n = s) : numS s = some n := by
  have e : pv s = n := by rw [← h, pv_itoa]
  unfold numS; rw [e, if_pos ⟨hl, h⟩]
theorem numS_some {s : Str} {n : Int} (h : numS s = some n) : s.length ≤ 5 ∧ itoaS n = s := by
  unfold numS at h
  split at h
  · rename_i hc; cases h; exact hc
  · cases h
theorem numS_no {s : Str} (h : ∀ n, itoaS n ≠ s) : numS s = none := by
  unfold numS; rw [if_neg fun hc => h _ hc.2]
theorem numS_long {s : Str} (h : ¬ s.length ≤ 5) : numS s = none := by unfold numS; rw [if_neg fun hc => h hc.1]
theorem itoa_ne (n : Int) : itoaS n ≠ [] := by
  unfold itoaS itoa; split
  · simp
  · exact dec_ne _
theorem itoa_dash (n : Int) : itoaS n ≠ [45] := by
  unfold itoaS itoa; split
  · simpa using dec_ne _
  · intro h; exact dec_head _ (by rw [h]; rfl)
/-- beyond the first sign all are digits -/
theorem itoa_tail {n : Int} {i : Nat} (h : i < (itoaS n).length) (h0 : i ≠ 0 ∨ (itoaS n)[i] ≠ 45) : 48 ≤ ((itoaS n)[i]).toNat ∧ ((itoaS n)[i]).toNat ≤ 57 := by
  have key : itoaS n = 45 :: decDigits n.natAbs ∨ itoaS n = decDigits n.toNat := by
    unfold itoaS itoa; split <;> simp
  rcases key with e | e
  · cases i with
    | zero => rcases h0 with h0 | h0; exact absurd rfl h0; exact absurd (by simp [e]) h0
    | succ i =>
      have hi : i < (decDigits n.natAbs).length := by rw [e] at h; simpa using h
      have : (itoaS n)[i + 1] = (decDigits n.natAbs)[i] := by simp [e]
      rw [this]; exact dec_sign (List.getElem_mem hi)
  · have hi : i < (decDigits n.toNat).length := by rw [e] at h; exact h
    have : (itoaS n)[i] = (decDigits n.toNat)[i] := by simp [e]
    rw [this]; exact dec_sign (List.getElem_mem hi)
/-- Atoi reads what Itoa writes -/
theorem decFrom_dig : ∀ {s : Str} {acc : Nat}, (∀ b ∈ s, 48 ≤ b.toNat ∧ b.toNat ≤ 57) → decFrom acc s = some (s.foldl dig acc)
  | [], _, _ => rfl
  | b :: s, acc, h => by
    have hb := h b (by simp)
    simp only [decFrom, digitVal, if_pos hb, List.foldl_cons]
    rw [decFrom_dig fun x hx => h x (by simp [hx])]
    congr 2
    unfold dig; rw [if_pos hb]; omega
theorem decNat_dec (u : Nat) : decNat (decDigits u) = some u := by
  unfold decNat
  rw [if_neg (by simpa using dec_ne u), decFrom_dig fun b hb => dec_sign hb]
  exact congrArg some (dval_dec u)
theorem atoi_itoa (n : Int) : atoi (itoaS n) = some n := by
  unfold itoaS itoa
  split
  · simp only [atoi, beq_self_eq_true, if_true, decNat_dec, Option.map_some]
    congr 1; omega
  · cases hd : decDigits n.toNat with
    | nil => exact absurd hd (dec_ne _)
    | cons b r =>
      have hb := dec_sign (b := b) (u := n.toNat) (by rw [hd]; simp)
      have h1 : (b == 45) = false := by rw [beq_eq_false_iff_ne]; rintro rfl; revert hb; decide
      have h2 : (b == 43) = false := by rw [beq_eq_false_iff_ne]; rintro rfl; revert hb; decide
      simp only [atoi, h1, h2, Bool.false_eq_true, if_false]
      rw [← hd, decNat_dec, Option.map_some]
      congr 1; omega
theorem numS_atoi_none {s : Str} (h : atoi s = none) : numS s = none := numS_no fun n e => by rw [← e, atoi_itoa] at h; cases h
theorem numS_atoi_ne {s : Str} {n : Int} (h : atoi s = some n) (hn : itoaS n ≠ s) : numS s = none := numS_no fun m e => by
  rw [← e, atoi_itoa] at h; cases h; exact hn e
/-! pairs and rows read -/
def pairS (s : Str) : Option PairT := match splS 58 s with
  | [a, b] => match numS a, numS b with
    | some k, some v => some ⟨k, v⟩
    | _, _ => none
  | _ => none
theorem num_sign {s : Str} {n : Int} (h : numS s = some n) {b : UInt8} (hb : b.toNat = 58 ∨ b.toNat = 44) : b ∉ s := by
  intro hm
  obtain ⟨_, e⟩ := numS_some h
  rw [← e] at hm
  have := itoa_sign hm
  omega
theorem pairS_cut0 {s : Str} (h : (58 : UInt8) ∉ s) : pairS s = none := by unfold pairS; rw [splS_none h]
theorem pairS_cut {a r : Str} (h : (58 : UInt8) ∉ a) : pairS (a ++ 58 :: r) = (match numS a, numS r with | some k, some v => some ⟨k, v⟩ | _, _ => none) := by
  unfold pairS
  rw [splS_hit h]
  by_cases hr : (58 : UInt8) ∈ r
  · have h1 : numS r = none := by
      cases hn : numS r with
      | none => rfl
      | some n => exact absurd hr (num_sign hn (.inl rfl))
    rw [h1]
    have h2 : ∃ x y z, splS 58 r = x :: y :: z := by
      rcases index_two (c := 58) (s := r) with hi | ⟨i, hi⟩
      · exact absurd hr (no_byte hi)
      · obtain ⟨a2, r2, e, _, _, hn⟩ := split_byte hi
        rw [e, splS_hit hn]
        rcases index_two (c := 58) (s := r2) with hj | ⟨j, hj⟩
        · rw [splS_none (no_byte hj)]; exact ⟨_, _, _, rfl⟩
        · obtain ⟨a3, r3, e3, _, _, hn3⟩ := split_byte hj
          rw [e3, splS_hit hn3]; exact ⟨_, _, _, rfl⟩
    obtain ⟨x, y, z, h2⟩ := h2
    rw [h2]
    cases numS a <;> rfl
  · rw [splS_none hr]
theorem pairS_some {s : Str} {p : PairT} (h : pairS s = some p) : fmtP p = s ∧ (44 : UInt8) ∉ s := by
  rcases index_two (c := 58) (s := s) with hi | ⟨i, hi⟩
  · rw [pairS_cut0 (no_byte hi)] at h; cases h
  · obtain ⟨a, r, e, _, _, hn⟩ := split_byte hi
    subst e
    rw [pairS_cut hn] at h
    cases ha : numS a with
    | none => rw [ha] at h; cases h
    | some k =>
      cases hr : numS r with
      | none => rw [ha, hr] at h; cases h
      | some v =>
        rw [ha, hr] at h
        cases h
        refine ⟨?_, ?_⟩
        · simp only [fmtP]; rw [(numS_some ha).2, (numS_some hr).2]; rfl
        · intro hm
          rcases List.mem_append.1 hm with hm | hm
          · exact num_sign ha (.inr rfl) hm
          · rcases List.mem_cons.1 hm with hm | hm
            · revert hm; decide
            · exact num_sign hr (.inr rfl) hm
theorem small_len {n : Int} (h : -1000 ≤ n ∧ n ≤ 1000) : (itoaS n).length ≤ 5 := by
  have pos : ∀ m : Int, 0 ≤ m → m ≤ 1000 → (itoaS m).length ≤ 4 := fun m h0 h1 => by
    rcases Int.lt_or_le m 10 with a | a
    · rw [itoa_dig h0 a]; simp
    · rw [itoa_ten a, List.length_append]
      rcases Int.lt_or_le (m / 10) 10 with b | b
      · rw [itoa_dig (by omega) b]; simp
      · rw [itoa_ten b, List.length_append]
        rcases Int.lt_or_le (m / 10 / 10) 10 with c | c
        · rw [itoa_dig (by omega) c]; simp
        · rw [itoa_ten c, List.length_append, itoa_dig (by omega) (by omega)]; simp
  by_cases hn : n < 0
  · rw [itoa_min hn, List.length_cons]; have := pos (-n) (by omega) (by omega); omega
  · have := pos n (by omega) (by omega); omega
theorem pairS_fmt {p : PairT} (h : small p) : pairS (fmtP p) = some p := by
  have hk := numS_yes (small_len (n := p.key) (by have := h.1; omega)) rfl
  have hv := numS_yes (small_len (n := p.val) h.2) rfl
  unfold fmtP
  rw [show ([58] ++ itoaS p.val : Str) = 58 :: itoaS p.val from rfl, pairS_cut (num_sign hk (.inl rfl)), hk, hv]
def partsS : List Str → Option (List PairT)
  | [] => some []
  | s :: ss => match pairS s with
    | none => none
    | some p => (partsS ss).map (p :: ·)
def rowS (s : Str) : Option (List PairT) := if s = [] then some [] else match partsS (splS 44 s) with
  | none => none
  | some l => if validR l then some l else none
theorem parts_take {ss : List Str} {k : Nat} {L : List PairT} (h : partsS (ss.take k) = some L) (hk : k < ss.length) {p : PairT} (hp : pairS ss[k] = some p) : partsS (ss.take (k + 1)) = some (L ++ [p]) := by
  induction ss generalizing k L with
  | nil => simp at hk
  | cons s ss ih =>
    cases k with
    | zero =>
      simp only [List.take_zero, partsS, Option.some.injEq] at h
      subst h
      simp only [List.getElem_cons_zero] at hp
      simp [partsS, hp]
    | succ k =>
      simp only [List.take_succ_cons, partsS] at h ⊢
      cases hs : pairS s with
      | none => rw [hs] at h; cases h
      | some q =>
        rw [hs] at h
        obtain ⟨L', hL, rfl⟩ := Option.map_eq_some_iff.1 h
        simp only [ih hL (by simpa using hk) (by simpa using hp), Option.map_some, List.cons_append]
theorem parts_bad {ss : List Str} {k : Nat} (hk : k < ss.length) (hp : pairS ss[k] = none) : partsS ss = none := by
  induction ss generalizing k with
  | nil => simp at hk
  | cons s ss ih =>
    cases k with
    | zero => simp only [List.getElem_cons_zero] at hp; simp [partsS, hp]
    | succ k =>
      have := ih (k := k) (by simpa using hk) (by simpa using hp)
      simp only [partsS, this]
      cases pairS s <;> rfl
theorem splS_join {c : UInt8} : ∀ (n : Nat) (s : Str), s.length ≤ n → ∃ p ps, splS c s = p :: ps ∧ s = p ++ ps.flatMap fun x => c :: x := by
  intro n
  induction n with
  | zero => intro s hs; have : s = [] := List.eq_nil_of_length_eq_zero (by omega); subst this; exact ⟨[], [], rfl, rfl⟩
  | succ n ih =>
    intro s hs
    rcases index_two (c := c) (s := s) with h | ⟨i, h⟩
    · exact ⟨s, [], splS_none (no_byte h), by simp⟩
    · obtain ⟨a, r, e, _, _, hn⟩ := split_byte h
      obtain ⟨p, ps, h1, h2⟩ := ih r (by have := congrArg List.length e; simp at this; omega)
      exact ⟨a, p :: ps, by rw [e, splS_hit hn, h1], by rw [e, h2]; simp⟩
theorem parts_fmt : ∀ {ss : List Str} {l : List PairT}, partsS ss = some l → ss = l.map fmtP
  | [], l, h => by simp only [partsS, Option.some.injEq] at h; subst h; rfl
  | s :: ss, l, h => by
    simp only [partsS] at h
    cases hs : pairS s with
    | none => rw [hs] at h; cases h
    | some p =>
      rw [hs] at h
      obtain ⟨L', hL, rfl⟩ := Option.map_eq_some_iff.1 h
      rw [parts_fmt hL, List.map_cons, (pairS_some hs).1]
theorem row_canon {s : Str} {l : List PairT} (h : rowS s = some l) : fmtR l = s ∧ validR l = true := by
  unfold rowS at h
  split at h
  · rename_i hs; cases h; subst hs; exact ⟨rfl, by decide⟩
  · cases hp : partsS (splS 44 s) with
    | none => rw [hp] at h; cases h
    | some L =>
      rw [hp] at h
      simp only at h
      split at h
      · rename_i hv
        cases h
        refine ⟨?_, hv⟩
        obtain ⟨p, ps, h1, h2⟩ := splS_join (c := 44) s.length s (Nat.le_refl _)
        have h3 := parts_fmt hp
        rw [h1] at h3
        cases l with
        | nil => simp at h3
        | cons x l =>
          simp only [List.map_cons, List.cons.injEq] at h3
          rw [fmtR_yes hv, h2, h3.1, h3.2]
          simp [fmtL, List.flatMap_map]
      · cases h
theorem fmtP_44 {p : PairT} (h : small p) : (44 : UInt8) ∉ fmtP p := (pairS_some (pairS_fmt h)).2
theorem spl_fmt : ∀ {l : List PairT} {x : PairT}, (∀ p ∈ x :: l, small p) → splS 44 (fmtL (x :: l)) = (x :: l).map fmtP
  | [], x, h => by simp [fmtL, splS_none (fmtP_44 (h x (by simp)))]
  | y :: l, x, h => by
    have ih := spl_fmt (l := l) (x := y) fun p hp => h p (by simp only [List.mem_cons] at hp ⊢; exact .inr hp)
    have e : fmtL (x :: y :: l) = fmtP x ++ 44 :: fmtL (y :: l) := by simp [fmtL]
    rw [e, splS_hit (fmtP_44 (h x (by simp))), ih]; rfl
theorem parts_map : ∀ {l : List PairT}, (∀ p ∈ l, small p) → partsS (l.map fmtP) = some l
  | [], _ => rfl
  | x :: l, h => by
    have ih := parts_map (l := l) fun p hp => h p (List.mem_cons_of_mem _ hp)
    simp only [List.map_cons, partsS, pairS_fmt (h x (by simp)), ih, Option.map_some]
theorem fmtL_ne {l : List PairT} (h : l ≠ []) : fmtL l ≠ [] := by
  cases l with
  | nil => exact absurd rfl h
  | cons x l => simp [fmtL, fmtP]
theorem row_round {l : List PairT} (hv : validR l = true) : rowS (fmtR l) = some l := by
  rw [fmtR_yes hv]
  unfold rowS
  cases l with
  | nil => rfl
  | cons x l =>
    have hs := valid_small hv
    rw [if_neg (fmtL_ne (by simp)), spl_fmt hs, parts_map hs]
    simp [hv]
end Go.Px
