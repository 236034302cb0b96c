/- Own layer: part of this seat (V1). Plain theorems; no conditions. -/
import Derived.Test.YtfdlmimgooeioaaDoorV0
import Derived.Test.YtfdlmimgooeioaaDoorT0
set_option linter.unusedVariables false
set_option linter.unusedSimpArgs false
/-! validity of trees: step by step; texts of trees -/
namespace Go.Px
def SzT (T : TreeL) : Prop := T.l.length ≤ 1048576 ∧ ∀ x ∈ T.l, x.k.l.length ≤ 1048576 ∧ x.c.l.length ≤ 1048576 ∧ x.v.l.length ≤ 1048576
theorem SzT.at {T : TreeL} (h : SzT T) {j : Nat} (hj : j < T.l.length) : T.l[j].k.l.length ≤ 1048576 ∧ T.l[j].c.l.length ≤ 1048576 ∧ T.l[j].v.l.length ≤ 1048576 := h.2 _ (List.getElem_mem hj)
section
variable {T : TrT} {n : Nat} {i low high : Int} {s : List Int} {ld : Int}
theorem vis_no1 (h : inT T i = false ∨ i ∈ s) : visT T (n + 1) i low high s ld = none := by
  simp only [visT]; rw [if_pos]; rcases h with h | h <;> simp [h]
theorem vis_no2 (h : frB T i = false ∨ keysIn (gP T i) low high = false) : visT T (n + 1) i low high s ld = none := by
  simp only [visT]; split
  · rfl
  · rw [if_pos]; rcases h with h | h <;> simp [h]
theorem vis_leaf (h1 : inT T i = true) (h2 : i ∉ s) (h3 : frB T i = true) (h4 : keysIn (gP T i) low high = true) (h5 : (gP T i).kids = []) :
    visT T (n + 1) i low high s ld = if ld < 0 ∨ ld = 2 - (n : Int) then some (s ++ [i], 2 - (n : Int)) else none := by
  simp only [visT]; rw [if_neg (by simp [h1, h2]), if_neg (by simp [h3, h4]), if_pos h5]
theorem vis_in (h1 : inT T i = true) (h2 : i ∉ s) (h3 : frB T i = true) (h4 : keysIn (gP T i) low high = true) (h5 : (gP T i).kids ≠ []) :
    visT T (n + 1) i low high s ld = visK (fun k x s l => visT T n x (lowK (gP T i) low k) (highK (gP T i) high k) s l) 0 (gP T i).kids (s ++ [i]) ld := by
  simp only [visT]; rw [if_neg (by simp [h1, h2]), if_neg (by simp [h3, h4]), if_neg h5]
end
theorem visK_no {f : Nat → Int → List Int → Int → Option (List Int × Int)} {l : List Int} {k : Nat} {s : List Int} {d : Int} (hk : k < l.length) (h : f k l[k] s d = none) : visK f k (l.drop k) s d = none := by
  rw [List.drop_eq_getElem_cons hk]; simp only [visK, h]
theorem visK_ok {f : Nat → Int → List Int → Int → Option (List Int × Int)} {l : List Int} {k : Nat} {s s2 : List Int} {d d2 : Int} (hk : k < l.length) (h : f k l[k] s d = some (s2, d2)) : visK f k (l.drop k) s d = visK f (k + 1) (l.drop (k + 1)) s2 d2 := by
  rw [List.drop_eq_getElem_cons hk]; simp only [visK, h]
theorem visK_end {f : Nat → Int → List Int → Int → Option (List Int × Int)} {l : List Int} {k : Nat} {s : List Int} {d : Int} (hk : l.length ≤ k) : visK f k (l.drop k) s d = some (s, d) := by
  rw [List.drop_eq_nil_of_le hk]; rfl
theorem lowK_zero {p : PgT} {low : Int} {k : Nat} (h : k = 0) : lowK p low k = low := by simp [lowK, h]
theorem lowK_pos {p : PgT} {low : Int} {k : Nat} (h : k ≠ 0) (hk : k - 1 < p.keys.length) : lowK p low k = p.keys[k - 1] := by
  simp only [lowK, if_neg h]; rw [List.getD_eq_getElem?_getD, List.getElem?_eq_getElem hk, Option.getD_some]
theorem highK_end {p : PgT} {high : Int} {k : Nat} (h : ¬ k < p.keys.length) : highK p high k = high := by simp [highK, h]
theorem highK_in {p : PgT} {high : Int} {k : Nat} (hk : k < p.keys.length) : highK p high k = p.keys[k] := by
  simp only [highK, if_pos hk]; rw [List.getD_eq_getElem?_getD, List.getElem?_eq_getElem hk, Option.getD_some]
theorem getD_in {l : List Int} {k : Nat} (hk : k < l.length) : l.getD k 0 = l[k] := by
  rw [List.getD_eq_getElem?_getD, List.getElem?_eq_getElem hk, Option.getD_some]
/-! a page by itself -/
def frL (root i : Int) (p : PgT) : Bool :=
  decide (p.keys.length ≤ 4) && validK p.keys && (decide (i = root) || decide (2 ≤ p.keys.length)) &&
    (if p.kids = [] then decide (p.vals.length = p.keys.length) && p.vals.all isValB
     else decide (p.vals = []) && decide (1 ≤ p.keys.length) && decide (p.kids.length = p.keys.length + 1))
theorem frB_L {T : TrT} {i : Int} : frB T i = frL T.root i (gP T i) := rfl
theorem fr_len {T : TrT} {i : Int} (h : frB T i = true) : (gP T i).keys.length ≤ 4 := by
  simp only [frB, Bool.and_eq_true, decide_eq_true_eq] at h; exact h.1.1.1
theorem fr_keys {T : TrT} {i : Int} (h : frB T i = true) : validK (gP T i).keys = true := by
  simp only [frB, Bool.and_eq_true, decide_eq_true_eq] at h; exact h.1.1.2
theorem fr_leaf {T : TrT} {i : Int} (h : frB T i = true) (hk : (gP T i).kids = []) : (gP T i).vals.length = (gP T i).keys.length ∧ (gP T i).vals.all isValB = true := by
  simp only [frB, Bool.and_eq_true, decide_eq_true_eq, if_pos hk] at h; exact h.2
theorem fr_in {T : TrT} {i : Int} (h : frB T i = true) (hk : (gP T i).kids ≠ []) : 1 ≤ (gP T i).keys.length ∧ (gP T i).kids.length = (gP T i).keys.length + 1 := by
  simp only [frB, Bool.and_eq_true, decide_eq_true_eq, if_neg hk] at h; exact ⟨h.2.1.2, h.2.2⟩
/-! the height -/
theorem hgt_go {T : TrT} {f : Nat} {i : Int} (h1 : inT T i = true) (h2 : (gP T i).kids ≠ []) : hgt T (f + 1) i = 1 + hgt T f ((gP T i).kids.getD 0 0) := by
  simp only [hgt]; rw [if_pos ⟨h1, h2⟩]
theorem hgt_stop {T : TrT} {f : Nat} {i : Int} (h : inT T i = false ∨ (gP T i).kids = []) : hgt T f i = 0 := by
  cases f with
  | zero => rfl
  | succ f => simp only [hgt]; rw [if_neg]; rintro ⟨a, b⟩; rcases h with h | h <;> simp_all
theorem height_1 {T : TrT} : 1 ≤ heightT T := by unfold heightT; omega
/-! the reference's fit -/
def fitL (T : TrT) (d : Nat) (i low hi : Int) (p : PgT) : Bool :=
  validK p.keys && decide (p.keys.length ≤ 4) && allIn p.keys low hi && (decide (i = T.root) || decide (2 ≤ p.keys.length)) &&
    (if d = 0 then decide (p.kids = []) && decide (p.vals.length = p.keys.length) && allIn p.vals (-1000) 1000
     else decide (p.keys ≠ []) && decide (p.vals = []) && decide (p.kids.length = p.keys.length + 1) && allIn p.kids 0 ((T.pages.length : Int) - 1) &&
       (List.range p.kids.length).all fun k => fitS T d (p.kids.getD k 0) (lowK p low k) (highK p (hi + 1) k - 1))
theorem fit_L {T : TrT} {d : Nat} {i low hi : Int} : fitS T (d + 1) i low hi = fitL T d i low hi (gP T i) := rfl
theorem range_all {p : Nat → Bool} {k : Nat} (h : (List.range k).all p = true) (hk : p k = true) : (List.range (k + 1)).all p = true := by
  rw [List.range_succ, List.all_append, h]; simp [hk]
theorem range_bad {p : Nat → Bool} {k n : Nat} (hn : k < n) (hk : p k = false) : (List.range n).all p = false := by
  rw [List.all_eq_false]; exact ⟨k, List.mem_range.2 hn, by simp [hk]⟩
theorem allIn_get {l : List Int} {a b : Int} (h : allIn l a b = true) {k : Nat} (hk : k < l.length) : a ≤ l[k] ∧ l[k] ≤ b := by
  have := List.all_eq_true.1 h _ (List.getElem_mem hk)
  simpa using this
/-! the walk -/
theorem sub_len {T : TrT} : ∀ {d : Nat} {i low high : Int}, okB T d i low high = true → (subT T d i).length ≤ 6 ^ d
  | 0, _, _, _, _ => by simp [subT]
  | d + 1, i, low, high, h => by
    have h1 := (okB_iff.1 h)
    simp only [subT, List.length_cons]
    rcases h1.2.2.2 with ⟨_, h2⟩ | ⟨h0, h2, h3⟩
    · rw [h2]; simp [Nat.pow_succ]; have := (Nat.pow_pos (by omega) : 0 < 6 ^ d); omega
    · have hk := fr_in h1.2.1 h2
      have hl := fr_len h1.2.1
      have : ∀ (l : List Int), (∀ x ∈ l, (subT T d x).length ≤ 6 ^ d) → (l.flatMap (subT T d)).length ≤ l.length * 6 ^ d := by
        intro l hl
        induction l with
        | nil => simp
        | cons x l ih =>
          have a := hl x (by simp)
          have b := ih fun y hy => hl y (by simp [hy])
          simp only [List.flatMap_cons, List.length_append, List.length_cons, Nat.add_mul]; omega
      have h4 := this (gP T i).kids (fun x hx => by
        obtain ⟨k, hk, rfl⟩ := List.getElem_of_mem hx
        have := h3 k hk
        rw [getD_in hk] at this
        exact sub_len this)
      have h5 : (gP T i).kids.length * 6 ^ d ≤ 5 * 6 ^ d := Nat.mul_le_mul_right _ (by omega)
      have := (Nat.pow_pos (by omega) : 0 < 6 ^ d)
      rw [Nat.pow_succ]; omega
theorem sub_len3 {T : TrT} {d : Nat} {i low high : Int} (h : okB T d i low high = true) (hd : d ≤ 3) : (subT T d i).length ≤ 216 := by
  refine Nat.le_trans (sub_len h) ?_
  have : 6 ^ d ≤ 6 ^ 3 := Nat.pow_le_pow_right (by omega) hd
  omega
theorem ok_kid {T : TrT} {d : Nat} {i low high : Int} (h : okB T (d + 1) i low high = true) {k : Nat} (hk : k < (gP T i).kids.length) : okB T d (gP T i).kids[k] (lowK (gP T i) low k) (highK (gP T i) high k) = true := by
  rcases (okB_iff.1 h).2.2.2 with ⟨_, h2⟩ | ⟨_, _, h3⟩
  · rw [h2] at hk; simp at hk
  · have := h3 k hk; rwa [getD_in hk] at this
theorem flat_snoc {f : Int → List Int} {l : List Int} {k : Nat} (h : k < l.length) : (l.take k).flatMap f ++ f l[k] = (l.take (k + 1)).flatMap f := by
  rw [take_snoc h, List.flatMap_append]; simp
theorem nodup_step {l : List Int} {k : Nat} (hk : k < l.length) (h : (l.take k).Nodup) (hn : l[k] ∉ l.take k) : (l.take (k + 1)).Nodup := by
  rw [take_snoc hk]
  exact List.nodup_append.2 ⟨h, by simp, fun a ha b hb e => by rw [List.mem_singleton] at hb; subst hb e; exact hn ha⟩
theorem nodup_bad {l : List Int} {k : Nat} (hk : k < l.length) (hn : l[k] ∈ l.take k) : ¬ l.Nodup := by
  intro h
  have h1 : l = l.take k ++ l[k] :: l.drop (k + 1) := by rw [← List.drop_eq_getElem_cons hk, List.take_append_drop]
  rw [h1] at h
  exact (List.nodup_append.1 h).2.2 _ hn _ List.mem_cons_self rfl
/-! texts -/
def prsP (p : PgT) : List PairT := (List.range p.keys.length).map fun k => ⟨p.keys.getD k 0, p.vals.getD k 0⟩
def kidsX (f : Int → Str) (keys : List Int) : Nat → List Int → Str
  | _, [] => []
  | k, x :: l => (if k = 0 then [] else 32 :: (itoaS (keys.getD (k - 1) 0) ++ [32])) ++ (f x ++ kidsX f keys (k + 1) l)
def textT (T : TrT) : Nat → Int → Str
  | 0, _ => []
  | d + 1, i => if (gP T i).kids = [] then fmtL (prsP (gP T i)) else 40 :: (kidsX (textT T d) (gP T i).keys 0 (gP T i).kids ++ [41])
theorem kidsX_app {f : Int → Str} {ks : List Int} : ∀ {k : Nat} {a b : List Int}, kidsX f ks k (a ++ b) = kidsX f ks k a ++ kidsX f ks (k + a.length) b
  | k, [], b => by simp [kidsX]
  | k, x :: a, b => by
    simp only [List.cons_append, kidsX, List.length_cons]
    rw [kidsX_app, show k + 1 + a.length = k + (a.length + 1) by omega]; simp
theorem kidsX_take {f : Int → Str} {ks l : List Int} {k : Nat} (h : k < l.length) : kidsX f ks 0 (l.take (k + 1)) = kidsX f ks 0 (l.take k) ++ ((if k = 0 then [] else 32 :: (itoaS (ks.getD (k - 1) 0) ++ [32])) ++ f l[k]) := by
  rw [take_snoc h, kidsX_app, Nat.zero_add, List.length_take, Nat.min_eq_left (by omega)]
  simp [kidsX]
def fmtI : List Int → Str
  | [] => []
  | x :: l => itoaS x ++ l.flatMap fun y => 44 :: itoaS y
theorem fmtI_snoc {a : List Int} {x : Int} : fmtI (a ++ [x]) = fmtI a ++ ((if a = [] then [] else [44]) ++ itoaS x) := by
  cases a with
  | nil => simp [fmtI]
  | cons y a => simp [fmtI]
theorem fmtI_take {l : List Int} {k : Nat} (h : k < l.length) : fmtI (l.take (k + 1)) = fmtI (l.take k) ++ ((if k = 0 then [] else [44]) ++ itoaS l[k]) := by
  rw [take_snoc h, fmtI_snoc]
  congr 2
  by_cases hk : k = 0
  · subst hk; simp
  · rw [if_neg hk, if_neg]
    intro e
    have := congrArg List.length e
    rw [List.length_take, List.length_nil] at this; omega
theorem fmtI_len {l : List Int} (hs : ∀ x ∈ l, -9223372036854775808 ≤ x ∧ x ≤ 9223372036854775807) : ∀ (k : Nat), k ≤ l.length → (fmtI (l.take k)).length ≤ 22 * k
  | 0, _ => by simp [fmtI]
  | k + 1, hk => by
    rw [fmtI_take (by omega)]
    have h1 := fmtI_len hs k (by omega)
    have h2 := hs _ (List.getElem_mem (show k < l.length by omega))
    have h3 := itoa_len h2.1 h2.2
    have h4 : (if k = 0 then ([] : Str) else [44]).length ≤ 1 := by split <;> simp
    simp only [List.length_append]; omega
end Go.Px
