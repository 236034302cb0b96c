/- Own layer, part 2: plain theorems on the walk of this program's functions and on what they compute; no conditions. -/
import Derived.Test.YtemejgglbhjodaaDoorP0
import Derived.Shelf.Strconv.Itoa3
import Derived.Lib.Builder
import Derived.Laws.Externs
set_option linter.unusedVariables false
set_option linter.unusedSimpArgs false
section
namespace Go.Px
def SzT (T : TreeL) : Prop := T.l.length ≤ 1048576 ∧ ∀ x ∈ T.l, x.k.l.length ≤ 1048576 ∧ x.c.l.length ≤ 1048576 ∧ x.v.l.length ≤ 1048576
theorem SzT.at {T : TreeL} (h : SzT T) {j : Nat} (hj : j < T.l.length) : T.l[j].k.l.length ≤ 1048576 ∧ T.l[j].c.l.length ≤ 1048576 ∧ T.l[j].v.l.length ≤ 1048576 := h.2 _ (List.getElem_mem hj)
section
variable {T : TrT} {n : Nat} {i low high : Int} {s : List Int} {ld : Int}
theorem vis_no1 (h : inT T i = false ∨ i ∈ s) : visT T (n + 1) i low high s ld = none := by
  simp only [visT]; rw [if_pos]; rcases h with h | h <;> simp [h]
theorem vis_no2 (h : frB T i = false ∨ keysIn (gP T i) low high = false) : visT T (n + 1) i low high s ld = none := by
  simp only [visT]; split
  · rfl
  rw [if_pos]; rcases h with h | h <;> simp [h]
theorem vis_leaf (h1 : inT T i = true) (h2 : i ∉ s) (h3 : frB T i = true) (h4 : keysIn (gP T i) low high = true) (h5 : (gP T i).kids = []) :
    visT T (n + 1) i low high s ld = if ld < 0 ∨ ld = 2 - (n : Int) then some (s ++ [i], 2 - (n : Int)) else none := by
  simp only [visT]; rw [if_neg (by simp [h1, h2]), if_neg (by simp [h3, h4]), if_pos h5]
theorem vis_in (h1 : inT T i = true) (h2 : i ∉ s) (h3 : frB T i = true) (h4 : keysIn (gP T i) low high = true) (h5 : (gP T i).kids ≠ []) :
    visT T (n + 1) i low high s ld = visK (fun k x s l => visT T n x (lowK (gP T i) low k) (highK (gP T i) high k) s l) 0 (gP T i).kids (s ++ [i]) ld := by
  simp only [visT]; rw [if_neg (by simp [h1, h2]), if_neg (by simp [h3, h4]), if_neg h5]
end
theorem visK_no {f : Nat → Int → List Int → Int → Option (List Int × Int)} {l : List Int} {k : Nat} {s : List Int} {d : Int} (hk : k < l.length) (h : f k l[k] s d = none) : visK f k (l.drop k) s d = none := by
  rw [List.drop_eq_getElem_cons hk]; simp only [visK, h]
theorem visK_ok {f : Nat → Int → List Int → Int → Option (List Int × Int)} {l : List Int} {k : Nat} {s s2 : List Int} {d d2 : Int} (hk : k < l.length) (h : f k l[k] s d = some (s2, d2)) : visK f k (l.drop k) s d = visK f (k + 1) (l.drop (k + 1)) s2 d2 := by
  rw [List.drop_eq_getElem_cons hk]; simp only [visK, h]
theorem visK_end {f : Nat → Int → List Int → Int → Option (List Int × Int)} {l : List Int} {k : Nat} {s : List Int} {d : Int} (hk : l.length ≤ k) : visK f k (l.drop k) s d = some (s, d) := by
  rw [List.drop_eq_nil_of_le hk]; rfl
theorem lowK_zero {p : PgT} {low : Int} {k : Nat} (h : k = 0) : lowK p low k = low := by simp [lowK, h]
theorem lowK_pos {p : PgT} {low : Int} {k : Nat} (h : k ≠ 0) (hk : k - 1 < p.keys.length) : lowK p low k = p.keys[k - 1] := by
  simp only [lowK, if_neg h]; rw [List.getD_eq_getElem?_getD, List.getElem?_eq_getElem hk, Option.getD_some]
theorem highK_end {p : PgT} {high : Int} {k : Nat} (h : ¬ k < p.keys.length) : highK p high k = high := by simp [highK, h]
theorem highK_in {p : PgT} {high : Int} {k : Nat} (hk : k < p.keys.length) : highK p high k = p.keys[k] := by
  simp only [highK, if_pos hk]; rw [List.getD_eq_getElem?_getD, List.getElem?_eq_getElem hk, Option.getD_some]
theorem getD_in {l : List Int} {k : Nat} (hk : k < l.length) : l.getD k 0 = l[k] := by
  rw [List.getD_eq_getElem?_getD, List.getElem?_eq_getElem hk, Option.getD_some]
def frL (root i : Int) (p : PgT) : Bool :=
  decide (p.keys.length ≤ 4) && validK p.keys && (decide (i = root) || decide (2 ≤ p.keys.length)) &&
    (if p.kids = [] then decide (p.vals.length = p.keys.length) && p.vals.all isValB
     else decide (p.vals = []) && decide (1 ≤ p.keys.length) && decide (p.kids.length = p.keys.length + 1))
theorem frB_L {T : TrT} {i : Int} : frB T i = frL T.root i (gP T i) := rfl
theorem fr_len {T : TrT} {i : Int} (h : frB T i = true) : (gP T i).keys.length ≤ 4 := by
  simp only [frB, Bool.and_eq_true, decide_eq_true_eq] at h; exact h.1.1.1
theorem fr_keys {T : TrT} {i : Int} (h : frB T i = true) : validK (gP T i).keys = true := by
  simp only [frB, Bool.and_eq_true, decide_eq_true_eq] at h; exact h.1.1.2
theorem fr_leaf {T : TrT} {i : Int} (h : frB T i = true) (hk : (gP T i).kids = []) : (gP T i).vals.length = (gP T i).keys.length ∧ (gP T i).vals.all isValB = true := by
  simp only [frB, Bool.and_eq_true, decide_eq_true_eq, if_pos hk] at h; exact h.2
theorem fr_in {T : TrT} {i : Int} (h : frB T i = true) (hk : (gP T i).kids ≠ []) : 1 ≤ (gP T i).keys.length ∧ (gP T i).kids.length = (gP T i).keys.length + 1 := by
  simp only [frB, Bool.and_eq_true, decide_eq_true_eq, if_neg hk] at h; exact ⟨h.2.1.2, h.2.2⟩
theorem hgt_go {T : TrT} {f : Nat} {i : Int} (h1 : inT T i = true) (h2 : (gP T i).kids ≠ []) : hgt T (f + 1) i = 1 + hgt T f ((gP T i).kids.getD 0 0) := by
  simp only [hgt]; rw [if_pos ⟨h1, h2⟩]
theorem hgt_stop {T : TrT} {f : Nat} {i : Int} (h : inT T i = false ∨ (gP T i).kids = []) : hgt T f i = 0 := by
  cases f with
  | zero => rfl
  | succ f => simp only [hgt]; rw [if_neg]; rintro ⟨a, b⟩; rcases h with h | h <;> simp_all
theorem height_1 {T : TrT} : 1 ≤ heightT T := by unfold heightT; omega
def fitL (T : TrT) (d : Nat) (i low hi : Int) (p : PgT) : Bool :=
  validK p.keys && decide (p.keys.length ≤ 4) && allIn p.keys low hi && (decide (i = T.root) || decide (2 ≤ p.keys.length)) &&
    (if d = 0 then decide (p.kids = []) && decide (p.vals.length = p.keys.length) && allIn p.vals (-1000) 1000
     else decide (p.keys ≠ []) && decide (p.vals = []) && decide (p.kids.length = p.keys.length + 1) && allIn p.kids 0 ((T.pages.length : Int) - 1) &&
       (List.range p.kids.length).all fun k => fitS T d (p.kids.getD k 0) (lowK p low k) (highK p (hi + 1) k - 1))
theorem fit_L {T : TrT} {d : Nat} {i low hi : Int} : fitS T (d + 1) i low hi = fitL T d i low hi (gP T i) := rfl
theorem range_all {p : Nat → Bool} {k : Nat} (h : (List.range k).all p = true) (hk : p k = true) : (List.range (k + 1)).all p = true := by
  rw [List.range_succ, List.all_append, h]; simp [hk]
theorem range_bad {p : Nat → Bool} {k n : Nat} (hn : k < n) (hk : p k = false) : (List.range n).all p = false := by
  rw [List.all_eq_false]; exact ⟨k, List.mem_range.2 hn, by simp [hk]⟩
theorem allIn_get {l : List Int} {a b : Int} (h : allIn l a b = true) {k : Nat} (hk : k < l.length) : a ≤ l[k] ∧ l[k] ≤ b := by
  have := List.all_eq_true.1 h _ (List.getElem_mem hk)
  simpa using this
theorem sub_len {T : TrT} : ∀ {d : Nat} {i low high : Int}, okB T d i low high = true → (subT T d i).length ≤ 6 ^ d
  | 0, _, _, _, _ => by simp [subT]
  | d + 1, i, low, high, h => by
    have h1 := (okB_iff.1 h)
    simp only [subT, List.length_cons]
    rcases h1.2.2.2 with ⟨_, h2⟩ | ⟨h0, h2, h3⟩
    · rw [h2]; simp [Nat.pow_succ]; have := (Nat.pow_pos (by omega) : 0 < 6 ^ d); omega
    have hk := fr_in h1.2.1 h2
    have hl := fr_len h1.2.1
    have : ∀ (l : List Int), (∀ x ∈ l, (subT T d x).length ≤ 6 ^ d) → (l.flatMap (subT T d)).length ≤ l.length * 6 ^ d := by
      intro l hl
      induction l with
      | nil => simp
      | cons x l ih =>
        have a := hl x (by simp)
        have b := ih fun y hy => hl y (by simp [hy])
        simp only [List.flatMap_cons, List.length_append, List.length_cons, Nat.add_mul]; omega
    have h4 := this (gP T i).kids (fun x hx => by
      obtain ⟨k, hk, rfl⟩ := List.getElem_of_mem hx
      have := h3 k hk
      rw [getD_in hk] at this
      exact sub_len this)
    have h5 : (gP T i).kids.length * 6 ^ d ≤ 5 * 6 ^ d := Nat.mul_le_mul_right _ (by omega)
    have := (Nat.pow_pos (by omega) : 0 < 6 ^ d)
    rw [Nat.pow_succ]; omega
theorem sub_len3 {T : TrT} {d : Nat} {i low high : Int} (h : okB T d i low high = true) (hd : d ≤ 3) : (subT T d i).length ≤ 216 := by
  refine Nat.le_trans (sub_len h) ?_
  have : 6 ^ d ≤ 6 ^ 3 := Nat.pow_le_pow_right (by omega) hd
  omega
theorem ok_kid {T : TrT} {d : Nat} {i low high : Int} (h : okB T (d + 1) i low high = true) {k : Nat} (hk : k < (gP T i).kids.length) : okB T d (gP T i).kids[k] (lowK (gP T i) low k) (highK (gP T i) high k) = true := by
  rcases (okB_iff.1 h).2.2.2 with ⟨_, h2⟩ | ⟨_, _, h3⟩
  · rw [h2] at hk; simp at hk
  have := h3 k hk; rwa [getD_in hk] at this
theorem flat_snoc {f : Int → List Int} {l : List Int} {k : Nat} (h : k < l.length) : (l.take k).flatMap f ++ f l[k] = (l.take (k + 1)).flatMap f := by
  rw [take_snoc h, List.flatMap_append]; simp
theorem nodup_step {l : List Int} {k : Nat} (hk : k < l.length) (h : (l.take k).Nodup) (hn : l[k] ∉ l.take k) : (l.take (k + 1)).Nodup := by
  rw [take_snoc hk]
  exact List.nodup_append.2 ⟨h, by simp, fun a ha b hb e => by rw [List.mem_singleton] at hb; subst hb e; exact hn ha⟩
theorem nodup_bad {l : List Int} {k : Nat} (hk : k < l.length) (hn : l[k] ∈ l.take k) : ¬ l.Nodup := by
  intro h
  have h1 : l = l.take k ++ l[k] :: l.drop (k + 1) := by rw [← List.drop_eq_getElem_cons hk, List.take_append_drop]
  rw [h1] at h
  exact (List.nodup_append.1 h).2.2 _ hn _ List.mem_cons_self rfl
def prsP (p : PgT) : List PairT := (List.range p.keys.length).map fun k => ⟨p.keys.getD k 0, p.vals.getD k 0⟩
def kidsX (f : Int → Str) (keys : List Int) : Nat → List Int → Str
  | _, [] => []
  | k, x :: l => (if k = 0 then [] else 32 :: (itoaS (keys.getD (k - 1) 0) ++ [32])) ++ (f x ++ kidsX f keys (k + 1) l)
def textT (T : TrT) : Nat → Int → Str
  | 0, _ => []
  | d + 1, i => if (gP T i).kids = [] then fmtL (prsP (gP T i)) else 40 :: (kidsX (textT T d) (gP T i).keys 0 (gP T i).kids ++ [41])
theorem kidsX_app {f : Int → Str} {ks : List Int} : ∀ {k : Nat} {a b : List Int}, kidsX f ks k (a ++ b) = kidsX f ks k a ++ kidsX f ks (k + a.length) b
  | k, [], b => by simp [kidsX]
  | k, x :: a, b => by
    simp only [List.cons_append, kidsX, List.length_cons]
    rw [kidsX_app, show k + 1 + a.length = k + (a.length + 1) by omega]; simp
theorem kidsX_take {f : Int → Str} {ks l : List Int} {k : Nat} (h : k < l.length) : kidsX f ks 0 (l.take (k + 1)) = kidsX f ks 0 (l.take k) ++ ((if k = 0 then [] else 32 :: (itoaS (ks.getD (k - 1) 0) ++ [32])) ++ f l[k]) := by
  rw [take_snoc h, kidsX_app, Nat.zero_add, List.length_take, Nat.min_eq_left (by omega)]
  simp [kidsX]
end Go.Px
end
section
namespace Go.Px
theorem validK_bd {l : List Int} (h : validK l = true) {k : Nat} (hk : k < l.length) : 0 ≤ l[k] ∧ l[k] ≤ 99 := by
  have h1 := (validK_iff.1 h).1 _ (List.getElem_mem hk)
  first | exact h1 | exact isKey_iff.1 h1
theorem flat_le {f : Int → List Int} {l : List Int} {k : Nat} (h : k < l.length) : ((l.take (k + 1)).flatMap f).length ≤ (l.flatMap f).length := by
  conv => rhs; rw [← List.take_append_drop (k + 1) l, List.flatMap_append, List.length_append]
  omega
section
variable {root i : Int} {p : PgT} {low high : Int}
theorem fr_n1 (h : ¬ p.keys.length ≤ 4) : frL root i p = false := by simp [frL, h]
theorem fr_n2 (h : validK p.keys = false) : frL root i p = false := by simp [frL, h]
theorem fr_n3 (h : i ≠ root) (h2 : ¬ 2 ≤ p.keys.length) : frL root i p = false := by simp [frL, h, h2]
theorem fr_y (h1 : p.keys.length ≤ 4) (h2 : validK p.keys = true) (h3 : i = root ∨ 2 ≤ p.keys.length) :
    frL root i p = (if p.kids = [] then decide (p.vals.length = p.keys.length) && p.vals.all isValB
     else decide (p.vals = []) && decide (1 ≤ p.keys.length) && decide (p.kids.length = p.keys.length + 1)) := by
  rcases h3 with h3 | h3 <;> simp [frL, h1, h2, h3]
theorem fr_yi (h1 : p.keys.length ≤ 4) (h2 : validK p.keys = true) (h3 : i = root ∨ 2 ≤ p.keys.length) (h4 : 0 < p.kids.length) :
    frL root i p = (decide (p.vals.length = 0) && decide (1 ≤ p.keys.length) && decide (p.kids.length = p.keys.length + 1)) := by
  rw [fr_y h1 h2 h3, if_neg (by intro e; rw [e] at h4; simp at h4)]
  congr 2; exact decide_eq_decide.2 List.length_eq_zero_iff.symm
theorem fr_yl (h1 : p.keys.length ≤ 4) (h2 : validK p.keys = true) (h3 : i = root ∨ 2 ≤ p.keys.length) (h4 : p.kids.length = 0) :
    frL root i p = (decide (p.vals.length = p.keys.length) && p.vals.all isValB) := by
  rw [fr_y h1 h2 h3, if_pos (List.eq_nil_of_length_eq_zero h4)]
theorem fr_yi' {vl kl cl : Nat} (h1 : p.keys.length ≤ 4) (h2 : validK p.keys = true) (h3 : i = root ∨ 2 ≤ p.keys.length) (h4 : 0 < p.kids.length) (e1 : p.vals.length = vl) (e2 : p.keys.length = kl) (e3 : p.kids.length = cl) :
    frL root i p = (decide (vl = 0) && decide (1 ≤ kl) && decide (cl = kl + 1)) := by subst e1 e2 e3; exact fr_yi h1 h2 h3 h4
theorem fr_yl' {V : List Int} {kl : Nat} (h1 : p.keys.length ≤ 4) (h2 : validK p.keys = true) (h3 : i = root ∨ 2 ≤ p.keys.length) (h4 : p.kids.length = 0) (e1 : p.vals = V) (e2 : p.keys.length = kl) :
    frL root i p = (decide (V.length = kl) && V.all isValB) := by subst e1 e2; exact fr_yl h1 h2 h3 h4
theorem kin_bad {k : Nat} (hk : k < p.keys.length) (h : p.keys[k] < low ∨ p.keys[k] ≥ high) : keysIn p low high = false := by
  unfold keysIn
  rw [List.all_eq_false]
  exact ⟨_, List.getElem_mem hk, by simp; omega⟩
theorem all_keep {q : Int → Bool} {l : List Int} {k : Nat} (hk : k < l.length) (h : (l.take k).all q = true) (h1 : q l[k] = true) : (l.take (k + 1)).all q = true := by
  rw [take_snoc hk, List.all_append, h]; simp [h1]
theorem all_done {q : Int → Bool} {l : List Int} {k : Nat} (hk : l.length ≤ k) (h : (l.take k).all q = true) : l.all q = true := by rwa [List.take_of_length_le hk] at h
theorem all_no {q : Int → Bool} {l : List Int} {k : Nat} (hk : k < l.length) (h1 : q l[k] = false) : l.all q = false := by
  rw [List.all_eq_false]; exact ⟨_, List.getElem_mem hk, by simp [h1]⟩
theorem vis_some {o : Option (List Int × Int)} {q : List Int × Int} (h : o.isSome = true) (hq : ∀ q', o = some q' → q' = q) : o = some q := by
  cases o with
  | none => cases h
  | some q' => rw [hq q' rfl]
theorem vis_none {o : Option (List Int × Int)} (h : o.isSome = false) : o = none := by cases o with | none => rfl | some q => cases h
theorem validT_len {T : TrT} (h : ¬ (1 ≤ T.pages.length ∧ T.pages.length ≤ 16)) : validT T = false := by
  cases hv : validT T with
  | false => rfl
  | true => exact absurd (valid_iff.1 hv).1 h
theorem valid_f {T : TrT} {s : List Int} {l : Int} (h1 : 1 ≤ T.pages.length ∧ T.pages.length ≤ 16) (h : visT T 3 T.root 0 100 [] (-1) = some (s, l)) {i : Nat} (hi : i < T.pages.length) (hn : (i : Int) ∉ s) : validT T = false := by
  cases hv : validT T with
  | false => rfl
  | true => exact absurd ((valid_vis h1 h).1 hv i hi) hn
variable {T : TrT} {d : Nat} {hi : Int}
theorem fit_n1 (h : validK p.keys = false) : fitL T d i low hi p = false := by simp [fitL, h]
theorem fit_n2 (h : ¬ p.keys.length ≤ 4) : fitL T d i low hi p = false := by simp [fitL, h]
theorem fit_n3 (h : allIn p.keys low hi = false) : fitL T d i low hi p = false := by simp [fitL, h]
theorem fit_n4 (h : i ≠ T.root) (h2 : ¬ 2 ≤ p.keys.length) : fitL T d i low hi p = false := by simp [fitL, h, h2]
theorem fit_y0 (h1 : validK p.keys = true) (h2 : p.keys.length ≤ 4) (h3 : allIn p.keys low hi = true) (h4 : i = T.root ∨ 2 ≤ p.keys.length) :
    fitL T 0 i low hi p = (decide (p.kids.length = 0) && decide (p.vals.length = p.keys.length) && allIn p.vals (-1000) 1000) := by
  have e : decide (p.kids = []) = decide (p.kids.length = 0) := decide_eq_decide.2 List.length_eq_zero_iff.symm
  rcases h4 with h4 | h4 <;> simp [fitL, h1, h2, h3, h4, e]
theorem fit_y0' {V : List Int} {kl cl : Nat} (h1 : validK p.keys = true) (h2 : p.keys.length ≤ 4) (h3 : allIn p.keys low hi = true) (h4 : i = T.root ∨ 2 ≤ p.keys.length) (e1 : p.vals = V) (e2 : p.keys.length = kl) (e3 : p.kids.length = cl) :
    fitL T 0 i low hi p = (decide (cl = 0) && decide (V.length = kl) && allIn V (-1000) 1000) := by subst e1 e2 e3; exact fit_y0 h1 h2 h3 h4
theorem fit_no {h0 : d ≠ 0} (h : p.keys.length = 0 ∨ p.vals.length ≠ 0 ∨ p.kids.length ≠ p.keys.length + 1 ∨ allIn p.kids 0 ((T.pages.length : Int) - 1) = false) : fitL T d i low hi p = false := by
  rcases h with h | h | h | h
  · have := List.eq_nil_of_length_eq_zero h; simp [fitL, h0, this]
  · have : p.vals ≠ [] := fun e => h (by rw [e]; rfl)
    simp [fitL, h0, this]
  · simp [fitL, h0, h]
  simp [fitL, h0, h]
theorem fit_yd (h0 : d ≠ 0) (h1 : validK p.keys = true) (h2 : p.keys.length ≤ 4) (h3 : allIn p.keys low hi = true) (h4 : i = T.root ∨ 2 ≤ p.keys.length) (h5 : p.keys.length ≠ 0) (h6 : p.vals.length = 0) (h7 : p.kids.length = p.keys.length + 1) (h8 : allIn p.kids 0 ((T.pages.length : Int) - 1) = true) :
    fitL T d i low hi p = (List.range p.kids.length).all fun k => fitS T d (p.kids.getD k 0) (lowK p low k) (highK p (hi + 1) k - 1) := by
  have e5 : p.keys ≠ [] := fun e => h5 (by rw [e]; rfl)
  have e6 := List.eq_nil_of_length_eq_zero h6
  rcases h4 with h4 | h4 <;> simp [fitL, h0, h1, h2, h3, h4, e5, e6, h7, h8]
end
end Go.Px
end
section
namespace Go.Px
open Go.RowKit
section
variable {P : Program} {w0 w : World} {L : List FE} {nm : String} {k : IntKind} {zs : List Int}
theorem tab_at (h : Lib.TabIs P w0 nm k zs) (hM : Mem0 w0 w [] L) : Lib.TabIs P w nm k zs := by
  unfold Lib.TabIs World.var? at *
  cases hg : P.globalNamed nm with
  | none => rw [hg] at h; simp at h
  | some g =>
    rw [hg] at h
    simp only [Option.bind_some] at h ⊢
    have hlt : g < w0.heap.size := by
      rcases Nat.lt_or_ge g w0.heap.size with h1 | h1
      · exact h1
      rw [Array.getElem?_eq_none h1] at h; simp at h
    rw [hM.block g hlt (by simp)]; exact h
theorem mem_grow {n : Nat} {os : Array Obj} : Mem w (Sort.grow (w.drewN n) os) [] [] :=
  ⟨rfl, rfl, rfl, by simp [Sort.grow, World.drewN], fun j hj _ => by simp [Sort.grow, World.drewN, Array.getElem?_append_left hj], by simp, by simp, by simp⟩
end
section
variable {P : Program} {σ : Sig} {w w0 : World} {dst : Option Tmp} {T U T' e : TypeId} {pos : String} {after : Array Edge} {g : Option (Nat × Bool)} {x y : Operand}
theorem Ru.peqN {a : Option Addr} (ht : P.underlying T = some (.pointer e)) (hx : ev σ x = .pointer a) (hy : ev σ y = .pointer none) : Ru P σ ⟨dst, .binOp .eql T x y U, T', pos, after, g⟩ w (.bool a.isNone) := by
  have h : ∀ d : Nat, (Op.equalIn (d + 1) T (.pointer a) (.pointer none)).run P w = .ok a.isNone w := fun d => by
    cases a <;> simp [Op.equalIn, run_underlying ht]
  simp [Ru, execOp, hx, hy, eqGuard, binOp, Op.equal, Op.maxDepth, h 9999]
theorem Ru.pneS {a : Addr} {zs : List Value} {bytes : Nat} {agg : Bool} (ht : P.underlying T = some (.pointer e)) (he : ElT P e zs bytes agg) (hx : ev σ x = .pointer (some a)) (hy : ev σ y = .pointer (some a)) : Ru P σ ⟨dst, .binOp .neq T x y U, T', pos, after, g⟩ w (.bool false) := by
  obtain ⟨j, _, hj, _⟩ := he.info
  have h := Lib.run_neq_ptr_same (w := w) a ht hj
  simp [Ru, execOp, hx, hy, eqGuard, h]
theorem Ru.toUns {b : Nat} {zs : List Value} {bytes : Nat} {agg : Bool} {t : TypeId} {l : List Value} (hs : P.underlying T = some (.pointer t)) (hd : P.underlying U = some .unsafePointer) (he : ElT P t zs bytes agg) (hz : zs.length ≠ 0) (hb : Blk w b e l) (hl : 0 < l.length) (hx : ev σ x = .pointer (ofs (bl b) 0)) :
    Ru P σ ⟨dst, .convert T U x, T', pos, after, g⟩ w (.pointer (ofs (bl b) 0)) := by
  have hsh : w.shape? b = some (e, l.length) := by unfold Blk at hb; simp [World.shape?, hb]
  obtain ⟨j, _, hj, _, _, hjs, _⟩ := he.info
  have h := Lib.run_to_unsafe (P := P) w (src := T) (dst := U) ⟨b, 0, none⟩ hs hd hj (by rw [hjs]; exact hz) hsh hl
  have hx' : ev σ x = .pointer (some ⟨b, 0, none⟩) := hx
  simp [Ru, execOp, hx', h, ofs, bl, Addr.add]
theorem Ru.frUns {b : Nat} {zs : List Value} {bytes : Nat} {agg : Bool} {t : TypeId} {l : List Value} (hs : P.underlying T = some .unsafePointer) (hd : P.underlying U = some (.pointer t)) (he : ElT P t zs bytes agg) (hb : Blk w b e l) (hlies : liesAt P P.depth e (l.length / P.cellsOf e) 0 t 1 = true) (hx : ev σ x = .pointer (ofs (bl b) 0)) :
    Ru P σ ⟨dst, .convert T U x, T', pos, after, g⟩ w (.pointer (ofs (bl b) 0)) := by
  have hsh : w.shape? b = some (e, l.length) := by unfold Blk at hb; simp [World.shape?, hb]
  obtain ⟨j, _, hj, _⟩ := he.info
  have h := Lib.run_from_unsafe (P := P) w (src := T) (dst := U) ⟨b, 0, none⟩ hs hd hj hsh hlies
  have hx' : ev σ x = .pointer (some ⟨b, 0, none⟩) := hx
  simp [Ru, execOp, hx', h, ofs, bl, Addr.add]
theorem Ru.noEsc {f : FuncId} {fn : Func} {ts} {v : Value} (hf : P.funcs[f]? = some fn) (hn : (fn.name == "runtime.NumGoroutine") = false) (hb : fn.body.isNone = true) (hq : Extern.findNext fn = none) (he : Extern.find fn = some Extern.AbiNoEscape.same) (hx : ev σ x = v) :
    Ru P σ ⟨dst, .call ⟨.value (.func f), #[x], ts⟩, T', pos, after, g⟩ w v := by
  have h := run_callFunc_extern hf hn hb hq he #[v] w
  rw [Lib.run_noEscape] at h
  simp only [Result.andThen] at h
  have e1 : ev σ (.func f) = .func (.func f) #[] #[] := rfl
  simp [Ru, execOp, resolve, e1, Deferred.ofValue, invoke, hx, h]
end
end Go.Px
namespace Go.Px
open Go.RowKit
section
variable {P : Program} {σ : Sig} {w w0 : World} {T' e : TypeId} {pos : String} {after : Array Edge} {g : Option (Nat × Bool)} {x y : Operand} {n : Nat} {Q : Post} {ops rest : List Oper} {R : List (Option Nat)} {M : List (List FE)}
theorem strCells_S (l : Str) : Lib.strCells ⟨l.toArray⟩ = l.map byteV := by simp [Lib.strCells, byteV]
theorem S_size (l : Str) : (⟨l.toArray⟩ : ByteArray).size = l.length := by simp [ByteArray.size]
theorem O.mappendS {d : Nat} {t u : TypeId} {A : Option Addr} {m c : Nat} {xs : List Value} {l : Str} {m1 : Nat} {xs1 : List Value} {M' : Option Addr → Nat → List (List FE)} (i : Nat) (hM : Mem w0 w R M) (hi : M[i]? = some [⟨.slice A m c, e, 1, m, xs⟩]) (hg : gok ops σ g = true) (ht : P.underlying t = some (.slice e)) (hu : P.underlying u = some .string)
    (hI : (P.info? e).map (fun i => (i.zero, i.size, i.bytes)) = some (some (.int .u8 0), 1, 1)) (hx : ev σ x = .slice A m c) (hy : ev σ y = S l) (hd : Nat.blt d n = true)
    (hn : m + l.length ≤ 140737488355328) (hm1 : m + l.length = m1) (hxs : xs ++ l.map byteV = xs1) (hM' : ∀ A' c', M.set i [⟨.slice A' m1 c', e, 1, m1, xs1⟩] = M' A' c')
    (h : ∀ w' A' c', m1 ≤ c' → Mem w0 w' R (M' A' c') → O P n ops rest Q (upd σ d (.slice A' m1 c')) w') :
    O P n ops (⟨some d, .call ⟨.builtin .append, #[x, y], #[t, u]⟩, T', pos, after, g⟩ :: rest) Q σ w := by
  subst hm1 hxs
  obtain ⟨ii, hii, hI2⟩ := Option.map_eq_some_iff.1 hI
  simp only [Prod.mk.injEq] at hI2
  obtain ⟨hz', hs, hb⟩ := hI2
  have ho := hM.get hi (j := 0) rfl
  have hsz := S_size l
  have hcs := strCells_S l
  obtain ⟨v', w', h1, h2, h3, h4⟩ := Lib.run_append_own_string (P := P) w 0 t u T' e ii ht hu hii hz' hs hb (.slice A m c) m xs ho ⟨l.toArray⟩ (by rw [hsz]; simp only [maxLen]; omega) (by rw [hsz]; exact hn) (Nat.zero_le _)
  rw [hsz, hcs] at h2
  have h5 : v'.ownBlock = (Value.slice A m c).ownBlock ∨ v'.ownBlock = some w.heap.size := by
    obtain ⟨_, ⟨hv, hm0⟩ | ⟨g', cap, cur, hv, hbg, hgg, hnc, hcm, hcs', htake⟩⟩ := ho
    · cases hv
      by_cases h0 : l.length = 0
      · left; rw [h4.2 ⟨rfl, by rw [hsz]; exact h0⟩]
      right
      have hr := run_append_nil_string (P := P) w t u T' e ii (.int .u8 0) ht hu hii hz' ⟨l.toArray⟩ (by rw [hsz]; omega) (by rw [hsz]; omega) (by rw [hb, hsz]; omega)
      have := h1.symm.trans hr
      cases this; rfl
    cases hv
    by_cases hroom : m + l.length ≤ c
    · left
      have hr := Lib.run_append_room_string (P := P) w t u T' e ii ht hu hii hs g' m c cur hgg ⟨l.toArray⟩ (by rw [hsz]; exact hroom) (by rw [hsz]; simp at hcs'; omega)
      have := h1.symm.trans hr
      cases this; rfl
    right
    have holds : ∀ j u, xs[j]? = some u → w.cell? ((⟨g', 0, none⟩ : Addr).add j) = some u := (World.ownsRow.cells (w := w) (base := 0) (e := e) (size := 1) (n := m) (xs := xs) (g := g') (hM.get hi (j := 0) rfl) rfl)
    have hxl : xs.length = m * 1 := (hM.get hi (j := 0) rfl).1
    have hr := Lib.run_append_grow_string (P := P) w t u T' e ii (.int .u8 0) ht hu hii hz' ⟨g', 0, none⟩ m c xs (by rw [hs]; simpa using hxl) holds ⟨l.toArray⟩ (by rw [hsz]; omega) (by rw [hsz]; omega) (by rw [hb, hsz]; exact growslice_fits (by omega) (by omega))
    have := h1.symm.trans hr
    cases this; rfl
  refine O.valW hg (v := v') (w' := w') ?_ hd ?_
  · simp [Rw, execOp, resolve, invoke, builtin, hx, hy, S, h1]
  obtain ⟨A', c', rfl, hc, _, _, _, _⟩ := own_form h2
  exact h w' A' c' hc (hM' A' c' ▸ Mem.upd hM hi (j := 0) rfl h3 h2 (h5.elim .inl (fun h => .inr (.inl h))))
end
end Go.Px
end
section
namespace Go.Px
open Go.RowKit
section
variable {P : Program} {w0 w : World} {L : List FE} {nm : String} {k : IntKind} {zs : List Int} {R : List (Option Nat)} {M : List (List FE)}
def TabO (P : Program) (nm : String) (R : List (Option Nat)) : Prop := ∀ g, P.globalNamed nm = some g → some g ∉ R
theorem tab_atR (h : Lib.TabIs P w0 nm k zs) (hM : Mem0 w0 w R L) (ho : TabO P nm R) : Lib.TabIs P w nm k zs := by
  unfold Lib.TabIs World.var? at *
  cases hg : P.globalNamed nm with
  | none => rw [hg] at h; simp at h
  | some g =>
    rw [hg] at h
    simp only [Option.bind_some] at h ⊢
    have hlt : g < w0.heap.size := by
      rcases Nat.lt_or_ge g w0.heap.size with h1 | h1
      · exact h1
      rw [Array.getElem?_eq_none h1] at h; simp at h
    rw [hM.block g hlt (ho g hg)]; exact h
theorem TabO.nil : TabO P nm [] := fun _ _ => by simp
theorem TabO.cons {r : Option Nat} (h : TabO P nm [r]) (h2 : TabO P nm R) : TabO P nm (r :: R) := fun g hg => by
  have a := h g hg
  have b := h2 g hg
  simp only [List.mem_singleton] at a
  simp [a, b]
theorem TabO.old (h : Lib.TabIs P w0 nm k zs) (hM : Mem w0 w [] M) (i : Nat) {m sz : Nat} {v' : Value} {e' : TypeId} {xs : List Value} {g : List FE} (hi : M[i]? = some (⟨v', e', sz, m, xs⟩ :: g)) : TabO P nm [v'.ownBlock] := fun j hj hm => by
  have hlt : j < w0.heap.size := by
    unfold Lib.TabIs World.var? at h
    rw [hj] at h
    simp only [Option.bind_some] at h
    rcases Nat.lt_or_ge j w0.heap.size with h1 | h1
    · exact h1
    rw [Array.getElem?_eq_none h1] at h; simp at h
  have := hM.born _ (List.mem_flatten.2 ⟨_, List.mem_of_getElem? hi, List.mem_cons_self⟩) j (List.mem_singleton.1 hm).symm
  simp at this
  omega
theorem TabO.own (h : Lib.TabIs P w0 nm k zs) (hM : Mem w0 w R M) (ho : TabO P nm R) (i : Nat) {m sz : Nat} {v' : Value} {e' : TypeId} {xs : List Value} {g : List FE} (hi : M[i]? = some (⟨v', e', sz, m, xs⟩ :: g)) : TabO P nm [v'.ownBlock] := fun j hj hm => by
  have hlt : j < w0.heap.size := by
    unfold Lib.TabIs World.var? at h
    rw [hj] at h
    simp only [Option.bind_some] at h
    rcases Nat.lt_or_ge j w0.heap.size with h1 | h1
    · exact h1
    rw [Array.getElem?_eq_none h1] at h; simp at h
  rcases hM.born _ (List.mem_flatten.2 ⟨_, List.mem_of_getElem? hi, List.mem_cons_self⟩) j (List.mem_singleton.1 hm).symm with h1 | h1
  · omega
  exact ho j hj h1
theorem Off.own {A : Option Addr} {l : List Value} (h : Mem w0 w R M) (hA : Rd w0 A l) (ho : Off A l R) (i : Nat) {m sz : Nat} {v' : Value} {e : TypeId} {xs : List Value} {g : List FE} (hi : M[i]? = some (⟨v', e, sz, m, xs⟩ :: g)) : Off A l [v'.ownBlock] := by
  rcases hA with h0 | ⟨b, o, rfl, hb, _⟩
  · exact .inl h0
  rcases ho with ho | ho
  · exact .inl ho
  refine .inr (fun a ha hm => ?_)
  cases ha
  rcases h.born _ (List.mem_flatten.2 ⟨_, List.mem_of_getElem? hi, List.mem_cons_self⟩) b (List.mem_singleton.1 hm).symm with h1 | h1
  · omega
  exact ho _ rfl h1
theorem TrO.own {T : TreeL} (h : Mem w0 w R M) (hT : TrN w0 T) (ho : TrO T R) (i : Nat) {m sz : Nat} {v' : Value} {e' : TypeId} {xs : List Value} {g : List FE} (hi : M[i]? = some (⟨v', e', sz, m, xs⟩ :: g)) : TrO T [v'.ownBlock] :=
  ⟨Off.own h hT.1 ho.1 i hi, fun x hx => ⟨Off.own h (hT.2 x hx).1 (ho.2 x hx).1 i hi, Off.own h (hT.2 x hx).2.1 (ho.2 x hx).2.1 i hi, Off.own h (hT.2 x hx).2.2 (ho.2 x hx).2.2 i hi⟩⟩
end
theorem prs_len {p : PgT} : (prsP p).length = p.keys.length := by simp [prsP]
@[simp] theorem prs_lenG {x : PgL} : (prsP x.t).length = x.k.l.length := prs_len
theorem prs_get {p : PgT} {k : Nat} (h : k < p.keys.length) (h2 : k < p.vals.length) : (prsP p)[k]'(by rw [prs_len]; exact h) = ⟨p.keys[k], p.vals[k]⟩ := by
  simp only [prsP, List.getElem_map, List.getElem_range]
  rw [List.getD_eq_getElem?_getD, List.getElem?_eq_getElem h, List.getD_eq_getElem?_getD, List.getElem?_eq_getElem h2]; rfl
theorem prs_snoc {x : PgL} {k : Nat} (h : k < x.k.l.length) (h2 : k < x.v.l.length) : (prsP x.t).take k ++ [⟨x.k.l[k], x.v.l[k]⟩] = (prsP x.t).take (k + 1) := by
  rw [take_snoc (by rw [prs_len]; exact h), prs_get h h2]; rfl
theorem prs_set {x : PgL} {k : Nat} {z : PairT} (h : k < x.k.l.length) (h2 : k < x.v.l.length) : ((prsP x.t).take k ++ List.replicate (x.k.l.length - k) z).set k ⟨x.k.l[k], x.v.l[k]⟩ = (prsP x.t).take (k + 1) ++ List.replicate (x.k.l.length - (k + 1)) z := by
  have hl : (prsP x.t).length = x.k.l.length := prs_len
  have := fillI_set (l := prsP x.t) (z := z) (k := k) (by rw [hl]; exact h)
  rw [prs_get h h2, hl] at this
  exact this
theorem prs_take {x : PgL} {k : Nat} (h : x.k.l.length ≤ k) : (prsP x.t).take k = prsP x.t := List.take_of_length_le (by rw [prs_len]; exact h)
theorem prs_keys {p : PgT} : keysP (prsP p) = p.keys := by
  apply List.ext_getElem?
  intro i
  simp only [keysP, prsP, List.map_map, List.getElem?_map]
  by_cases h : i < p.keys.length
  · rw [List.getElem?_range h, List.getElem?_eq_getElem h]
    simp only [Option.map_some, Function.comp]
    rw [getD_in h]
  rw [List.getElem?_eq_none (by simpa using h), List.getElem?_eq_none (by omega)]; rfl
theorem prs_valid {T : TrT} {i : Int} (h : frB T i = true) (hk : (gP T i).kids = []) : validR (prsP (gP T i)) = true := by
  have h1 := fr_len h
  have h2 := fr_keys h
  have h3 := fr_leaf h hk
  refine validR_iff.2 ⟨by rw [prs_len]; omega, fun p hp => ?_, by rw [prs_keys]; exact h2⟩
  obtain ⟨k, hk2, rfl⟩ := List.getElem_of_mem hp
  rw [prs_len] at hk2
  rw [prs_get hk2 (by omega)]
  exact isVal_iff.1 (List.all_eq_true.1 h3.2 _ (List.getElem_mem _))
theorem kidsX_len {f : Int → Str} {ks : List Int} {B : Nat} (hk : ∀ x ∈ ks, 0 ≤ x ∧ x ≤ 99) : ∀ {l : List Int} {k : Nat}, (∀ x ∈ l, (f x).length ≤ B) → (kidsX f ks k l).length ≤ l.length * (B + 23)
  | [], _, _ => by simp [kidsX]
  | x :: l, k, h => by
    have h1 := h x (by simp)
    have h2 := kidsX_len hk (l := l) (k := k + 1) fun y hy => h y (by simp [hy])
    have h3 : (itoaS (ks.getD (k - 1) 0)).length ≤ 21 := by
      have : 0 ≤ ks.getD (k - 1) 0 ∧ ks.getD (k - 1) 0 ≤ 99 := by
        rw [List.getD_eq_getElem?_getD]
        cases hq : ks[k - 1]? with
        | none => simp
        | some y => exact hk y (List.mem_of_getElem? hq)
      exact itoa_len (by omega) (by omega)
    have h4 : (if k = 0 then ([] : Str) else 32 :: (itoaS (ks.getD (k - 1) 0) ++ [32])).length ≤ 23 := by
      split
      · simp
      simp only [List.length_cons, List.length_append, List.length_nil]; omega
    simp only [kidsX, List.length_append, List.length_cons, Nat.add_mul, Nat.one_mul] at h2 ⊢
    omega
theorem txt_len {T : TrT} : ∀ {d : Nat} {i low high : Int}, okB T d i low high = true → (textT T d i).length ≤ 200 * 8 ^ d
  | 0, _, _, _, h => by simp [okB] at h
  | d + 1, i, low, high, h => by
    have h1 := okB_iff.1 h
    have hp : 1 ≤ 8 ^ d := Nat.pow_pos (by omega)
    simp only [textT]
    rcases h1.2.2.2 with ⟨_, h2⟩ | ⟨h0, h2, h3⟩
    · rw [if_pos h2]
      have hv := prs_valid h1.2.1 h2
      have := fmtL_len (l := prsP (gP T i)) _ (valid_small hv) (Nat.le_refl _)
      rw [List.take_length, prs_len] at this
      have := fr_len h1.2.1
      rw [Nat.pow_succ]; omega
    rw [if_neg h2]
    have hkl := fr_in h1.2.1 h2
    have hl := fr_len h1.2.1
    have h4 := kidsX_len (f := textT T d) (ks := (gP T i).keys) (B := 200 * 8 ^ d) (validK_iff.1 (fr_keys h1.2.1)).1 (l := (gP T i).kids) (k := 0) (fun x hx => by
      obtain ⟨k, hk, rfl⟩ := List.getElem_of_mem hx
      exact txt_len (ok_kid h hk))
    have h5 : (gP T i).kids.length * (200 * 8 ^ d + 23) ≤ 5 * (200 * 8 ^ d + 23) := Nat.mul_le_mul_right _ (by omega)
    simp only [List.length_cons, List.length_append, List.length_nil]
    rw [Nat.pow_succ]; omega
theorem kids_part {T : TrT} {d : Nat} {i low high : Int} (h : okB T (d + 1) i low high = true) {k j : Nat} (hk : k ≤ j) : (kidsX (textT T d) (gP T i).keys 0 ((gP T i).kids.take k)).length ≤ j * (200 * 8 ^ d + 23) := by
  have h1 := okB_iff.1 h
  have h4 := kidsX_len (f := textT T d) (ks := (gP T i).keys) (B := 200 * 8 ^ d) (validK_iff.1 (fr_keys h1.2.1)).1 (l := (gP T i).kids.take k) (k := 0) (fun x hx => by
    obtain ⟨k, hk, rfl⟩ := List.getElem_of_mem (List.mem_of_mem_take hx)
    exact txt_len (ok_kid h hk))
  have h5 : ((gP T i).kids.take k).length * (200 * 8 ^ d + 23) ≤ j * (200 * 8 ^ d + 23) := Nat.mul_le_mul_right _ (by rw [List.length_take]; omega)
  omega
theorem pow3 {d : Nat} (h : d ≤ 3) : 8 ^ d ≤ 512 := by
  have : 8 ^ d ≤ 8 ^ 3 := Nat.pow_le_pow_right (by omega) h
  omega
theorem valid_ok {T : TrT} (h : validT T = true) : heightT T ≤ 3 ∧ okB T (heightT T) T.root 0 100 = true ∧ (subT T (heightT T) T.root).Nodup ∧ (subT T (heightT T) T.root).length = T.pages.length := by
  rw [valid_ref] at h
  simp only [Bool.and_eq_true, decide_eq_true_eq] at h
  obtain ⟨⟨⟨⟨⟨⟨_, _⟩, h2⟩, h3⟩, h4⟩, h5⟩, h6⟩ := h
  exact ⟨h3, (fit_ok (d := heightT T) (low := 0) (hi := 99) h2).symm.trans h4, h5, h6⟩
theorem sub_ok {T : TrT} {x : Int} : ∀ {d : Nat} {i low high : Int}, okB T d i low high = true → x ∈ subT T d i → ∃ e lo hi, e + 1 ≤ d ∧ okB T (e + 1) x lo hi = true
  | 0, _, _, _, h, _ => by simp [okB] at h
  | d + 1, i, low, high, h, hx => by
    simp only [subT] at hx
    rcases List.mem_cons.1 hx with rfl | hx
    · exact ⟨d, low, high, by omega, h⟩
    obtain ⟨y, hy, hx⟩ := List.mem_flatMap.1 hx
    obtain ⟨k, hk, rfl⟩ := List.getElem_of_mem hy
    obtain ⟨e, lo, hi, h1, h2⟩ := sub_ok (ok_kid h hk) hx
    exact ⟨e, lo, hi, by omega, h2⟩
theorem valid_page {T : TrT} (h : validT T = true) {i : Int} (hi : inT T i = true) : ∃ e lo hi, e + 1 ≤ 3 ∧ okB T (e + 1) i lo hi = true := by
  obtain ⟨h1, h2, h3, h4⟩ := valid_ok h
  have hc := (cover h3 (fun x hx => inT_iff.1 (sub_in h2 x hx))).2 h4
  have hi2 := inT_iff.1 hi
  have := hc i.toNat (by omega)
  rw [show ((i.toNat : Nat) : Int) = i by omega] at this
  obtain ⟨e, lo, hi, a, b⟩ := sub_ok h2 this
  exact ⟨e, lo, hi, by omega, b⟩
theorem valid_len {T : TrT} (h : validT T = true) : 1 ≤ T.pages.length ∧ T.pages.length ≤ 16 := (valid_iff.1 h).1
def frX (T : TrT) : Str := if validT T then textT T (heightT T) T.root else []
theorem frX_no {T : TrT} (h : validT T = false) : frX T = [] := by simp [frX, h]
theorem frX_yes {T : TrT} (h : validT T = true) : frX T = textT T (heightT T) T.root := by simp [frX, h]
theorem tsg_len {L l : List PgL} {k : Nat} (h : tsG L = (tsG l).take k) (hk : k ≤ l.length) : L.length = k := by
  have := congrArg List.length h
  simp at this; omega
theorem tsg_snoc {L l : List PgL} {k : Nat} {X : PgL} (h : tsG L = (tsG l).take k) (hk : k < l.length) (hX : X.t = l[k].t) : tsG (L ++ [X]) = (tsG l).take (k + 1) := by
  rw [take_snoc (by simpa using hk), ← h]; simp [tsG, hX]
theorem tsg_eq_len {L l : List PgL} (h : tsG L = tsG l) : L.length = l.length := by
  have := congrArg List.length h; simpa using this
theorem fill_app {L : List PgL} {k n : Nat} {z X : PgL} (h : L.length = k) (hk : k < n) : (L ++ List.replicate (n - k) z).set k X = L ++ [X] ++ List.replicate (n - (k + 1)) z := by
  rw [List.set_append_right _ _ (by omega), h, Nat.sub_self, show n - k = (n - (k + 1)) + 1 by omega, List.replicate_succ, List.set_cons_zero]
  simp
theorem pg_eq {a b : PgL} (h1 : a.k.l = b.k.l) (h2 : a.c.l = b.c.l) (h3 : a.v.l = b.v.l) : a.t = b.t := by unfold PgL.t; rw [h1, h2, h3]
theorem tsg_nl {a b : List PgL} (h : a.length ≠ b.length) : decide (tsG a = tsG b) = false := decide_eq_false (fun e => h (tsg_eq_len e))
theorem tsg_ne {a b : List PgL} {k : Nat} (ha : k < a.length) (hb : k < b.length) (h : a[k].t ≠ b[k].t) : decide (tsG a = tsG b) = false := decide_eq_false (fun e => h (by
  have := congrArg (fun z => z[k]?) e
  simp only [tsG, List.getElem?_map, List.getElem?_eq_getElem ha, List.getElem?_eq_getElem hb, Option.map_some, Option.some.injEq] at this
  exact this))
theorem tsg_step {a b : List PgL} {k : Nat} (ha : k < a.length) (hb : k < b.length) (h : (tsG a).take k = (tsG b).take k) (he : a[k].t = b[k].t) : (tsG a).take (k + 1) = (tsG b).take (k + 1) := by
  rw [take_snoc (by simpa using ha), take_snoc (by simpa using hb), h]; simp [tsG, he]
theorem tsg_all {a b : List PgL} {k : Nat} (ha : a.length ≤ k) (hb : b.length ≤ k) (h : (tsG a).take k = (tsG b).take k) : decide (tsG a = tsG b) = true := by
  rw [List.take_of_length_le (by simpa using ha), List.take_of_length_le (by simpa using hb)] at h
  exact decide_eq_true h
theorem tree_eq {a b : TreeL} (h1 : a.root = b.root) (h2 : tsG a.l = tsG b.l) : a.t = b.t := by unfold TreeL.t; rw [h1, h2]
end Go.Px
end
section
namespace Go.Px
open Go.RowKit
section
variable {w0 w : World} {R : List (Option Nat)} {M : List (List FE)} {L L2 : List FE} {l : List PgL} {e : TypeId} {x : PgL}
theorem Mem0.left (h : Mem0 w0 w R (L ++ L2)) : Mem0 w0 w R L :=
  ⟨h.os, h.tape, h.output, h.size, h.block, fun y hy => h.own y (List.mem_append_left _ hy), (List.pairwise_append.1 h.apart).1, fun y hy => h.born y (List.mem_append_left _ hy)⟩
theorem split_mid {α : Type} {L : List α} {j : Nat} (hj : j < L.length) : L = L.take j ++ L[j] :: L.drop (j + 1) := by
  rw [← List.drop_eq_getElem_cons hj, List.take_append_drop]
theorem Mem.gset {k c v : SlL} (j : Nat) (h : Mem w0 w R (l.flatMap (pgF e) :: [slF e k] :: [slF e c] :: [slF e v] :: M)) : Mem w0 w R ((l.set j (⟨k, c, v⟩ : PgL)).flatMap (pgF e) :: M) := by
  by_cases hj : j < l.length
  · have h2 : Mem0 w0 w R (((l.set j (⟨k, c, v⟩ : PgL)).flatMap (pgF e) ++ M.flatten) ++ pgF e l[j]) := by
      have p : ((l.flatMap (pgF e) :: [slF e k] :: [slF e c] :: [slF e v] :: M).flatten).Perm (((l.set j (⟨k, c, v⟩ : PgL)).flatMap (pgF e) ++ M.flatten) ++ pgF e l[j]) := by
        have e1 : l.flatMap (pgF e) = (l.take j).flatMap (pgF e) ++ (pgF e l[j] ++ (l.drop (j + 1)).flatMap (pgF e)) := by
          conv => lhs; rw [split_mid hj]
          rw [List.flatMap_append, List.flatMap_cons]
        have e2 : (l.set j (⟨k, c, v⟩ : PgL)).flatMap (pgF e) = (l.take j).flatMap (pgF e) ++ ([slF e k, slF e c, slF e v] ++ (l.drop (j + 1)).flatMap (pgF e)) := by
          rw [List.set_eq_take_append_cons_drop, if_pos hj, List.flatMap_append, List.flatMap_cons]; rfl
        have e3 : (l.flatMap (pgF e) :: [slF e k] :: [slF e c] :: [slF e v] :: M).flatten = l.flatMap (pgF e) ++ ([slF e k, slF e c, slF e v] ++ M.flatten) := by simp
        rw [e3, e1, e2]
        generalize (l.take j).flatMap (pgF e) = a
        generalize (l.drop (j + 1)).flatMap (pgF e) = b
        generalize pgF e l[j] = q
        generalize [slF e k, slF e c, slF e v] = n
        generalize M.flatten = m
        simp only [List.append_assoc]
        refine List.Perm.append_left a ?_
        have s1 : (q ++ (b ++ (n ++ m))).Perm ((b ++ (n ++ m)) ++ q) := List.perm_append_comm
        refine s1.trans ?_
        rw [← List.append_assoc n b, ← List.append_assoc (n ++ b), ← List.append_assoc b n]
        exact List.Perm.append_right q (List.Perm.append_right m List.perm_append_comm)
      exact Mem.permg (M' := [((l.set j (⟨k, c, v⟩ : PgL)).flatMap (pgF e) ++ M.flatten) ++ pgF e l[j]]) h (by simpa using p) |> fun h => by simpa [Mem] using h
    have h3 := h2.left
    simpa [Mem] using h3
  rw [List.set_eq_of_length_le (by omega)]
  have : Mem0 w0 w R ((l.flatMap (pgF e) :: M).flatten ++ [slF e k, slF e c, slF e v]) := by
    have p : ((l.flatMap (pgF e) :: [slF e k] :: [slF e c] :: [slF e v] :: M).flatten).Perm ((l.flatMap (pgF e) :: M).flatten ++ [slF e k, slF e c, slF e v]) := by
      have e3 : (l.flatMap (pgF e) :: [slF e k] :: [slF e c] :: [slF e v] :: M).flatten = l.flatMap (pgF e) ++ ([slF e k, slF e c, slF e v] ++ M.flatten) := by simp
      rw [e3, List.flatten_cons, List.append_assoc]
      exact List.Perm.append_left _ List.perm_append_comm
    exact Mem.permg (M' := [(l.flatMap (pgF e) :: M).flatten ++ [slF e k, slF e c, slF e v]]) h (by simpa using p) |> fun h => by simpa [Mem] using h
  exact this.left
theorem pg_len : ∀ (l : List PgL), (l.flatMap (pgF e)).length = 3 * l.length
  | [] => rfl
  | x :: l => by simp only [List.flatMap_cons, List.length_append, pg_len l, List.length_cons]; simp [pgF]; omega
theorem pg_get {j : Nat} (hj : j < l.length) {r : Nat} (hr : r < 3) : (l.flatMap (pgF e))[3 * j + r]? = (pgF e l[j])[r]? := by
  have e1 : l.flatMap (pgF e) = (l.take j).flatMap (pgF e) ++ (pgF e l[j] ++ (l.drop (j + 1)).flatMap (pgF e)) := by
    conv => lhs; rw [split_mid hj]
    rw [List.flatMap_append, List.flatMap_cons]
  have hl : ((l.take j).flatMap (pgF e)).length = 3 * j := by rw [pg_len, List.length_take]; omega
  rw [e1, List.getElem?_append_right (by omega), hl, show 3 * j + r - 3 * j = r by omega, List.getElem?_append_left (by simpa [pgF] using hr)]
theorem pg_setk {j : Nat} (hj : j < l.length) {s : SlL} : (l.flatMap (pgF e)).set (3 * j) (slF e s) = (l.set j (⟨s, l[j].c, l[j].v⟩ : PgL)).flatMap (pgF e) := by
  have e1 : l.flatMap (pgF e) = (l.take j).flatMap (pgF e) ++ (pgF e l[j] ++ (l.drop (j + 1)).flatMap (pgF e)) := by
    conv => lhs; rw [split_mid hj]
    rw [List.flatMap_append, List.flatMap_cons]
  have hl : ((l.take j).flatMap (pgF e)).length = 3 * j := by rw [pg_len, List.length_take]; omega
  rw [e1, List.set_append_right _ _ (by omega), hl, Nat.sub_self, List.set_append_left _ _ (by simp [pgF]), List.set_eq_take_append_cons_drop (l := l), if_pos hj, List.flatMap_append, List.flatMap_cons]
  rfl
theorem enc_setk {j : Nat} (hj : j < l.length) {s : SlL} (h1 : s.A = l[j].k.A) (h2 : s.l.length = l[j].k.l.length) (h3 : s.cp = l[j].k.cp) : l.flatMap encPg = (l.set j (⟨s, l[j].c, l[j].v⟩ : PgL)).flatMap encPg := by
  conv => lhs; rw [split_mid hj]
  rw [List.set_eq_take_append_cons_drop, if_pos hj, List.flatMap_append, List.flatMap_append, List.flatMap_cons, List.flatMap_cons]
  have : encPg l[j] = encPg (⟨s, l[j].c, l[j].v⟩ : PgL) := by unfold encPg; simp only [h1, h2, h3]
  rw [this]
theorem tsg_set {j : Nat} {X : PgL} : tsG (l.set j X) = (tsG l).set j X.t := by simp [tsG, List.map_set]
theorem tsg_app {X : PgL} : tsG (l ++ [X]) = tsG l ++ [X.t] := by simp [tsG]
end
def plcI (l : List Int) (n : Int) : Int := if n ∈ l then (l.idxOf n : Int) else -1
theorem plcI_at {l : List Int} {n : Int} {k : Nat} (hk : k < l.length) (he : l[k] = n) (hn : ∀ x ∈ l.take k, x ≠ n) : plcI l n = (k : Int) := by
  have hm : n ∈ l := he ▸ List.getElem_mem hk
  unfold plcI
  rw [if_pos hm]
  have h1 : l = l.take k ++ l[k] :: l.drop (k + 1) := by rw [← List.drop_eq_getElem_cons hk, List.take_append_drop]
  have h2 : n ∉ l.take k := fun h => hn n h rfl
  have h3 : l.idxOf n = k := by
    rw [h1, List.idxOf_append, if_neg h2, he, List.idxOf_cons_self, List.length_take]; omega
  rw [h3]
theorem plcI_no {l : List Int} {n : Int} (hn : ∀ x ∈ l, x ≠ n) : plcI l n = -1 := by
  unfold plcI; rw [if_neg (fun h => hn n h rfl)]
theorem plcI_in {l : List Int} {n : Int} (h : n ∈ l) : 0 ≤ plcI l n ∧ plcI l n < (l.length : Int) := by
  unfold plcI; rw [if_pos h]; have := List.idxOf_lt_length_iff.2 h; omega
def setP (T : TrT) (i : Int) (p : PgT) : TrT := ⟨T.root, T.pages.set i.toNat p⟩
def addP (T : TrT) (p : PgT) : TrT := ⟨T.root, T.pages ++ [p]⟩
def leafP (r : List PairT) : PgT := ⟨keysP r, [], r.map PairT.val⟩
def innP (ks cs : List Int) : PgT := ⟨ks, cs, []⟩
end Go.Px
end
section
namespace Go.Px
open Go.RowKit
def pathT (T : TrT) (key : Int) : Nat → Int → List Int
  | 0, _ => []
  | d + 1, i => i :: (if (gP T i).kids = [] then [] else pathT T key d ((gP T i).kids.getD (upTo (gP T i).keys key) 0))
def pathK (T : TrT) (key : Int) : List Int := pathT T key (heightT T) T.root
structure PathOk (T : TrT) (P : List Int) : Prop where
  pos : 1 ≤ P.length
  le : P.length ≤ 3
  root : P.getD 0 0 = T.root
  inn : ∀ j, j < P.length → inT T (P.getD j 0) = true
  fr : ∀ j, j < P.length → frB T (P.getD j 0) = true
  nd : ∀ i j, i < j → j < P.length → P.getD i 0 ≠ P.getD j 0
  kid : ∀ j, j + 1 < P.length → P.getD (j + 1) 0 ∈ (gP T (P.getD j 0)).kids
  leaf : (gP T (P.getD (P.length - 1) 0)).kids = []
section
variable {T : TrT} {key : Int}
theorem route_lt {d : Nat} {i low high : Int} (h : okB T (d + 1) i low high = true) (hk : (gP T i).kids ≠ []) : upTo (gP T i).keys key < (gP T i).kids.length := by
  have := (fr_in (okB_iff.1 h).2.1 hk).2
  have := upTo_le (gP T i).keys key
  omega
theorem pathT_stop {d : Nat} {i : Int} (hk : (gP T i).kids = []) : pathT T key (d + 1) i = [i] := by simp [pathT, hk]
theorem pathT_go {d : Nat} {i low high : Int} (h : okB T (d + 1) i low high = true) (hk : (gP T i).kids ≠ []) : pathT T key (d + 1) i = i :: pathT T key d ((gP T i).kids[upTo (gP T i).keys key]'(route_lt h hk)) := by
  simp only [pathT]; rw [if_neg hk, getD_in (route_lt h hk)]
theorem path_all : ∀ {d : Nat} {i low high : Int}, okB T d i low high = true → (subT T d i).Nodup →
    (∀ x ∈ pathT T key d i, x ∈ subT T d i ∧ inT T x = true ∧ frB T x = true) ∧ (pathT T key d i).Nodup ∧ (pathT T key d i).length ≤ d ∧ 1 ≤ (pathT T key d i).length ∧ (pathT T key d i).getD 0 0 = i ∧
    (∀ j, j + 1 < (pathT T key d i).length → (pathT T key d i).getD (j + 1) 0 ∈ (gP T ((pathT T key d i).getD j 0)).kids) ∧ (gP T ((pathT T key d i).getD ((pathT T key d i).length - 1) 0)).kids = []
  | 0, _, _, _, h, _ => by simp [okB] at h
  | d + 1, i, low, high, h, hn => by
    by_cases hk : (gP T i).kids = []
    · rw [pathT_stop hk]
      refine ⟨?_, by simp, by simp, by simp, by simp, ?_, by simpa using hk⟩
      · intro x hx
        rw [List.mem_singleton] at hx
        subst hx
        exact ⟨by simp [subT], okB_in h, (okB_iff.1 h).2.1⟩
      intro j hj; simp at hj
    have hlt := route_lt (key := key) h hk
    have hok := ok_kid h hlt
    rw [pathT_go h hk]
    simp only [subT] at hn
    have hn2 := List.nodup_cons.1 hn
    have hsub : ∀ x ∈ subT T d ((gP T i).kids[upTo (gP T i).keys key]), x ∈ (gP T i).kids.flatMap (subT T d) := fun x hx => List.mem_flatMap.2 ⟨_, List.getElem_mem hlt, hx⟩
    have hsn : (subT T d ((gP T i).kids[upTo (gP T i).keys key])).Nodup := by
      have e := List.take_append_drop (upTo (gP T i).keys key) (gP T i).kids
      have e2 := List.drop_eq_getElem_cons hlt
      have h3 := hn2.2
      rw [← e, e2, List.flatMap_append, List.flatMap_cons] at h3
      exact (List.nodup_append.1 (List.nodup_append.1 h3).2.1).1
    obtain ⟨a1, a2, a3, a4, a5, a6, a7⟩ := path_all hok hsn
    generalize hP : pathT T key d ((gP T i).kids[upTo (gP T i).keys key]) = P at a1 a2 a3 a4 a5 a6 a7 ⊢
    refine ⟨?_, ?_, by simpa using a3, by simp, by simp, ?_, ?_⟩
    · intro x hx
      rcases List.mem_cons.1 hx with rfl | hx
      · exact ⟨by simp [subT], okB_in h, (okB_iff.1 h).2.1⟩
      exact ⟨by simp only [subT]; exact List.mem_cons_of_mem _ (hsub x (a1 x hx).1), (a1 x hx).2⟩
    · exact List.nodup_cons.2 ⟨fun hm => hn2.1 (hsub i (a1 i hm).1), a2⟩
    · intro j hj
      simp only [List.length_cons] at hj
      cases j with
      | zero =>
        simp only [List.getD_cons_zero, List.getD_cons_succ, Nat.zero_add]
        rw [a5]; exact List.getElem_mem hlt
      | succ j => simp only [List.getD_cons_succ]; exact a6 j (by omega)
    rw [List.length_cons, Nat.add_sub_cancel]
    cases hl : P.length with
    | zero => omega
    | succ n => rw [List.getD_cons_succ]; rw [hl, Nat.add_sub_cancel] at a7; exact a7
theorem path_ok (h : validT T = true) : PathOk T (pathK T key) := by
  obtain ⟨h1, h2, h3, _⟩ := valid_ok h
  obtain ⟨a1, a2, a3, a4, a5, a6, a7⟩ := path_all (key := key) h2 h3
  rw [show pathT T key (heightT T) T.root = pathK T key from rfl] at a1 a2 a3 a4 a5 a6 a7
  have hm : ∀ j, j < (pathK T key).length → (pathK T key).getD j 0 ∈ pathK T key := fun j hj => by rw [getD_in hj]; exact List.getElem_mem hj
  refine ⟨a4, Nat.le_trans a3 h1, a5, fun j hj => (a1 _ (hm j hj)).2.1, fun j hj => (a1 _ (hm j hj)).2.2, fun i j hij hj => ?_, a6, a7⟩
  rw [getD_in hj, getD_in (show i < (pathK T key).length from Nat.lt_trans hij hj)]
  exact fun e => absurd ((List.pairwise_iff_getElem.1 a2) i j (by omega) hj hij) (by simpa using e)
end
def split1 (p : PgT) : PgT × Int × PgT :=
  if p.kids = [] then (leafP ((prsP p).take (((prsP p).length + 1) / 2)), (((prsP p).drop (((prsP p).length + 1) / 2)).getD 0 ⟨0, 0⟩).key, leafP ((prsP p).drop (((prsP p).length + 1) / 2)))
  else (innP (p.keys.take (p.keys.length / 2)) (p.kids.take (p.keys.length / 2 + 1)), p.keys.getD (p.keys.length / 2) 0, innP (p.keys.drop (p.keys.length / 2 + 1)) (p.kids.drop (p.keys.length / 2 + 1)))
def addK (p : PgT) (pl : Int) (key kid : Int) : PgT := innP (p.keys.take pl.toNat ++ [key] ++ p.keys.drop pl.toNat) (p.kids.take (pl.toNat + 1) ++ [kid] ++ p.kids.drop (pl.toNat + 1))
def growT (P : List Int) : Nat → TrT → TrT
  | 0, T => T
  | a + 1, T =>
    if (gP T (P.getD a 0)).keys.length ≤ 4 then T else
    let s := split1 (gP T (P.getD a 0))
    let T1 := addP (setP T (P.getD a 0) s.1) s.2.2
    if a = 0 then ⟨(T.pages.length : Int) + 1, T1.pages ++ [innP [s.2.1] [P.getD 0 0, (T.pages.length : Int)]]⟩
    else growT P a (setP T1 (P.getD (a - 1) 0) (addK (gP T1 (P.getD (a - 1) 0)) (plcI (gP T1 (P.getD (a - 1) 0)).kids (P.getD a 0)) s.2.1 (T.pages.length : Int)))
def leafI (P : List Int) : Int := P.getD (P.length - 1) 0
def startT (T : TrT) (P : List Int) (x : PairT) : TrT := setP T (leafI P) (leafP (putP (prsP (gP T (leafI P))) x))
def putF (T : TrT) (x : PairT) : TrT := growT (pathK T x.key) (pathK T x.key).length (startT T (pathK T x.key) x)
section
variable {T T0 R : TrT} {P : List Int} {a : Nat} {i j : Int} {p : PgT}
theorem gP_set_own (h : inT T i = true) : gP (setP T i p) i = p := by
  have := inT_iff.1 h
  unfold gP setP
  rw [List.getD_eq_getElem?_getD, List.getElem?_set_self (by omega)]; rfl
theorem gP_set_ne (h : 0 ≤ i) (h2 : 0 ≤ j) (hn : i ≠ j) : gP (setP T i p) j = gP T j := by
  unfold gP setP
  rw [List.getD_eq_getElem?_getD, List.getElem?_set_ne (by omega), ← List.getD_eq_getElem?_getD]
theorem gP_add (h : inT T j = true) : gP (addP T p) j = gP T j := by
  have := inT_iff.1 h
  unfold gP addP
  rw [List.getD_eq_getElem?_getD, List.getElem?_append_left (by omega), ← List.getD_eq_getElem?_getD]
theorem inT_set : inT (setP T i p) j = inT T j := by simp [inT, setP]
theorem inT_add (h : inT T j = true) : inT (addP T p) j = true := by
  have := inT_iff.1 h
  refine inT_iff.2 ⟨this.1, ?_⟩
  simp only [addP, List.length_append, List.length_cons, List.length_nil]; omega
theorem prs_leafP {r : List PairT} : prsP (leafP r) = r := by
  unfold prsP leafP
  apply List.ext_getElem
  · simp
  intro k h1 h2
  simp only [List.length_map, List.length_range] at h1
  have h3 : k < r.length := by simpa using h1
  simp [h3]
theorem put_isVal {l : List PairT} (h : validR l = true) {x : PairT} (hl : l.length ≤ 23) (hx : validR [x] = true) : validR (putP l x) = true := by
  obtain ⟨_, h2, h3⟩ := validR_iff.1 h
  obtain ⟨_, g2, g3⟩ := validR_iff.1 hx
  obtain ⟨h4, h5⟩ := validK_iff.1 h3
  have g4 := (validK_iff.1 g3).1 x.key (by simp)
  have hpl : (putP l x).length ≤ l.length + 1 := put_len
  refine validR_iff.2 ⟨by omega, fun p hp => ?_, validK_iff.2 ⟨fun k hk => ?_, put_keys_pair h5 x⟩⟩
  · rcases (put_mem h5 x p).1 hp with rfl | ⟨hp, _⟩
    · exact g2 p (by simp)
    exact h2 p hp
  obtain ⟨p, hp, rfl⟩ := List.mem_map.1 hk
  rcases (put_mem h5 x p).1 hp with rfl | ⟨hp, _⟩
  · exact g4
  exact h4 _ (List.mem_map.2 ⟨p, hp, rfl⟩)
def curOk (p : PgT) : Prop := p.keys.length ≤ 5 ∧ ((p.kids = [] ∧ p.vals.length = p.keys.length ∧ validR (prsP p) = true) ∨ (p.kids.length = p.keys.length + 1 ∧ 1 ≤ p.keys.length))
def smallP (p : PgT) : Prop := p.keys.length ≤ 5 ∧ p.kids.length ≤ 6 ∧ p.vals.length ≤ 5
structure GI (T0 : TrT) (P : List Int) (a : Nat) (R : TrT) : Prop where
  a1 : 1 ≤ a ∧ a ≤ P.length
  len : T0.pages.length ≤ R.pages.length ∧ R.pages.length + a ≤ T0.pages.length + P.length
  up : ∀ j, j + 1 < a → gP R (P.getD j 0) = gP T0 (P.getD j 0)
  root : R.root = T0.root
  cur : curOk (gP R (P.getD (a - 1) 0))
  small : ∀ p ∈ R.pages, smallP p
theorem fr_small (h : frB T i = true) : smallP (gP T i) := by
  have h4 := fr_len h
  by_cases hk : (gP T i).kids = []
  · have := (fr_leaf h hk).1
    exact ⟨by omega, by simp [hk], by omega⟩
  have h5 := (fr_in h hk).2
  have h6 : (gP T i).vals = [] := by
    unfold frB at h
    rw [if_neg hk] at h
    simp only [Bool.and_eq_true, decide_eq_true_eq] at h
    first | exact h.2.1.1 | exact h.1.2.1 | exact h.2.1 | (rcases h with ⟨_, h⟩; rcases h with ⟨h, _⟩; first | exact h | exact h.1)
  exact ⟨by omega, by omega, by simp [h6]⟩
theorem valid_small_all (h : validT T = true) : ∀ p ∈ T.pages, smallP p := by
  intro p hp
  obtain ⟨k, hk, rfl⟩ := List.getElem_of_mem hp
  have hin : inT T (k : Int) = true := inT_iff.2 ⟨by omega, by omega⟩
  obtain ⟨e, lo, hi, _, h2⟩ := valid_page h hin
  have := fr_small (okB_iff.1 h2).2.1
  rwa [show gP T (k : Int) = T.pages[k] by unfold gP; rw [List.getD_eq_getElem?_getD, Int.toNat_natCast, List.getElem?_eq_getElem hk]; rfl] at this
theorem small_set (h : ∀ p ∈ T.pages, smallP p) (hp : smallP p) : ∀ q ∈ (setP T i p).pages, smallP q := by
  intro q hq
  rcases List.mem_or_eq_of_mem_set hq with hq | rfl
  · exact h q hq
  exact hp
theorem small_add (h : ∀ p ∈ T.pages, smallP p) (hp : smallP p) : ∀ q ∈ (addP T p).pages, smallP q := by
  intro q hq
  rcases List.mem_append.1 hq with hq | hq
  · exact h q hq
  rw [List.mem_singleton] at hq; subst hq; exact hp
theorem GI.start (h : validT T = true) (hP : PathOk T P) {x : PairT} (hx : validR [x] = true) : GI T P P.length (startT T P x) := by
  have hpos := hP.pos
  have hin := hP.inn (P.length - 1) (by omega)
  have hfr := hP.fr (P.length - 1) (by omega)
  have hv := prs_valid hfr hP.leaf
  have h4 := fr_len hfr
  have hvl := (fr_leaf hfr hP.leaf).1
  have hl : (prsP (gP T (leafI P))).length ≤ 4 := by rw [prs_len]; exact h4
  have hput := put_isVal hv (by rw [prs_len]; omega) hx
  have hpl : (putP (prsP (gP T (leafI P))) x).length ≤ 5 := by have := put_len (l := prsP (gP T (leafI P))) (x := x); omega
  refine ⟨⟨by omega, by omega⟩, by simp [startT, setP], fun j hj => ?_, rfl, ?_, ?_⟩
  · refine gP_set_ne (inT_iff.1 hin).1 (inT_iff.1 (hP.inn j (by omega))).1 ?_
    exact fun e => hP.nd j (P.length - 1) (by omega) (by omega) e.symm
  · rw [show gP (startT T P x) (P.getD (P.length - 1) 0) = leafP (putP (prsP (gP T (leafI P))) x) from gP_set_own hin]
    refine ⟨by simpa [leafP] using hpl, .inl ⟨rfl, by simp [leafP], by rw [prs_leafP]; exact hput⟩⟩
  exact small_set (valid_small_all h) ⟨by simpa [leafP] using hpl, by simp [leafP], by simpa [leafP] using hpl⟩
theorem plc_kid {l : List Int} {n : Int} {m : Nat} (h : n ∈ l) (hl : l.length = m + 1) : 0 ≤ plcI l n ∧ plcI l n ≤ (m : Int) := by
  have := plcI_in h; omega
theorem GI.curIn (h : GI T0 P a R) (hP : PathOk T0 P) {k : Nat} (hk : k < P.length) : inT R (P.getD k 0) = true := by
  have := inT_iff.1 (hP.inn k hk)
  exact inT_iff.2 ⟨this.1, by have := h.len.1; omega⟩
theorem GI.above (h : GI T0 P a R) (hP : PathOk T0 P) (h2 : 2 ≤ a) {q r : PgT} : gP (addP (setP R (P.getD (a - 1) 0) q) r) (P.getD (a - 2) 0) = gP T0 (P.getD (a - 2) 0) := by
  have h1 := h.a1
  have i1 := h.curIn hP (k := a - 1) (by omega)
  have i2 := h.curIn hP (k := a - 2) (by omega)
  rw [gP_add (by rw [inT_set]; exact i2), gP_set_ne (inT_iff.1 i1).1 (inT_iff.1 i2).1 (fun e => hP.nd (a - 2) (a - 1) (by omega) (by omega) e.symm)]
  exact h.up (a - 2) (by omega)
theorem above_in (hP : PathOk T0 P) (h2 : 2 ≤ a) (ha : a ≤ P.length) : P.getD (a - 1) 0 ∈ (gP T0 (P.getD (a - 2) 0)).kids ∧ (gP T0 (P.getD (a - 2) 0)).kids.length = (gP T0 (P.getD (a - 2) 0)).keys.length + 1 ∧ (gP T0 (P.getD (a - 2) 0)).keys.length ≤ 4 ∧ 1 ≤ (gP T0 (P.getD (a - 2) 0)).keys.length := by
  have hk := hP.kid (a - 2) (by omega)
  rw [show a - 2 + 1 = a - 1 by omega] at hk
  have hf := hP.fr (a - 2) (by omega)
  have hne : (gP T0 (P.getD (a - 2) 0)).kids ≠ [] := fun e => by rw [e] at hk; simp at hk
  exact ⟨hk, (fr_in hf hne).2, fr_len hf, (fr_in hf hne).1⟩
theorem addK_len {p : PgT} {pl key kid : Int} (h : p.kids.length = p.keys.length + 1) (h0 : 0 ≤ pl ∧ pl ≤ (p.keys.length : Int)) : (addK p pl key kid).keys.length = p.keys.length + 1 ∧ (addK p pl key kid).kids.length = p.keys.length + 2 ∧ (addK p pl key kid).vals = [] := by
  simp only [addK, innP, List.length_append, List.length_take, List.length_drop, List.length_cons, List.length_nil]
  refine ⟨by omega, by omega, trivial⟩
theorem split_small (h : curOk p) : smallP (split1 p).1 ∧ smallP (split1 p).2.2 := by
  obtain ⟨h5, h | h⟩ := h
  · unfold split1
    rw [if_pos h.1]
    simp only [smallP, leafP, List.length_map, List.length_take, List.length_drop, prs_len, List.length_nil]
    refine ⟨⟨by omega, by omega, by omega⟩, by omega, by omega, by omega⟩
  unfold split1
  rw [if_neg (by intro e; rw [e] at h; simp at h)]
  simp only [smallP, innP, List.length_take, List.length_drop, List.length_nil]
  refine ⟨⟨by omega, by omega, by omega⟩, by omega, by omega, by omega⟩
theorem GI.next (h : GI T0 P a R) (hP : PathOk T0 P) (h2 : 2 ≤ a) {q : PgT} (hq : q = addK (gP T0 (P.getD (a - 2) 0)) (plcI (gP T0 (P.getD (a - 2) 0)).kids (P.getD (a - 1) 0)) (split1 (gP R (P.getD (a - 1) 0))).2.1 (R.pages.length : Int)) :
    GI T0 P (a - 1) (setP (addP (setP R (P.getD (a - 1) 0) (split1 (gP R (P.getD (a - 1) 0))).1) (split1 (gP R (P.getD (a - 1) 0))).2.2) (P.getD (a - 2) 0) q) := by
  have h1 := h.a1
  have i1 := h.curIn hP (k := a - 1) (by omega)
  have i2 := h.curIn hP (k := a - 2) (by omega)
  obtain ⟨b1, b2, b3, b4⟩ := above_in hP h2 h1.2
  have hpl := plc_kid b1 b2
  have hl := addK_len (key := (split1 (gP R (P.getD (a - 1) 0))).2.1) (kid := (R.pages.length : Int)) b2 hpl
  rw [← hq] at hl
  have hs := split_small h.cur
  refine ⟨⟨by omega, by omega⟩, ?_, fun j hj => ?_, h.root, ?_, ?_⟩
  · have := h.len
    simp only [setP, addP, List.length_set, List.length_append, List.length_cons, List.length_nil]
    omega
  · have i3 := h.curIn hP (k := j) (by omega)
    rw [gP_set_ne (inT_iff.1 i2).1 (inT_iff.1 i3).1 (fun e => hP.nd j (a - 2) (by omega) (by omega) e.symm), gP_add (by rw [inT_set]; exact i3), gP_set_ne (inT_iff.1 i1).1 (inT_iff.1 i3).1 (fun e => hP.nd j (a - 1) (by omega) (by omega) e.symm)]
    exact h.up j (by omega)
  · rw [show a - 1 - 1 = a - 2 by omega, gP_set_own (inT_add (by rw [inT_set]; exact i2))]
    exact ⟨by omega, .inr ⟨by omega, by omega⟩⟩
  exact small_set (small_add (small_set h.small hs.1) hs.2) ⟨by omega, by omega, by simp [hl.2.2]⟩
theorem grow_stop (ha : 1 ≤ a) (h : (gP R (P.getD (a - 1) 0)).keys.length ≤ 4) : growT P a R = R := by
  obtain ⟨a, rfl⟩ : ∃ b, a = b + 1 := ⟨a - 1, by omega⟩
  simp only [growT]; rw [Nat.add_sub_cancel] at h; rw [if_pos h]
theorem grow_root (h : ¬ (gP R (P.getD 0 0)).keys.length ≤ 4) : growT P 1 R = ⟨(R.pages.length : Int) + 1, (addP (setP R (P.getD 0 0) (split1 (gP R (P.getD 0 0))).1) (split1 (gP R (P.getD 0 0))).2.2).pages ++ [innP [(split1 (gP R (P.getD 0 0))).2.1] [P.getD 0 0, (R.pages.length : Int)]]⟩ := by
  simp only [growT]; rw [if_neg h, if_pos trivial]
theorem grow_up (h2 : 2 ≤ a) (hG : GI T0 P a R) (hP : PathOk T0 P) (h : ¬ (gP R (P.getD (a - 1) 0)).keys.length ≤ 4) {q : PgT} (hq : q = addK (gP T0 (P.getD (a - 2) 0)) (plcI (gP T0 (P.getD (a - 2) 0)).kids (P.getD (a - 1) 0)) (split1 (gP R (P.getD (a - 1) 0))).2.1 (R.pages.length : Int)) :
    growT P a R = growT P (a - 1) (setP (addP (setP R (P.getD (a - 1) 0) (split1 (gP R (P.getD (a - 1) 0))).1) (split1 (gP R (P.getD (a - 1) 0))).2.2) (P.getD (a - 2) 0) q) := by
  have hab := hG.above hP h2 (q := (split1 (gP R (P.getD (a - 1) 0))).1) (r := (split1 (gP R (P.getD (a - 1) 0))).2.2)
  obtain ⟨a, rfl⟩ : ∃ b, a = b + 1 := ⟨a - 1, by omega⟩
  simp only [Nat.add_sub_cancel] at *
  simp only [growT]; rw [if_neg h, if_neg (by omega)]
  rw [show a + 1 - 2 = a - 1 by omega] at hab hq ⊢
  rw [hab, ← hq]
theorem Mem.gcap {w0 w : World} {R : List (Option Nat)} {M : List (List FE)} {l : List PgL} {e : TypeId} (h : Mem w0 w R M) (i : Nat) (hi : M[i]? = some (l.flatMap (pgF e))) {j : Nat} (hj : j < l.length) : l[j].k.l.length ≤ l[j].k.cp ∧ l[j].c.l.length ≤ l[j].c.cp ∧ l[j].v.l.length ≤ l[j].v.cp := by
  have hm : ∀ y ∈ pgF e l[j], y.own w := fun y hy => h.own _ (List.mem_flatten.2 ⟨_, List.mem_of_getElem? hi, List.mem_flatMap.2 ⟨_, List.getElem_mem hj, hy⟩⟩)
  refine ⟨?_, ?_, ?_⟩
  · obtain ⟨A', c', he, h1, _⟩ := own_form (hm (slF e l[j].k) (by simp [pgF])); cases he; exact h1
  · obtain ⟨A', c', he, h1, _⟩ := own_form (hm (slF e l[j].c) (by simp [pgF])); cases he; exact h1
  obtain ⟨A', c', he, h1, _⟩ := own_form (hm (slF e l[j].v) (by simp [pgF])); cases he; exact h1
end
end Go.Px
end
section
namespace Go.Px
open Go.RowKit
def wkB (T : TrT) : Nat → Int → Prop
  | 0, _ => False
  | d + 1, i => inT T i = true ∧ ((gP T i).kids = [] → (gP T i).vals.length = (gP T i).keys.length) ∧ ∀ x ∈ (gP T i).kids, wkB T d x
def WK (T : TrT) : Prop := wkB T 3 T.root ∧ (1 ≤ T.pages.length ∧ T.pages.length ≤ 64) ∧ ∀ p ∈ T.pages, smallP p
section
variable {T T0 R : TrT}
theorem ok_wk : ∀ {d e : Nat} {i low high : Int}, okB T d i low high = true → d ≤ e → wkB T e i
  | 0, _, _, _, _, h, _ => by simp [okB] at h
  | d + 1, 0, _, _, _, _, h => by omega
  | d + 1, e + 1, i, low, high, h, he => by
    refine ⟨okB_in h, fun hk => (fr_leaf (okB_iff.1 h).2.1 hk).1, fun x hx => ?_⟩
    obtain ⟨k, hk, rfl⟩ := List.getElem_of_mem hx
    exact ok_wk (ok_kid h hk) (by omega)
theorem valid_WK (h : validT T = true) : WK T := by
  obtain ⟨h1, h2, _, _⟩ := valid_ok h
  have := valid_len h
  exact ⟨ok_wk h2 h1, by omega, valid_small_all h⟩
theorem small_at (hs : ∀ p ∈ T.pages, smallP p) {i : Int} (hi : inT T i = true) : smallP (gP T i) := by
  have h := inT_iff.1 hi
  unfold gP
  rw [List.getD_eq_getElem?_getD, List.getElem?_eq_getElem (by omega)]
  exact hs _ (List.getElem_mem _)
theorem flat_len7 {f : Int → List Int} {B : Nat} : ∀ {l : List Int}, (∀ x ∈ l, (f x).length ≤ B) → (l.flatMap f).length ≤ l.length * B
  | [], _ => by simp
  | x :: l, h => by
    have h1 := h x (by simp)
    have h2 := flat_len7 (l := l) (fun y hy => h y (List.mem_cons_of_mem _ hy))
    simp only [List.flatMap_cons, List.length_append, List.length_cons, Nat.succ_mul]
    omega
theorem wk_len (hs : ∀ p ∈ T.pages, smallP p) : ∀ {d : Nat} {i : Int}, wkB T d i → (subT T d i).length ≤ 7 ^ d
  | 0, _, h => by cases h
  | d + 1, i, h => by
    have h1 := (small_at hs h.1).2.1
    have h2 := flat_len7 (l := (gP T i).kids) (f := subT T d) (B := 7 ^ d) (fun x hx => wk_len hs (h.2.2 x hx))
    have h3 : (gP T i).kids.length * 7 ^ d ≤ 6 * 7 ^ d := Nat.mul_le_mul_right _ h1
    have h4 : 1 ≤ 7 ^ d := Nat.pow_pos (by omega)
    simp only [subT, List.length_cons]
    rw [Nat.pow_succ]; omega
theorem wk_len3 (hs : ∀ p ∈ T.pages, smallP p) {d : Nat} {i : Int} (h : wkB T d i) (hd : d ≤ 3) : (subT T d i).length ≤ 343 := by
  have := wk_len hs h
  have h2 : d = 0 ∨ d = 1 ∨ d = 2 ∨ d = 3 := by omega
  rcases h2 with rfl | rfl | rfl | rfl <;> simp at this <;> omega
theorem wk_mem : ∀ {d : Nat} {i x : Int}, wkB T d i → x ∈ subT T d i → inT T x = true ∧ ((gP T x).kids = [] → (gP T x).vals.length = (gP T x).keys.length)
  | 0, _, _, h, _ => by cases h
  | d + 1, i, x, h, hx => by
    simp only [subT] at hx
    rcases List.mem_cons.1 hx with rfl | hx
    · exact ⟨h.1, h.2.1⟩
    obtain ⟨y, hy, hx⟩ := List.mem_flatMap.1 hx
    exact wk_mem (h.2.2 y hy) hx
theorem wk_step {d : Nat} {i : Int} (h : wkB T (d + 1) i) {k : Nat} (hk : k < (gP T i).kids.length) : wkB T d (gP T i).kids[k] := h.2.2 _ (List.getElem_mem hk)
end
def cutK (p : PgT) (pl : Nat) : PgT := innP (p.keys.take (pl - 1) ++ p.keys.drop pl) (p.kids.take pl ++ p.kids.drop (pl + 1))
def setK (p : PgT) (k : Nat) (v : Int) : PgT := ⟨p.keys.set k v, p.kids, p.vals⟩
def mendR (R : TrT) (up a b : Int) (f : Nat) : TrT × Int :=
  if (prsP (gP R a) ++ prsP (gP R b)).length ≤ 4 then (setP (setP R a (leafP (prsP (gP R a) ++ prsP (gP R b)))) up (cutK (gP R up) (f + 1)), b)
  else (setP (setP (setP R a (leafP ((prsP (gP R a) ++ prsP (gP R b)).take (((prsP (gP R a) ++ prsP (gP R b)).length + 1) / 2)))) b (leafP ((prsP (gP R a) ++ prsP (gP R b)).drop (((prsP (gP R a) ++ prsP (gP R b)).length + 1) / 2)))) up
    (setK (gP R up) f ((prsP (gP R a) ++ prsP (gP R b)).getD (((prsP (gP R a) ++ prsP (gP R b)).length + 1) / 2) ⟨0, 0⟩).key), -1)
def bothK (R : TrT) (up a b : Int) (f : Nat) : List Int := (gP R a).keys ++ [(gP R up).keys.getD f 0] ++ (gP R b).keys
def bothC (R : TrT) (a b : Int) : List Int := (gP R a).kids ++ (gP R b).kids
def mendI (R : TrT) (up a b : Int) (f : Nat) : TrT × Int :=
  if (bothK R up a b f).length ≤ 4 then (setP (setP R a (innP (bothK R up a b f) (bothC R a b))) up (cutK (gP R up) (f + 1)), b)
  else (setP (setP (setP R a (innP ((bothK R up a b f).take ((bothK R up a b f).length / 2)) ((bothC R a b).take ((bothK R up a b f).length / 2 + 1)))) b (innP ((bothK R up a b f).drop ((bothK R up a b f).length / 2 + 1)) ((bothC R a b).drop ((bothK R up a b f).length / 2 + 1)))) up
    (setK (gP R up) f ((bothK R up a b f).getD ((bothK R up a b f).length / 2) 0)), -1)
def mendF (R : TrT) (up : Int) (f : Nat) : TrT × Int :=
  if (gP R ((gP R up).kids.getD f 0)).kids = [] then mendR R up ((gP R up).kids.getD f 0) ((gP R up).kids.getD (f + 1) 0) f
  else mendI R up ((gP R up).kids.getD f 0) ((gP R up).kids.getD (f + 1) 0) f
def goneF (g : List Int) (b : Int) : List Int := if 0 ≤ b then g ++ [b] else g
def mendL (P : List Int) : Nat → TrT × List Int → TrT × List Int
  | 0, s => s
  | a + 1, s => if a = 0 ∨ 2 ≤ (gP s.1 (P.getD a 0)).keys.length then s else
    mendL P a ((mendF s.1 (P.getD (a - 1) 0) (plcI (gP s.1 (P.getD (a - 1) 0)).kids (P.getD a 0) - 1).toNat).1, goneF s.2 (mendF s.1 (P.getD (a - 1) 0) (plcI (gP s.1 (P.getD (a - 1) 0)).kids (P.getD a 0) - 1).toNat).2)
def shI (g k : Int) : Int := k - (if k > g then 1 else 0)
def cutP (g : Int) (p : PgT) : PgT := ⟨p.keys, p.kids.map (shI g), p.vals⟩
def cutF (R : TrT) (g : Int) : TrT := ⟨shI g R.root, (R.pages.eraseIdx g.toNat).map (cutP g)⟩
def cutA : Nat → TrT → List Int → TrT
  | n + 1, R, g :: l => cutA n (cutF R g) (l.map (shI g))
  | _, R, _ => R
def rootF (s : TrT × List Int) : TrT × List Int :=
  if (gP s.1 s.1.root).kids.length = 1 then (⟨(gP s.1 s.1.root).kids.getD 0 0, s.1.pages⟩, s.2 ++ [s.1.root]) else s
def dropR (r : List PairT) (k : Int) : List PairT := if isInB r k then dropP r k else []
def beginF (T : TrT) (P : List Int) (key : Int) : TrT := setP T (leafI P) (leafP (dropR (prsP (gP T (leafI P))) key))
def dropF (T : TrT) (key : Int) : TrT :=
  cutA 4 (rootF (mendL (pathK T key) (pathK T key).length (beginF T (pathK T key) key, []))).1 (rootF (mendL (pathK T key) (pathK T key).length (beginF T (pathK T key) key, []))).2
structure ShOk (lv : Int → Nat) (n : Nat) (p : PgT) (l : Nat) : Prop where
  k4 : p.keys.length ≤ 4
  c : (l = 1 ∧ p.kids = [] ∧ p.vals.length = p.keys.length) ∨ (2 ≤ l ∧ p.kids.length = p.keys.length + 1 ∧ p.vals = [] ∧ ∀ x ∈ p.kids, (0 ≤ x ∧ x < (n : Int)) ∧ lv x + 1 = l)
structure FV (lv : Int → Nat) (R : TrT) (g : List Int) : Prop where
  sh : ∀ i, inT R i = true → ShOk lv R.pages.length (gP R i) (lv i)
  nog : ∀ i, inT R i = true → ∀ x ∈ (gP R i).kids, x ∉ g
  gin : ∀ x ∈ g, inT R x = true
  nd : g.Nodup
  root : inT R R.root = true ∧ R.root ∉ g
section
variable {T T0 R : TrT} {lv : Int → Nat} {g : List Int} {g0 : Int}
def unI (g k : Int) : Int := if k < g then k else k + 1
theorem sh_un {k : Int} (h : k ≠ g0) : unI g0 (shI g0 k) = k := by
  unfold unI shI
  by_cases h1 : k > g0
  · rw [if_pos h1, if_neg (by omega)]; omega
  rw [if_neg h1, if_pos (by omega)]; omega
theorem sh_inj {a b : Int} (ha : a ≠ g0) (hb : b ≠ g0) (h : shI g0 a = shI g0 b) : a = b := by
  rw [← sh_un ha, ← sh_un hb, h]
theorem cut_len (h : inT R g0 = true) : (cutF R g0).pages.length + 1 = R.pages.length := by
  have := inT_iff.1 h
  simp only [cutF, List.length_map, List.length_eraseIdx]
  rw [if_pos (by omega)]; omega
theorem cut_in (h : inT R g0 = true) {i : Int} : inT (cutF R g0) i = true ↔ 0 ≤ i ∧ inT R (unI g0 i) = true := by
  have h1 := inT_iff.1 h
  have h2 := cut_len h
  rw [inT_iff, inT_iff]
  unfold unI
  split <;> omega
theorem cut_gP (h : inT R g0 = true) {i : Int} (hi : inT (cutF R g0) i = true) : gP (cutF R g0) i = cutP g0 (gP R (unI g0 i)) := by
  have h1 := inT_iff.1 h
  have h2 := inT_iff.1 hi
  have h3 := inT_iff.1 ((cut_in h).1 hi).2
  have h4 := cut_len h
  unfold gP
  have hl : i.toNat < (R.pages.eraseIdx g0.toNat).length := by
    rw [List.length_eraseIdx, if_pos (by omega)]; omega
  simp only [cutF]
  rw [List.getD_eq_getElem?_getD, List.getD_eq_getElem?_getD, List.getElem?_eq_getElem (by simpa using hl), List.getElem?_eq_getElem (by omega), Option.getD_some, Option.getD_some, List.getElem_map, List.getElem_eraseIdx]
  unfold unI
  by_cases hc : i < g0
  · rw [dif_pos (by omega)]; simp only [if_pos hc]
  rw [dif_neg (by omega)]
  congr 1
  simp only [if_neg hc]
  congr 1
  omega
theorem FV.cut {l : List Int} (h : FV lv R (g0 :: l)) : FV (fun i => lv (unI g0 i)) (cutF R g0) (l.map (shI g0)) := by
  have hg := h.gin g0 (by simp)
  have hn := List.nodup_cons.1 h.nd
  have hne : ∀ x ∈ l, x ≠ g0 := fun x hx e => hn.1 (e ▸ hx)
  have hrt : R.root ≠ g0 := fun e => h.root.2 (by simp [e])
  have hg1 := inT_iff.1 hg
  have hin : ∀ x, x ≠ g0 → inT R x = true → inT (cutF R g0) (shI g0 x) = true := fun x hx hi => by
    refine (cut_in hg).2 ⟨?_, by rw [sh_un hx]; exact hi⟩
    have := inT_iff.1 hi
    unfold shI
    split <;> omega
  refine ⟨fun i hi => ?_, fun i hi x hx => ?_, fun x hx => ?_, ?_, hin _ hrt h.root.1, fun hm => ?_⟩
  · have h1 := ((cut_in hg).1 hi).2
    have h2 := h.sh _ h1
    rw [cut_gP hg hi]
    refine ⟨h2.k4, ?_⟩
    rcases h2.c with ⟨a, b, c⟩ | ⟨a, b, c, d⟩
    · exact .inl ⟨a, by simp [cutP, b], c⟩
    refine .inr ⟨a, by simpa [cutP] using b, c, fun x hx => ?_⟩
    obtain ⟨y, hy, rfl⟩ := List.mem_map.1 hx
    obtain ⟨d1, d2⟩ := d y hy
    have hy0 : y ≠ g0 := fun e => h.nog _ h1 y hy (by simp [e])
    have := inT_iff.1 (hin y hy0 (inT_iff.2 d1))
    exact ⟨this, by rw [sh_un hy0]; exact d2⟩
  · have h1 := ((cut_in hg).1 hi).2
    rw [cut_gP hg hi] at hx
    obtain ⟨y, hy, rfl⟩ := List.mem_map.1 hx
    have hy2 := h.nog _ h1 y hy
    intro hm
    obtain ⟨z, hz, e⟩ := List.mem_map.1 hm
    have := sh_inj (hne z hz) (fun e => hy2 (by simp [e])) e
    subst this
    exact hy2 (List.mem_cons_of_mem _ hz)
  · obtain ⟨y, hy, rfl⟩ := List.mem_map.1 hx
    exact hin y (hne y hy) (h.gin y (List.mem_cons_of_mem _ hy))
  · refine List.pairwise_map.2 (hn.2.imp_of_mem fun ha hb hab e => hab (sh_inj (hne _ ha) (hne _ hb) e))
  obtain ⟨z, hz, e⟩ := List.mem_map.1 hm
  have := sh_inj (hne z hz) hrt e
  subst this
  exact h.root.2 (List.mem_cons_of_mem _ hz)
end
end Go.Px
end
section
namespace Go.Px
open Go.RowKit
section
variable {T T0 R : TrT} {P : List Int} {a : Nat} {s : TrT × List Int}
def lvT (T : TrT) (i : Int) : Nat := 1 + hgt T 3 i
theorem lv_ok {e : Nat} {i lo hi : Int} (h : okB T (e + 1) i lo hi = true) (he : e ≤ 3) : lvT T i = e + 1 := by
  unfold lvT; rw [hgt_ok h he]; omega
theorem dis_flat {f : Int → List Int} : ∀ {l : List Int}, (l.flatMap f).Nodup → ∀ {y z x : Int}, y ∈ l → z ∈ l → x ∈ f y → x ∈ f z → y = z
  | [], _, _, _, _, h, _, _, _ => by simp at h
  | u :: l, hn, y, z, x, hy, hz, h1, h2 => by
    rw [List.flatMap_cons] at hn
    have hn2 := List.nodup_append.1 hn
    rcases List.mem_cons.1 hy with e1 | q1 <;> rcases List.mem_cons.1 hz with e2 | q2
    · rw [e1, e2]
    · rw [e1] at h1; exact absurd rfl (hn2.2.2 x h1 x (List.mem_flatMap.2 ⟨z, q2, h2⟩))
    · rw [e2] at h2; exact absurd rfl (hn2.2.2 x h2 x (List.mem_flatMap.2 ⟨y, q1, h1⟩))
    exact dis_flat hn2.2.1 q1 q2 h1 h2
theorem nd_flat {f : Int → List Int} : ∀ {l : List Int}, (l.flatMap f).Nodup → (∀ y ∈ l, y ∈ f y) → l.Nodup
  | [], _, _ => List.nodup_nil
  | u :: l, hn, h => by
    rw [List.flatMap_cons] at hn
    have hn2 := List.nodup_append.1 hn
    refine List.nodup_cons.2 ⟨fun hm => ?_, nd_flat hn2.2.1 fun y hy => h y (List.mem_cons_of_mem _ hy)⟩
    exact absurd rfl (hn2.2.2 u (h u (by simp)) u (List.mem_flatMap.2 ⟨u, hm, h u (by simp)⟩))
theorem nd_part {f : Int → List Int} : ∀ {l : List Int}, (l.flatMap f).Nodup → ∀ y ∈ l, (f y).Nodup
  | [], _, _, h => by simp at h
  | u :: l, hn, y, h => by
    rw [List.flatMap_cons] at hn
    have hn2 := List.nodup_append.1 hn
    rcases List.mem_cons.1 h with rfl | h
    · exact hn2.1
    exact nd_part hn2.2.1 y h
theorem par_all : ∀ {d : Nat} {r lo hi : Int}, okB T d r lo hi = true → d ≤ 3 → (subT T d r).Nodup →
    (∀ i ∈ subT T d r, (gP T i).kids.Nodup ∧ lvT T i ≤ d ∧ ∀ x ∈ (gP T i).kids, x ∈ subT T d r ∧ lvT T x + 1 = lvT T i) ∧
    ∀ i j x, i ∈ subT T d r → j ∈ subT T d r → x ∈ (gP T i).kids → x ∈ (gP T j).kids → i = j
  | 0, _, _, _, h, _, _ => by simp [okB] at h
  | d + 1, r, lo, hi, h, hd, hn => by
    simp only [subT] at hn ⊢
    have hn2 := (List.nodup_cons.1 hn).2
    have ih : ∀ y ∈ (gP T r).kids, (∀ i ∈ subT T d y, (gP T i).kids.Nodup ∧ lvT T i ≤ d ∧ ∀ x ∈ (gP T i).kids, x ∈ subT T d y ∧ lvT T x + 1 = lvT T i) ∧
        ∀ i j x, i ∈ subT T d y → j ∈ subT T d y → x ∈ (gP T i).kids → x ∈ (gP T j).kids → i = j := fun y hy => by
      obtain ⟨k, hk, rfl⟩ := List.getElem_of_mem hy
      exact par_all (ok_kid h hk) (by omega) (nd_part hn2 _ hy)
    have hlr := lv_ok h (by omega)
    have hky : ∀ y ∈ (gP T r).kids, y ∈ subT T d y ∧ lvT T y = d := fun y hy => by
      obtain ⟨k, hk, rfl⟩ := List.getElem_of_mem hy
      have hok := ok_kid h hk
      cases d with
      | zero => simp [okB] at hok
      | succ d => exact ⟨by simp [subT], lv_ok hok (by omega)⟩
    have A : ∀ i ∈ r :: (gP T r).kids.flatMap (subT T d), (gP T i).kids.Nodup ∧ lvT T i ≤ d + 1 ∧ ∀ x ∈ (gP T i).kids, x ∈ r :: (gP T r).kids.flatMap (subT T d) ∧ lvT T x + 1 = lvT T i := by
      intro i hi
      rcases List.mem_cons.1 hi with rfl | hi
      · refine ⟨nd_flat hn2 fun y hy => (hky y hy).1, by omega, fun x hx => ⟨List.mem_cons_of_mem _ (List.mem_flatMap.2 ⟨x, hx, (hky x hx).1⟩), by rw [(hky x hx).2]; omega⟩⟩
      obtain ⟨y, hy, hi⟩ := List.mem_flatMap.1 hi
      obtain ⟨b1, b2, b3⟩ := (ih y hy).1 i hi
      exact ⟨b1, by omega, fun x hx => ⟨List.mem_cons_of_mem _ (List.mem_flatMap.2 ⟨y, hy, (b3 x hx).1⟩), (b3 x hx).2⟩⟩
    refine ⟨A, fun i j x hi hj hxi hxj => ?_⟩
    have l1 := ((A i hi).2.2 x hxi).2
    have l2 := ((A j hj).2.2 x hxj).2
    rcases List.mem_cons.1 hi with rfl | hi <;> rcases List.mem_cons.1 hj with rfl | hj
    · rfl
    · obtain ⟨y, hy, hj⟩ := List.mem_flatMap.1 hj
      have := ((ih y hy).1 j hj).2.1; omega
    · obtain ⟨y, hy, hi⟩ := List.mem_flatMap.1 hi
      have := ((ih y hy).1 i hi).2.1; omega
    obtain ⟨y, hy, hi⟩ := List.mem_flatMap.1 hi
    obtain ⟨z, hz, hj⟩ := List.mem_flatMap.1 hj
    have e := dis_flat hn2 hy hz (((ih y hy).1 i hi).2.2 x hxi).1 (((ih z hz).1 j hj).2.2 x hxj).1
    subst e
    exact (ih y hy).2 i j x hi hj hxi hxj
structure LvV (T : TrT) : Prop where
  sh : ∀ i, inT T i = true → ShOk (lvT T) T.pages.length (gP T i) (lvT T i)
  le : ∀ i, inT T i = true → lvT T i ≤ lvT T T.root
  r3 : lvT T T.root ≤ 3 ∧ inT T T.root = true
  nd : ∀ i, inT T i = true → (gP T i).kids.Nodup
  par : ∀ i j x, inT T i = true → inT T j = true → x ∈ (gP T i).kids → x ∈ (gP T j).kids → i = j
theorem valid_Lv (h : validT T = true) : LvV T := by
  obtain ⟨h1, h2, h3, h4⟩ := valid_ok h
  have hc := (cover h3 (fun x hx => inT_iff.1 (sub_in h2 x hx))).2 h4
  have hm : ∀ i, inT T i = true → i ∈ subT T (heightT T) T.root := fun i hi => by
    have hi2 := inT_iff.1 hi
    have := hc i.toNat (by omega)
    rwa [show ((i.toNat : Nat) : Int) = i by omega] at this
  obtain ⟨a1, a2⟩ := par_all h2 h1 h3
  have hr : lvT T T.root = heightT T := by
    obtain ⟨n, hn⟩ : ∃ n, heightT T = n + 1 := ⟨heightT T - 1, by have := height_1 (T := T); omega⟩
    rw [hn] at h2 h1 ⊢
    exact lv_ok h2 (by omega)
  refine ⟨fun i hi => ?_, fun i hi => by rw [hr]; exact (a1 i (hm i hi)).2.1, ⟨by omega, okB_in h2⟩, fun i hi => (a1 i (hm i hi)).1, fun i j x hi hj => a2 i j x (hm i hi) (hm j hj)⟩
  obtain ⟨e, lo, hi2, he, hok⟩ := valid_page h hi
  have hl := lv_ok hok (by omega)
  have hf := (okB_iff.1 hok).2.1
  refine ⟨fr_len hf, ?_⟩
  rcases (okB_iff.1 hok).2.2.2 with ⟨b1, b2⟩ | ⟨b1, b2, b3⟩
  · exact .inl ⟨by omega, b2, (fr_leaf hf b2).1⟩
  refine .inr ⟨by omega, (fr_in hf b2).2, ?_, fun x hx => ⟨?_, ((a1 i (hm i hi)).2.2 x hx).2⟩⟩
  · have := hf
    unfold frB at this
    rw [if_neg b2] at this
    simp only [Bool.and_eq_true, decide_eq_true_eq] at this
    first | exact this.2.1.1 | exact this.1.2.1 | exact this.2.1 | (rcases this with ⟨_, h⟩; rcases h with ⟨h, _⟩; first | exact h | exact h.1)
  have hk := List.idxOf_lt_length_iff.2 hx
  have := ok_kid hok hk
  rw [List.getElem_idxOf] at this
  exact inT_iff.1 (okB_in this)
structure DV (T0 : TrT) (P : List Int) (a : Nat) (s : TrT × List Int) : Prop where
  a1 : 1 ≤ a ∧ a ≤ P.length
  len : s.1.pages.length = T0.pages.length
  root : s.1.root = T0.root
  sh : ∀ i, inT T0 i = true → ShOk (lvT T0) T0.pages.length (gP s.1 i) (lvT T0 i)
  up : ∀ i, inT T0 i = true → lvT T0 (P.getD (a - 1) 0) < lvT T0 i → gP s.1 i = gP T0 i
  nog : ∀ i, inT T0 i = true → ∀ x ∈ (gP s.1 i).kids, x ∉ s.2
  gin : ∀ x ∈ s.2, inT T0 x = true ∧ lvT T0 x < lvT T0 (P.getD (a - 1) 0)
  nd : s.2.Nodup
  gl : s.2.length + a ≤ P.length
theorem sh_leaf {lv : Int → Nat} {n l : Nat} {p : PgT} (h : ShOk lv n p l) (hk : p.kids = []) : l = 1 ∧ p.vals.length = p.keys.length := by
  rcases h.c with ⟨a, _, c⟩ | ⟨_, b, _⟩
  · exact ⟨a, c⟩
  rw [hk] at b; simp at b
theorem sh_in {lv : Int → Nat} {n l : Nat} {p : PgT} (h : ShOk lv n p l) (hk : p.kids ≠ []) : 2 ≤ l ∧ p.kids.length = p.keys.length + 1 ∧ p.vals = [] ∧ ∀ x ∈ p.kids, (0 ≤ x ∧ x < (n : Int)) ∧ lv x + 1 = l := by
  rcases h.c with ⟨_, b, _⟩ | h
  · exact absurd b hk
  exact h
theorem sh_leafP {lv : Int → Nat} {n : Nat} {r : List PairT} (h : r.length ≤ 4) : ShOk lv n (leafP r) 1 := ⟨by simpa [leafP] using h, .inl ⟨rfl, rfl, by simp [leafP]⟩⟩
theorem dropR_len {r : List PairT} {k : Int} : (dropR r k).length ≤ r.length := by
  unfold dropR
  split
  · exact drop_len
  simp
theorem DV.start (h : validT T0 = true) (hP : PathOk T0 P) {key : Int} : DV T0 P P.length (beginF T0 P key, []) := by
  have hL := valid_Lv h
  have hpos := hP.pos
  have hin := hP.inn (P.length - 1) (by omega)
  have hs := hL.sh _ hin
  have hl := (sh_leaf hs hP.leaf).1
  have h4 := hs.k4
  have hlen : (dropR (prsP (gP T0 (leafI P))) key).length ≤ 4 := by
    have := dropR_len (r := prsP (gP T0 (leafI P))) (k := key)
    rw [prs_len] at this
    exact Nat.le_trans this h4
  have hnn : ∀ i, inT T0 i = true → i ≠ P.getD (P.length - 1) 0 → gP (beginF T0 P key) i = gP T0 i := fun i hi hne => gP_set_ne (inT_iff.1 hin).1 (inT_iff.1 hi).1 (fun e => hne e.symm)
  refine ⟨by omega, by simp [beginF, setP], rfl, fun i hi => ?_, fun i hi hlt => hnn i hi (fun e => by subst e; omega), fun i hi x hx => by simp, fun x hx => by simp at hx, List.nodup_nil, by simp⟩
  by_cases hne : i = P.getD (P.length - 1) 0
  · subst hne
    rw [show gP (beginF T0 P key) (P.getD (P.length - 1) 0) = leafP (dropR (prsP (gP T0 (leafI P))) key) from gP_set_own hin, hl]
    exact sh_leafP hlen
  rw [show gP (beginF T0 P key, ([] : List Int)).1 i = gP T0 i from hnn i hi hne]
  exact hL.sh i hi
theorem set_self {i : Int} (h : inT T i = true) : setP T i (gP T i) = T := by
  have := inT_iff.1 h
  have e : T.pages.set i.toNat (gP T i) = T.pages := by
    unfold gP
    rw [List.getD_eq_getElem?_getD, List.getElem?_eq_getElem (by omega), Option.getD_some, List.set_getElem_self]
  unfold setP; rw [e]
structure MK (T0 : TrT) (P : List Int) (a : Nat) (R : TrT) (f : Nat) : Prop where
  iu : inT T0 (P.getD (a - 2) 0) = true
  ku : gP R (P.getD (a - 2) 0) = gP T0 (P.getD (a - 2) 0)
  kl : (gP R (P.getD (a - 2) 0)).kids.length = (gP R (P.getD (a - 2) 0)).keys.length + 1
  f1 : f + 1 ≤ (gP R (P.getD (a - 2) 0)).keys.length
  k4 : (gP R (P.getD (a - 2) 0)).keys.length ≤ 4
  nd : (gP R (P.getD (a - 2) 0)).kids.Nodup
  lv : ∀ x ∈ (gP R (P.getD (a - 2) 0)).kids, inT T0 x = true ∧ lvT T0 x = lvT T0 (P.getD (a - 1) 0)
  lu : lvT T0 (P.getD (a - 2) 0) = lvT T0 (P.getD (a - 1) 0) + 1
theorem DV.place (h : DV T0 P a s) (hv : validT T0 = true) (hP : PathOk T0 P) (h2 : 2 ≤ a) : MK T0 P a s.1 (plcI (gP s.1 (P.getD (a - 2) 0)).kids (P.getD (a - 1) 0) - 1).toNat := by
  have hL := valid_Lv hv
  have h1 := h.a1
  have iu := hP.inn (a - 2) (by omega)
  obtain ⟨b1, b2, b3, b4⟩ := above_in hP h2 h1.2
  have hsu := sh_in (hL.sh _ iu) (fun e => by rw [e] at b1; simp at b1)
  have lc := (hsu.2.2.2 _ b1).2
  have ku := h.up _ iu (by omega)
  have hpl := plc_kid b1 b2
  refine ⟨iu, ku, by rw [ku]; exact b2, by rw [ku]; omega, by rw [ku]; exact b3, by rw [ku]; exact hL.nd _ iu, fun x hx => ?_, by omega⟩
  rw [ku] at hx
  have := hsu.2.2.2 x hx
  exact ⟨inT_iff.2 this.1, by omega⟩
theorem DV.set3 (h : DV T0 P a s) (hv : validT T0 = true) (h2 : 2 ≤ a) {f : Nat} (hm : MK T0 P a s.1 f) {ia ib bb : Int} {pa pb pu : PgT}
    (ha : ia ∈ (gP s.1 (P.getD (a - 2) 0)).kids) (hb : ib ∈ (gP s.1 (P.getD (a - 2) 0)).kids)
    (sa : ShOk (lvT T0) T0.pages.length pa (lvT T0 (P.getD (a - 1) 0))) (sb : ShOk (lvT T0) T0.pages.length pb (lvT T0 (P.getD (a - 1) 0))) (su : ShOk (lvT T0) T0.pages.length pu (lvT T0 (P.getD (a - 2) 0)))
    (ka : ∀ x ∈ pa.kids, x ∈ (gP s.1 ia).kids ∨ x ∈ (gP s.1 ib).kids) (kb : ∀ x ∈ pb.kids, x ∈ (gP s.1 ia).kids ∨ x ∈ (gP s.1 ib).kids) (kp : ∀ x ∈ pu.kids, x ∈ (gP s.1 (P.getD (a - 2) 0)).kids)
    (hbb : bb = -1 ∨ (bb = ib ∧ ib ∉ pu.kids)) : DV T0 P (a - 1) (setP (setP (setP s.1 ia pa) ib pb) (P.getD (a - 2) 0) pu, goneF s.2 bb) := by
  have hL := valid_Lv hv
  have h1 := h.a1
  obtain ⟨ina, la⟩ := hm.lv _ ha
  obtain ⟨inb, lb⟩ := hm.lv _ hb
  have iu := hm.iu
  have lu := hm.lu
  have toR : ∀ i, inT T0 i = true → inT s.1 i = true := fun i hi => by have := inT_iff.1 hi; exact inT_iff.2 (by rw [h.len]; exact this)
  have e2 : a - 1 - 1 = a - 2 := by omega
  have hg : ∀ i, inT T0 i = true → gP (setP (setP (setP s.1 ia pa) ib pb) (P.getD (a - 2) 0) pu) i = if i = P.getD (a - 2) 0 then pu else if i = ib then pb else if i = ia then pa else gP s.1 i := by
    intro i hi
    have hi0 := (inT_iff.1 hi).1
    by_cases c1 : i = P.getD (a - 2) 0
    · rw [if_pos c1, c1]; exact gP_set_own (by rw [inT_set, inT_set]; exact toR _ iu)
    rw [if_neg c1, gP_set_ne (inT_iff.1 iu).1 hi0 (fun e => c1 e.symm)]
    by_cases c2 : i = ib
    · rw [if_pos c2, c2]; exact gP_set_own (by rw [inT_set]; exact toR _ inb)
    rw [if_neg c2, gP_set_ne (inT_iff.1 inb).1 hi0 (fun e => c2 e.symm)]
    by_cases c3 : i = ia
    · rw [if_pos c3, c3]; exact gP_set_own (toR _ ina)
    rw [if_neg c3, gP_set_ne (inT_iff.1 ina).1 hi0 (fun e => c3 e.symm)]
  have hbn : bb = ib → 0 ≤ bb := fun e => by rw [e]; exact (inT_iff.1 inb).1
  have hgo : ∀ x, x ∈ goneF s.2 bb ↔ x ∈ s.2 ∨ (bb = ib ∧ x = ib) := fun x => by
    rcases hbb with e | ⟨e, _⟩
    · rw [e]; unfold goneF; rw [if_neg (by omega)]
      have : (0 : Int) ≤ ib := (inT_iff.1 inb).1
      constructor
      · exact .inl
      rintro (h | ⟨h, _⟩)
      · exact h
      omega
    have := hbn e
    unfold goneF; rw [if_pos this, e]; simp
  refine ⟨by omega, by simp [setP, h.len], h.root, fun i hi => ?_, fun i hi hlt => ?_, fun i hi x hx hxg => ?_, fun x hx => ?_, ?_, ?_⟩
  · show ShOk _ _ (gP (setP (setP (setP s.1 ia pa) ib pb) (P.getD (a - 2) 0) pu) i) _
    rw [hg i hi]
    split
    · rename_i e; rw [e]; exact su
    split
    · rename_i e; rw [e, lb]; exact sb
    split
    · rename_i e; rw [e, la]; exact sa
    exact h.sh i hi
  · show gP (setP (setP (setP s.1 ia pa) ib pb) (P.getD (a - 2) 0) pu) i = _
    rw [e2] at hlt
    rw [hg i hi, if_neg (fun e => by rw [e] at hlt; omega), if_neg (fun e => by rw [e] at hlt; omega), if_neg (fun e => by rw [e] at hlt; omega)]
    exact h.up i hi (by omega)
  · have hx' : x ∈ (if i = P.getD (a - 2) 0 then pu else if i = ib then pb else if i = ia then pa else gP s.1 i).kids := by
      rw [← hg i hi]; exact hx
    have lev : ∀ j, inT T0 j = true → lvT T0 j = lvT T0 (P.getD (a - 1) 0) → x ∈ (gP s.1 j).kids → x ∉ goneF s.2 bb := fun j hj hlj hxj hxg => by
      rcases (hgo x).1 hxg with hxg | ⟨_, e⟩
      · exact h.nog j hj x hxj hxg
      have := (sh_in (h.sh j hj) (fun e => by rw [e] at hxj; simp at hxj)).2.2.2 x hxj
      rw [e] at this; omega
    split at hx'
    · rcases (hgo x).1 hxg with hxg | ⟨e1, e⟩
      · exact h.nog _ iu x (kp x hx') hxg
      rcases hbb with hbb | hbb
      · have := hbn e1; omega
      exact hbb.2 (e ▸ hx')
    rename_i c1
    split at hx'
    · rcases kb x hx' with q | q
      · exact lev _ ina la q hxg
      exact lev _ inb lb q hxg
    split at hx'
    · rcases ka x hx' with q | q
      · exact lev _ ina la q hxg
      exact lev _ inb lb q hxg
    rcases (hgo x).1 hxg with hxg | ⟨e1, e⟩
    · exact h.nog i hi x hx' hxg
    have hl := ((sh_in (h.sh i hi) (fun e => by rw [e] at hx'; simp at hx')).2.2.2 x hx').2
    have e3 := h.up i hi (by rw [e] at hl; omega)
    rw [e3] at hx'
    rw [hm.ku] at hb
    exact c1 (hL.par i _ x hi iu hx' (by rw [e]; exact hb))
  · rw [e2]
    rcases (hgo x).1 hx with hx | ⟨_, e⟩
    · have := h.gin x hx; exact ⟨this.1, by omega⟩
    rw [e]; exact ⟨inb, by omega⟩
  · show (goneF s.2 bb).Nodup
    rcases hbb with e | ⟨e, _⟩
    · rw [e]; unfold goneF; rw [if_neg (by omega)]; exact h.nd
    have := hbn e
    unfold goneF; rw [if_pos this, e]
    refine List.nodup_append.2 ⟨h.nd, by simp, fun x hx y hy => ?_⟩
    rw [List.mem_singleton] at hy
    intro e4
    have := (h.gin x hx).2
    rw [e4, hy] at this; omega
  have := h.gl
  show (goneF s.2 bb).length + (a - 1) ≤ P.length
  unfold goneF
  split
  · simp only [List.length_append, List.length_cons, List.length_nil]; omega
  omega
theorem cutK_ok {lv : Int → Nat} {n l f : Nat} {p : PgT} (h : ShOk lv n p l) (hl : p.kids.length = p.keys.length + 1) (hf : f + 1 ≤ p.keys.length) : ShOk lv n (cutK p (f + 1)) l ∧ (∀ x ∈ (cutK p (f + 1)).kids, x ∈ p.kids) ∧ (p.kids.Nodup → p.kids.getD (f + 1) 0 ∉ (cutK p (f + 1)).kids) := by
  obtain ⟨a, b, c, d⟩ := sh_in h (fun e => by rw [e] at hl; simp at hl)
  have hsub : ∀ x ∈ (cutK p (f + 1)).kids, x ∈ p.kids := fun x hx => by
    rcases List.mem_append.1 hx with hx | hx
    · exact List.mem_of_mem_take hx
    exact List.mem_of_mem_drop hx
  have h4 := h.k4
  refine ⟨⟨?_, .inr ⟨a, ?_, rfl, fun x hx => d x (hsub x hx)⟩⟩, hsub, fun hn hm => ?_⟩
  · simp only [cutK, innP, List.length_append, List.length_take, List.length_drop]; omega
  · simp only [cutK, innP, List.length_append, List.length_take, List.length_drop]; omega
  have hlt : f + 1 < p.kids.length := by omega
  rw [getD_in hlt] at hm
  have e : p.kids = p.kids.take (f + 1) ++ p.kids[f + 1] :: p.kids.drop (f + 2) := split_mid hlt
  have hn2 : (p.kids.take (f + 1) ++ p.kids[f + 1] :: p.kids.drop (f + 2)).Nodup := e ▸ hn
  have hn3 := List.nodup_append.1 hn2
  rcases List.mem_append.1 hm with hm | hm
  · exact absurd rfl (hn3.2.2 _ hm _ List.mem_cons_self)
  exact (List.nodup_cons.1 hn3.2.1).1 hm
theorem setK_ok {lv : Int → Nat} {n l f : Nat} {v : Int} {p : PgT} (h : ShOk lv n p l) : ShOk lv n (setK p f v) l := by
  refine ⟨by simpa [setK] using h.k4, ?_⟩
  rcases h.c with ⟨a, b, c⟩ | ⟨a, b, c, d⟩
  · exact .inl ⟨a, b, by simpa [setK] using c⟩
  exact .inr ⟨a, by simpa [setK] using b, c, d⟩
theorem DV.next (h : DV T0 P a s) (hv : validT T0 = true) (h2 : 2 ≤ a) {f : Nat} (hm : MK T0 P a s.1 f) :
    DV T0 P (a - 1) ((mendF s.1 (P.getD (a - 2) 0) f).1, goneF s.2 (mendF s.1 (P.getD (a - 2) 0) f).2) := by
  have hkl := hm.kl
  have hf := hm.f1
  have k1 : f < (gP s.1 (P.getD (a - 2) 0)).kids.length := by omega
  have k2 : f + 1 < (gP s.1 (P.getD (a - 2) 0)).kids.length := by omega
  have ha : (gP s.1 (P.getD (a - 2) 0)).kids.getD f 0 ∈ (gP s.1 (P.getD (a - 2) 0)).kids := by rw [getD_in k1]; exact List.getElem_mem k1
  have hb : (gP s.1 (P.getD (a - 2) 0)).kids.getD (f + 1) 0 ∈ (gP s.1 (P.getD (a - 2) 0)).kids := by rw [getD_in k2]; exact List.getElem_mem k2
  have hsu := h.sh _ hm.iu
  obtain ⟨c1, c2, c3⟩ := cutK_ok hsu hkl hf
  have c3 := c3 hm.nd
  obtain ⟨ina, la⟩ := hm.lv _ ha
  obtain ⟨inb, lb⟩ := hm.lv _ hb
  have hsa := h.sh _ ina
  have hsb := h.sh _ inb
  rw [la] at hsa
  rw [lb] at hsb
  have toR : ∀ i, inT T0 i = true → inT s.1 i = true := fun i hi => by have := inT_iff.1 hi; exact inT_iff.2 (by rw [h.len]; exact this)
  have hne : (gP s.1 (P.getD (a - 2) 0)).kids.getD f 0 ≠ (gP s.1 (P.getD (a - 2) 0)).kids.getD (f + 1) 0 := by
    rw [getD_in k1, getD_in k2]
    exact fun e => absurd ((List.pairwise_iff_getElem.1 hm.nd) f (f + 1) k1 k2 (by omega)) (by simpa using e)
  generalize hia : (gP s.1 (P.getD (a - 2) 0)).kids.getD f 0 = ia at *
  generalize hib : (gP s.1 (P.getD (a - 2) 0)).kids.getD (f + 1) 0 = ib at *
  have four : ∀ {r : List PairT}, ¬ r.length ≤ 4 → r.length ≤ 8 → (r.take ((r.length + 1) / 2)).length ≤ 4 ∧ (r.drop ((r.length + 1) / 2)).length ≤ 4 := fun h1 h2 => by
    simp only [List.length_take, List.length_drop]; omega
  unfold mendF
  rw [hia, hib]
  split
  · rename_i hk
    obtain ⟨l1, va⟩ := sh_leaf hsa hk
    have kb0 : (gP s.1 ib).kids = [] := by
      rcases hsb.c with ⟨_, q, _⟩ | ⟨q, _⟩
      · exact q
      omega
    have r8 : (prsP (gP s.1 ia) ++ prsP (gP s.1 ib)).length ≤ 8 := by
      have := hsa.k4; have := hsb.k4
      rw [List.length_append, prs_len, prs_len]; omega
    unfold mendR
    split
    · rename_i h4
      have := h.set3 hv h2 hm ha hb (pa := leafP (prsP (gP s.1 ia) ++ prsP (gP s.1 ib))) (pb := gP s.1 ib) (by rw [l1]; exact sh_leafP h4) hsb c1 (fun x hx => by simp [leafP] at hx) (fun x hx => .inr hx) c2 (.inr ⟨rfl, c3⟩)
      have e : setP (setP s.1 ia (leafP (prsP (gP s.1 ia) ++ prsP (gP s.1 ib)))) ib (gP s.1 ib) = setP s.1 ia (leafP (prsP (gP s.1 ia) ++ prsP (gP s.1 ib))) := by
        have e2 : gP (setP s.1 ia (leafP (prsP (gP s.1 ia) ++ prsP (gP s.1 ib)))) ib = gP s.1 ib := gP_set_ne (inT_iff.1 ina).1 (inT_iff.1 inb).1 hne
        have e3 := set_self (T := setP s.1 ia (leafP (prsP (gP s.1 ia) ++ prsP (gP s.1 ib)))) (i := ib) (by rw [inT_set]; exact toR _ inb)
        rwa [e2] at e3
      rwa [e] at this
    rename_i h4
    have q := four h4 r8
    exact h.set3 hv h2 hm ha hb (by rw [l1]; exact sh_leafP q.1) (by rw [l1]; exact sh_leafP q.2) (setK_ok hsu) (fun x hx => by simp [leafP] at hx) (fun x hx => by simp [leafP] at hx) (fun x hx => hx) (.inl rfl)
  rename_i hk
  obtain ⟨l2, ca, va, da⟩ := sh_in hsa hk
  obtain ⟨_, cb, vb, db⟩ := sh_in hsb (fun e => by
    have := (sh_leaf hsb e).1; omega)
  have hK : (bothK s.1 (P.getD (a - 2) 0) ia ib f).length = (gP s.1 ia).keys.length + 1 + (gP s.1 ib).keys.length := by simp [bothK]; omega
  have hC : (bothC s.1 ia ib).length = (bothK s.1 (P.getD (a - 2) 0) ia ib f).length + 1 := by rw [hK]; simp [bothC]; omega
  have k9 : (bothK s.1 (P.getD (a - 2) 0) ia ib f).length ≤ 9 := by have := hsa.k4; have := hsb.k4; omega
  have hmem : ∀ x ∈ bothC s.1 ia ib, x ∈ (gP s.1 ia).kids ∨ x ∈ (gP s.1 ib).kids := fun x hx => List.mem_append.1 hx
  have hlev : ∀ x ∈ bothC s.1 ia ib, (0 ≤ x ∧ x < (T0.pages.length : Int)) ∧ lvT T0 x + 1 = lvT T0 (P.getD (a - 1) 0) := fun x hx => by
    rcases hmem x hx with hx | hx
    · exact da x hx
    exact db x hx
  unfold mendI
  generalize bothK s.1 (P.getD (a - 2) 0) ia ib f = ks at *
  generalize bothC s.1 ia ib = cs at *
  split
  · rename_i h4
    have := h.set3 hv h2 hm ha hb (pa := innP ks cs) (pb := gP s.1 ib) ⟨h4, .inr ⟨l2, hC, rfl, hlev⟩⟩ hsb c1 (fun x hx => hmem x hx) (fun x hx => .inr hx) c2 (.inr ⟨rfl, c3⟩)
    have e : setP (setP s.1 ia (innP ks cs)) ib (gP s.1 ib) = setP s.1 ia (innP ks cs) := by
      have e2 : gP (setP s.1 ia (innP ks cs)) ib = gP s.1 ib := gP_set_ne (inT_iff.1 ina).1 (inT_iff.1 inb).1 hne
      have e3 := set_self (T := setP s.1 ia (innP ks cs)) (i := ib) (by rw [inT_set]; exact toR _ inb)
      rwa [e2] at e3
    rwa [e] at this
  rename_i h4
  refine h.set3 hv h2 hm ha hb ⟨?_, .inr ⟨l2, ?_, rfl, fun x hx => hlev x (List.mem_of_mem_take hx)⟩⟩ ⟨?_, .inr ⟨l2, ?_, rfl, fun x hx => hlev x (List.mem_of_mem_drop hx)⟩⟩ (setK_ok hsu) (fun x hx => hmem x (List.mem_of_mem_take hx)) (fun x hx => hmem x (List.mem_of_mem_drop hx)) (fun x hx => hx) (.inl rfl)
  · simp only [innP, List.length_take]; omega
  · simp only [innP, List.length_take]; omega
  · simp only [innP, List.length_drop]; omega
  simp only [innP, List.length_drop]; omega
theorem DV.fin (h : DV T0 P a s) (hv : validT T0 = true) (hP : PathOk T0 P) : FV (lvT T0) (rootF s).1 (rootF s).2 ∧ lvT T0 (rootF s).1.root ≤ 3 ∧ (rootF s).1.pages.length = T0.pages.length ∧ (rootF s).2.length ≤ P.length := by
  have hL := valid_Lv hv
  have h1 := h.a1
  have hle : ∀ x ∈ s.2, lvT T0 x < lvT T0 T0.root := fun x hx => Nat.lt_of_lt_of_le (h.gin x hx).2 (hL.le _ (hP.inn (a - 1) (by omega)))
  have hrg : T0.root ∉ s.2 := fun hm => by have := hle _ hm; omega
  have fromR : ∀ {n : Nat} {i : Int} {Q : TrT}, Q.pages.length = n → (inT Q i = true ↔ (0 ≤ i ∧ i < (n : Int))) := fun e => by rw [inT_iff, e]
  have inE : ∀ {i : Int} {Q : TrT}, Q.pages.length = T0.pages.length → inT Q i = true → inT T0 i = true := fun e hi => inT_iff.2 (by rw [← e]; exact inT_iff.1 hi)
  have inE2 : ∀ {i : Int} {Q : TrT}, Q.pages.length = T0.pages.length → inT T0 i = true → inT Q i = true := fun e hi => inT_iff.2 (by rw [e]; exact inT_iff.1 hi)
  have hgl := h.gl
  have hlen := h.len
  unfold rootF
  split
  · rename_i hk
    have k0 : (gP s.1 s.1.root).kids.getD 0 0 ∈ (gP s.1 s.1.root).kids := by rw [getD_in (by omega)]; exact List.getElem_mem _
    have hir : inT T0 s.1.root = true := by rw [h.root]; exact hL.r3.2
    have hs := (sh_in (h.sh _ hir) (fun e => by rw [e] at hk; simp at hk)).2.2.2 _ k0
    have hlr : lvT T0 s.1.root ≤ 3 := by rw [h.root]; exact hL.r3.1
    generalize (gP s.1 s.1.root).kids.getD 0 0 = r0 at *
    refine ⟨⟨fun i hi => ?_, fun i hi x hx hxg => ?_, fun x hx => ?_, ?_, inE2 hlen (inT_iff.2 hs.1), fun hm => ?_⟩, ?_, hlen, ?_⟩
    · have := h.sh i (inE hlen hi)
      show ShOk _ s.1.pages.length (gP s.1 i) _
      rw [hlen]; exact this
    · have hx' : x ∈ (gP s.1 i).kids := hx
      have hi' := inE hlen hi
      have := (sh_in (h.sh i hi') (fun e => by rw [e] at hx'; simp at hx')).2.2.2 x hx'
      have l2 := hL.le i hi'
      rcases List.mem_append.1 hxg with hxg | hxg
      · exact h.nog i hi' x hx' hxg
      rw [List.mem_singleton] at hxg
      rw [hxg, h.root] at this; omega
    · rcases List.mem_append.1 hx with hx | hx
      · exact inE2 hlen (h.gin x hx).1
      rw [List.mem_singleton] at hx; rw [hx]; exact inE2 hlen hir
    · refine List.nodup_append.2 ⟨h.nd, by simp, fun x hx y hy e => ?_⟩
      rw [List.mem_singleton] at hy
      rw [e, hy, h.root] at hx
      exact hrg hx
    · have hm' : r0 ∈ s.2 ++ [s.1.root] := hm
      rcases List.mem_append.1 hm' with hm | hm
      · exact h.nog _ hir r0 k0 hm
      rw [List.mem_singleton] at hm; rw [hm] at hs; omega
    · show lvT T0 r0 ≤ 3
      omega
    show (s.2 ++ [s.1.root]).length ≤ P.length
    simp only [List.length_append, List.length_cons, List.length_nil]; omega
  refine ⟨⟨fun i hi => ?_, fun i hi => h.nog i (inE hlen hi), fun x hx => inE2 hlen (h.gin x hx).1, h.nd, ?_⟩, by rw [h.root]; exact hL.r3.1, hlen, by omega⟩
  · rw [hlen]; exact h.sh i (inE hlen hi)
  rw [h.root]; exact ⟨inE2 hlen hL.r3.2, hrg⟩
theorem FV.done {lv : Int → Nat} (h : FV lv R []) (hr : lv R.root ≤ 3) (hl : R.pages.length ≤ 64) : WK R := by
  have hw : ∀ d i, inT R i = true → lv i ≤ d → wkB R d i := by
    intro d
    induction d with
    | zero =>
      intro i hi hd
      rcases (h.sh i hi).c with ⟨a, _⟩ | ⟨a, _⟩ <;> omega
    | succ d ih =>
      intro i hi hd
      refine ⟨hi, fun hk => (sh_leaf (h.sh i hi) hk).2, fun x hx => ?_⟩
      have := (sh_in (h.sh i hi) (fun e => by rw [e] at hx; simp at hx)).2.2.2 x hx
      exact ih x (inT_iff.2 this.1) (by omega)
  have hrt := inT_iff.1 h.root.1
  refine ⟨hw 3 _ h.root.1 hr, by omega, fun p hp => ?_⟩
  obtain ⟨k, hk, rfl⟩ := List.getElem_of_mem hp
  have hs := h.sh (k : Int) (inT_iff.2 (by omega))
  have e : gP R (k : Int) = R.pages[k] := by unfold gP; rw [List.getD_eq_getElem?_getD, Int.toNat_natCast, List.getElem?_eq_getElem hk]; rfl
  rw [e] at hs
  have h4 := hs.k4
  rcases hs.c with ⟨_, b, c⟩ | ⟨_, b, c, _⟩
  · exact ⟨by omega, by simp [b], by omega⟩
  exact ⟨by omega, by omega, by simp [c]⟩
theorem FV.all : ∀ {n : Nat} {lv : Int → Nat} {R : TrT} {g : List Int}, FV lv R g → g.length ≤ n → lv R.root ≤ 3 → R.pages.length ≤ 64 → WK (cutA n R g)
  | 0, lv, R, [], h, _, hr, hl => by rw [cutA]; exact h.done hr hl; simp
  | 0, lv, R, g0 :: l, h, hn, _, _ => by simp at hn
  | n + 1, lv, R, [], h, _, hr, hl => by rw [cutA]; exact h.done hr hl; simp
  | n + 1, lv, R, g0 :: l, h, hn, hr, hl => by
    rw [cutA]
    have hc := cut_len (h.gin g0 (by simp))
    refine FV.all h.cut (by simpa using hn) ?_ (by omega)
    show lv (unI g0 (shI g0 R.root)) ≤ 3
    rw [sh_un (fun e => h.root.2 (by simp [e]))]
    exact hr
end
end Go.Px
end
section
namespace Go.Px
open Go.RowKit
def isLf (T : TrT) (i : Int) : Bool := decide ((gP T i).kids = [])
def leavesB (T : TrT) (d : Nat) (i : Int) : List Int := (subT T d i).filter (isLf T)
def leavesK (T : TrT) : List Int := leavesB T 3 T.root
def pairsOn (T : TrT) (l : List Int) : List PairT := l.flatMap fun i => prsP (gP T i)
def pairsK (T : TrT) : List PairT := pairsOn T (leavesK T)
section
variable {T : TrT}
theorem sub_eq : ∀ {d e : Nat} {i : Int}, wkB T d i → d ≤ e → subT T e i = subT T d i
  | 0, _, _, h, _ => by cases h
  | d + 1, 0, _, _, h => by omega
  | d + 1, e + 1, i, h, he => by
    simp only [subT]
    congr 1
    have : ∀ l : List Int, (∀ x ∈ l, wkB T d x) → l.flatMap (subT T e) = l.flatMap (subT T d) := by
      intro l
      induction l with
      | nil => intro _; rfl
      | cons x l ih =>
        intro hl
        rw [List.flatMap_cons, List.flatMap_cons, sub_eq (hl x (by simp)) (by omega), ih fun y hy => hl y (List.mem_cons_of_mem _ hy)]
    exact this _ h.2.2
theorem leavesB_leaf {d : Nat} {i : Int} (h : (gP T i).kids = []) : leavesB T (d + 1) i = [i] := by
  simp [leavesB, subT, h, isLf]
theorem leavesB_in {d : Nat} {i : Int} (h : (gP T i).kids ≠ []) : leavesB T (d + 1) i = (gP T i).kids.flatMap (leavesB T d) := by
  unfold leavesB
  simp only [subT]
  rw [List.filter_cons, if_neg (by simp [isLf, h]), List.filter_flatMap]
theorem leaves_valid (h : validT T = true) : leavesB T (heightT T) T.root = leavesK T := by
  obtain ⟨h1, h2, _, _⟩ := valid_ok h
  unfold leavesK leavesB
  rw [sub_eq (ok_wk h2 (Nat.le_refl _)) h1]
theorem pairsOn_app {a b : List Int} : pairsOn T (a ++ b) = pairsOn T a ++ pairsOn T b := by simp [pairsOn]
theorem pairsOn_take {l : List Int} {k : Nat} (h : k < l.length) : pairsOn T (l.take (k + 1)) = pairsOn T (l.take k) ++ prsP (gP T l[k]) := by
  rw [take_snoc h, pairsOn_app]; simp [pairsOn]
theorem pairsOn_len (hs : ∀ p ∈ T.pages, smallP p) : ∀ {l : List Int}, (∀ x ∈ l, inT T x = true) → (pairsOn T l).length ≤ l.length * 5
  | [], _ => by simp [pairsOn]
  | x :: l, h => by
    have h1 := pairsOn_len hs (l := l) fun y hy => h y (List.mem_cons_of_mem _ hy)
    have h2 := (small_at hs (h x (by simp))).1
    have h3 : (prsP (gP T x)).length = (gP T x).keys.length := prs_len
    unfold pairsOn at h1 ⊢
    simp only [List.flatMap_cons, List.length_append, List.length_cons] at h1 ⊢
    omega
theorem leaf_len : ∀ {d : Nat} {i : Int}, (leavesB T d i).length ≤ (subT T d i).length := fun {d i} => List.length_filter_le _ _
theorem filter_take {p : Int → Bool} {l : List Int} {k : Nat} (h : k < l.length) : (l.take (k + 1)).filter p = (l.take k).filter p ++ if p l[k] then [l[k]] else [] := by
  rw [take_snoc h, List.filter_append]
  congr 1
  rw [List.filter_cons]
  split <;> simp_all
theorem filter_len_le {p : Int → Bool} {l : List Int} {k : Nat} : ((l.take k).filter p).length ≤ l.length := Nat.le_trans (List.length_filter_le _ _) (by rw [List.length_take]; omega)
end
end Go.Px
end
section
namespace Go.Px
open Go.RowKit
def partN (len : Nat) : Nat := if len ≤ 4 then 1 else (len + 3) / 4
theorem share_tab : ∀ len : Fin 25, ∀ i : Fin 6, i.val < partN len.val → len.val * (i.val + 1) / partN len.val ≤ len.val ∧ len.val * (i.val + 1) / partN len.val ≤ len.val * i.val / partN len.val + 4 ∧ (5 ≤ len.val → len.val * i.val / partN len.val + 1 ≤ len.val * (i.val + 1) / partN len.val) ∧ len.val * i.val / partN len.val ≤ len.val * (i.val + 1) / partN len.val := by
  decide +kernel
theorem share_ok {len i : Nat} (hl : len ≤ 24) (hi : i < partN len) : len * (i + 1) / partN len ≤ len ∧ len * (i + 1) / partN len ≤ len * i / partN len + 4 ∧ (5 ≤ len → len * i / partN len + 1 ≤ len * (i + 1) / partN len) ∧ len * i / partN len ≤ len * (i + 1) / partN len := by
  have hn : partN len ≤ 6 := by unfold partN; split <;> omega
  exact share_tab ⟨len, by omega⟩ ⟨i, by omega⟩ hi
def lfP (p : PgT) : Prop := p.kids = [] ∧ p.vals.length = p.keys.length ∧ p.keys.length ≤ 4
theorem lf_leafP {r : List PairT} (h : r.length ≤ 4) : lfP (leafP r) := ⟨rfl, by simp [leafP], by simpa [leafP] using h⟩
section
variable {L : List PgT} {r : Int}
theorem wk_one {p : PgT} (h : lfP p) : WK ⟨0, [p]⟩ := by
  have e : gP ⟨0, [p]⟩ 0 = p := rfl
  refine ⟨⟨inT_iff.2 ⟨by simp, by simp⟩, fun _ => by rw [e]; exact h.2.1, fun x hx => by rw [e, h.1] at hx; simp at hx⟩, by simp, fun q hq => ?_⟩
  rw [List.mem_singleton] at hq
  subst hq
  exact ⟨by have := h.2.2; omega, by simp [h.1], by have := h.2.2; have := h.2.1; omega⟩
theorem small_lf {p : PgT} (h : lfP p) : smallP p := ⟨by have := h.2.2; omega, by simp [h.1], by have := h.2.2; have := h.2.1; omega⟩
theorem gP_mem {T : TrT} {i : Int} (h : inT T i = true) : gP T i ∈ T.pages := by
  have h1 := inT_iff.1 h
  unfold gP
  rw [List.getD_eq_getElem?_getD, List.getElem?_eq_getElem (by omega)]
  exact List.getElem_mem _
theorem wk_two {p : PgT} (hL : ∀ q ∈ L, lfP q) (hp : smallP p) (hne : p.kids ≠ []) (hk : ∀ x ∈ p.kids, 1 ≤ x ∧ x ≤ (L.length : Int)) (hl : L.length ≤ 60) : WK ⟨0, p :: L⟩ := by
  have e : gP ⟨0, p :: L⟩ 0 = p := rfl
  refine ⟨⟨inT_iff.2 ⟨by simp, by simp⟩, fun h => by rw [e] at h; exact absurd h hne, fun x hx => ?_⟩, by simp; omega, fun q hq => ?_⟩
  · rw [e] at hx
    have h1 := hk x hx
    have hin : inT ⟨0, p :: L⟩ x = true := inT_iff.2 ⟨by omega, by simp; omega⟩
    have hlf : lfP (gP ⟨0, p :: L⟩ x) := by
      obtain ⟨m, rfl⟩ : ∃ m : Nat, x = (m : Int) + 1 := ⟨(x - 1).toNat, by omega⟩
      have : gP ⟨0, p :: L⟩ ((m : Int) + 1) = L.getD m ⟨[], [], []⟩ := by
        unfold gP
        rw [show ((m : Int) + 1).toNat = m + 1 by omega]; rfl
      rw [this, List.getD_eq_getElem?_getD, List.getElem?_eq_getElem (by omega)]
      exact hL _ (List.getElem_mem _)
    exact ⟨hin, fun _ => hlf.2.1, fun y hy => by rw [hlf.1] at hy; simp at hy⟩
  rcases List.mem_cons.1 hq with rfl | hq
  · exact hp
  exact small_lf (hL q hq)
theorem wk_three {p a b : PgT} {L1 L2 : List PgT} (h1 : ∀ q ∈ L1, lfP q) (h2 : ∀ q ∈ L2, lfP q) (hp : smallP p) (ha : smallP a) (hb : smallP b) (hpk : p.kids = [1, (2 + L1.length : Int)]) (hak : ∀ x ∈ a.kids, 2 ≤ x ∧ x < 2 + (L1.length : Int)) (hbk : ∀ x ∈ b.kids, 3 + (L1.length : Int) ≤ x ∧ x < 3 + (L1.length : Int) + L2.length) (hna : a.kids ≠ []) (hnb : b.kids ≠ []) (hl : L1.length + L2.length ≤ 60) :
    WK ⟨0, p :: a :: (L1 ++ b :: L2)⟩ := by
  generalize hT : (⟨0, p :: a :: (L1 ++ b :: L2)⟩ : TrT) = T
  have hpg : T.pages = p :: a :: (L1 ++ b :: L2) := by rw [← hT]
  have hrt : T.root = 0 := by rw [← hT]
  have hlen : T.pages.length = 3 + L1.length + L2.length := by rw [hpg]; simp; omega
  have g : ∀ m : Nat, gP T (m : Int) = (p :: a :: (L1 ++ b :: L2)).getD m ⟨[], [], []⟩ := fun m => by unfold gP; rw [hpg]; rfl
  have e0 : gP T 0 = p := g 0
  have e1 : gP T 1 = a := g 1
  have eb : gP T (2 + L1.length : Int) = b := by
    have := g (2 + L1.length)
    rw [show ((2 + L1.length : Nat) : Int) = 2 + L1.length by omega] at this
    rw [this, show 2 + L1.length = (L1.length + 1) + 1 by omega, List.getD_cons_succ, List.getD_cons_succ, List.getD_eq_getElem?_getD, List.getElem?_append_right (Nat.le_refl _)]
    simp
  have l1 : ∀ x : Int, 2 ≤ x → x < 2 + (L1.length : Int) → lfP (gP T x) := fun x h3 h4 => by
    obtain ⟨m, rfl⟩ : ∃ m : Nat, x = (m : Int) + 2 := ⟨(x - 2).toNat, by omega⟩
    have := g (m + 2)
    rw [show ((m + 2 : Nat) : Int) = m + 2 by omega] at this
    rw [this, show m + 2 = (m + 1) + 1 by omega, List.getD_cons_succ, List.getD_cons_succ, List.getD_eq_getElem?_getD, List.getElem?_append_left (by omega), List.getElem?_eq_getElem (by omega)]
    exact h1 _ (List.getElem_mem _)
  have l2 : ∀ x : Int, 3 + (L1.length : Int) ≤ x → x < 3 + (L1.length : Int) + L2.length → lfP (gP T x) := fun x h3 h4 => by
    obtain ⟨m, rfl⟩ : ∃ m : Nat, x = 3 + (L1.length : Int) + m := ⟨(x - 3 - L1.length).toNat, by omega⟩
    have := g (3 + L1.length + m)
    rw [show ((3 + L1.length + m : Nat) : Int) = 3 + L1.length + m by omega] at this
    rw [this, show 3 + L1.length + m = (L1.length + (m + 1) + 1) + 1 by omega, List.getD_cons_succ, List.getD_cons_succ, List.getD_eq_getElem?_getD, List.getElem?_append_right (by omega), show L1.length + (m + 1) - L1.length = m + 1 by omega, List.getElem?_cons_succ, List.getElem?_eq_getElem (by omega)]
    exact h2 _ (List.getElem_mem _)
  have hin : ∀ x : Int, 0 ≤ x → x < 3 + (L1.length : Int) + L2.length → inT T x = true := fun x h3 h4 => inT_iff.2 ⟨h3, by rw [hlen]; omega⟩
  have wl : ∀ x : Int, 0 ≤ x → x < 3 + (L1.length : Int) + L2.length → lfP (gP T x) → wkB T 1 x := fun x h3 h4 h5 => ⟨hin x h3 h4, fun _ => h5.2.1, fun y hy => by rw [h5.1] at hy; simp at hy⟩
  refine ⟨?_, by omega, fun q hq => ?_⟩
  · rw [hrt]
    refine ⟨hin 0 (by omega) (by omega), fun h => by rw [e0, hpk] at h; simp at h, fun x hx => ?_⟩
    rw [e0, hpk] at hx
    rcases List.mem_cons.1 hx with rfl | hx
    · refine ⟨hin 1 (by omega) (by omega), fun h => by rw [e1] at h; exact absurd h hna, fun y hy => ?_⟩
      rw [e1] at hy
      have := hak y hy
      exact wl y (by omega) (by omega) (l1 y this.1 this.2)
    rw [List.mem_singleton] at hx
    subst hx
    refine ⟨hin _ (by omega) (by omega), fun h => by rw [eb] at h; exact absurd h hnb, fun y hy => ?_⟩
    rw [eb] at hy
    have := hbk y hy
    exact wl y (by omega) (by omega) (l2 y this.1 this.2)
  rw [hpg] at hq
  rcases List.mem_cons.1 hq with rfl | hq
  · exact hp
  rcases List.mem_cons.1 hq with rfl | hq
  · exact ha
  rcases List.mem_append.1 hq with hq | hq
  · exact small_lf (h1 q hq)
  rcases List.mem_cons.1 hq with rfl | hq
  · exact hb
  exact small_lf (h2 q hq)
end
end Go.Px
end
section
namespace Go.Px
open Go.RowKit
section
variable {T T0 R : TrT} {P : List Int} {a : Nat}
theorem sz_small {r : Int} {A : Option Addr} {c : Nat} {L : List PgL} (h : ∀ p ∈ tsG L, smallP p) (hl : L.length ≤ 1048576) : SzT ⟨r, A, c, L⟩ := by
  refine ⟨hl, fun x hx => ?_⟩
  have := h x.t (List.mem_map.2 ⟨x, hx, rfl⟩)
  have h1 : x.k.l.length ≤ 5 := this.1
  have h2 : x.c.l.length ≤ 6 := this.2.1
  have h3 : x.v.l.length ≤ 5 := this.2.2
  omega
theorem grow_small (hP : PathOk T0 P) : ∀ {a : Nat} {R : TrT}, GI T0 P a R → (∀ p ∈ (growT P a R).pages, smallP p) ∧ (growT P a R).pages.length ≤ T0.pages.length + 4 := by
  intro a
  induction a with
  | zero => intro R h; have := h.a1; omega
  | succ a ih =>
    intro R h
    have h1 := h.a1
    have hl := h.len
    have hp3 := hP.le
    by_cases h4 : (gP R (P.getD a 0)).keys.length ≤ 4
    · rw [grow_stop (by omega) h4]; exact ⟨h.small, by omega⟩
    by_cases h0 : a = 0
    · subst h0
      rw [grow_root h4]
      have hs := split_small h.cur
      refine ⟨?_, by simp [addP, setP]; omega⟩
      show ∀ p ∈ (addP (addP (setP R (P.getD 0 0) (split1 (gP R (P.getD 0 0))).1) (split1 (gP R (P.getD 0 0))).2.2) (innP [(split1 (gP R (P.getD 0 0))).2.1] [P.getD 0 0, (R.pages.length : Int)])).pages, smallP p
      exact small_add (small_add (small_set h.small hs.1) hs.2) ⟨by simp [innP], by simp [innP], by simp [innP]⟩
    have := h.next hP (by omega) (q := _) rfl
    rw [grow_up (by omega) h hP h4 rfl]
    exact ih this
theorem put_small (h : validT T = true) {x : PairT} (hx : validR [x] = true) : (∀ p ∈ (putF T x).pages, smallP p) ∧ (putF T x).pages.length ≤ T.pages.length + 4 := grow_small (path_ok h) (GI.start h (path_ok h) hx)
theorem put_sz {x : PairT} {r : Int} {A : Option Addr} {c : Nat} {L : List PgL} (h : validT T = true) (hx : validR [x] = true) (he : (⟨r, tsG L⟩ : TrT) = putF T x) : SzT ⟨r, A, c, L⟩ ∧ L.length ≤ 20 := by
  have h1 := put_small h hx
  rw [← he] at h1
  have h2 : (tsG L).length = L.length := by simp
  have h3 := (valid_len h).2
  have h4 : L.length ≤ 20 := by have := h1.2; simp only [List.length_map] at this; omega
  exact ⟨sz_small h1.1 (by omega), h4⟩
theorem split_lf {p : PgT} (h : p.kids = []) : split1 p = (leafP ((prsP p).take (((prsP p).length + 1) / 2)), (((prsP p).drop (((prsP p).length + 1) / 2)).getD 0 ⟨0, 0⟩).key, leafP ((prsP p).drop (((prsP p).length + 1) / 2))) := by unfold split1; rw [if_pos h]
theorem split_in {p : PgT} (h : p.kids ≠ []) : split1 p = (innP (p.keys.take (p.keys.length / 2)) (p.kids.take (p.keys.length / 2 + 1)), p.keys.getD (p.keys.length / 2) 0, innP (p.keys.drop (p.keys.length / 2 + 1)) (p.kids.drop (p.keys.length / 2 + 1))) := by unfold split1; rw [if_neg h]
theorem gP_ch {r : Int} {L : List PgL} {i : Int} (h : i.toNat < L.length) : gP ⟨r, tsG L⟩ i = (L[i.toNat]'h).t := gP_at (T := ⟨r, none, 0, L⟩) rfl h
theorem getP_key {l : List PairT} {k : Nat} (h : k < l.length) : (l.getD k ⟨0, 0⟩).key = (l[k]'h).key := by rw [List.getD_eq_getElem?_getD, List.getElem?_eq_getElem h]; rfl
end
end Go.Px
end
section
namespace Go.Px
open Go.RowKit
section
variable {T R : TrT} {P : List Int} {key : Int}
theorem keysIn_iff {p : PgT} {low high : Int} : keysIn p low high = true ↔ ∀ k ∈ p.keys, low ≤ k ∧ k < high := by
  simp [keysIn, List.all_eq_true]
end
end Go.Px
end
section
namespace Go.Px
open Go.RowKit
def okM (m : Int → Nat) (R : TrT) : Nat → Int → Int → Int → Prop
  | 0, _, _, _ => False
  | d + 1, i, lo, hi => inT R i = true ∧ ((gP R i).keys.length ≤ 4 ∧ m i ≤ (gP R i).keys.length) ∧ validK (gP R i).keys = true ∧ (∀ k ∈ (gP R i).keys, lo ≤ k ∧ k < hi) ∧
    ((d = 0 ∧ (gP R i).kids = [] ∧ (gP R i).vals.length = (gP R i).keys.length ∧ (gP R i).vals.all isValB = true) ∨
     (d ≠ 0 ∧ (gP R i).vals = [] ∧ (gP R i).kids.length = (gP R i).keys.length + 1 ∧ ∀ k, k < (gP R i).kids.length → okM m R d ((gP R i).kids.getD k 0) (lowK (gP R i) lo k) (highK (gP R i) hi k)))
def mT (r : Int) (i : Int) : Nat := if i = r then 0 else 2
section
variable {m m' : Int → Nat} {T R R' U : TrT} {d D : Nat} {i u lo hi : Int}
theorem okM_pos (h : okM m R d i lo hi) : ∃ e, d = e + 1 := by
  cases d with
  | zero => exact h.elim
  | succ d => exact ⟨d, rfl⟩
theorem okM_own (h : okM m R d i lo hi) : i ∈ subT R d i := by
  obtain ⟨e, rfl⟩ := okM_pos h
  simp [subT]
theorem okB_M : ∀ {d : Nat} {i lo hi : Int}, okB T d i lo hi = true → okM (mT T.root) T d i lo hi
  | 0, _, _, _, h => by simp [okB] at h
  | d + 1, i, lo, hi, h => by
    obtain ⟨h1, h2, h3, h4⟩ := okB_iff.1 h
    have h5 := fr_len h2
    have h6 : i = T.root ∨ 2 ≤ (gP T i).keys.length := by
      have := h2
      simp only [frB, Bool.and_eq_true, Bool.or_eq_true, decide_eq_true_eq] at this
      exact this.1.2
    refine ⟨h1, ⟨h5, ?_⟩, fr_keys h2, keysIn_iff.1 h3, ?_⟩
    · unfold mT; split <;> omega
    rcases h4 with ⟨a, b⟩ | ⟨a, b, c⟩
    · exact .inl ⟨a, b, fr_leaf h2 b⟩
    refine .inr ⟨a, ?_, (fr_in h2 b).2, fun k hk => okB_M (c k hk)⟩
    have := h2
    unfold frB at this
    rw [if_neg b] at this
    simp only [Bool.and_eq_true, decide_eq_true_eq] at this
    first | exact this.2.1.1 | exact this.1.2.1 | exact this.2.1
theorem okM_B : ∀ {d : Nat} {i lo hi : Int}, okM (mT T.root) T d i lo hi → (subT T d i).Nodup → (i = T.root ∨ T.root ∉ subT T d i) → (i = T.root → (gP T i).kids ≠ [] → 1 ≤ (gP T i).keys.length) → okB T d i lo hi = true
  | 0, _, _, _, h, _, _, _ => h.elim
  | d + 1, i, lo, hi, h, hn, hr, h1k => by
    obtain ⟨h1, ⟨h2, h3⟩, h4, h5, h6⟩ := h
    simp only [subT] at hn hr
    have hn2 := List.nodup_cons.1 hn
    have hm : i = T.root ∨ 2 ≤ (gP T i).keys.length := by
      by_cases he : i = T.root
      · exact .inl he
      right; unfold mT at h3; rw [if_neg he] at h3; exact h3
    refine okB_iff.2 ⟨h1, ?_, keysIn_iff.2 h5, ?_⟩
    · unfold frB
      simp only [Bool.and_eq_true, Bool.or_eq_true, decide_eq_true_eq]
      refine ⟨⟨⟨h2, h4⟩, hm⟩, ?_⟩
      rcases h6 with ⟨_, b, c, e⟩ | ⟨_, b, c, _⟩
      · rw [if_pos b]; simp only [Bool.and_eq_true, decide_eq_true_eq]; exact ⟨c, e⟩
      have hk : (gP T i).kids ≠ [] := fun e9 => by rw [e9] at c; simp at c
      rw [if_neg hk]
      simp only [Bool.and_eq_true, decide_eq_true_eq]
      refine ⟨⟨b, ?_⟩, c⟩
      rcases hm with hm | hm
      · exact h1k hm hk
      omega
    rcases h6 with ⟨a, b, _⟩ | ⟨a, b, c, e⟩
    · exact .inl ⟨a, b⟩
    refine .inr ⟨a, fun e9 => by rw [e9] at c; simp at c, fun k hk => ?_⟩
    have hkm : (gP T i).kids.getD k 0 ∈ (gP T i).kids := by rw [getD_in hk]; exact List.getElem_mem hk
    have hok := e k hk
    have hown := okM_own hok
    have hne : T.root ∉ subT T d ((gP T i).kids.getD k 0) := fun hin => by
      have hf : T.root ∈ (gP T i).kids.flatMap (subT T d) := List.mem_flatMap.2 ⟨_, hkm, hin⟩
      rcases hr with hr | hr
      · exact hn2.1 (hr ▸ hf)
      exact hr (List.mem_cons_of_mem _ hf)
    exact okM_B hok (nd_part hn2.2 _ hkm) (.inr hne) (fun e9 => absurd (e9 ▸ hown) hne)
theorem okM_m : ∀ {d : Nat} {i lo hi : Int}, okM m R d i lo hi → ∀ x ∈ subT R d i, inT R x = true ∧ m x ≤ (gP R x).keys.length
  | 0, _, _, _, h, _, _ => h.elim
  | d + 1, i, lo, hi, h, x, hx => by
    obtain ⟨h1, ⟨h2, h3⟩, h4, h5, h6⟩ := h
    simp only [subT] at hx
    rcases List.mem_cons.1 hx with rfl | hx
    · exact ⟨h1, h3⟩
    obtain ⟨y, hy, hx⟩ := List.mem_flatMap.1 hx
    rcases h6 with ⟨_, b, _⟩ | ⟨a, b, c, e⟩
    · rw [b] at hy; simp at hy
    obtain ⟨k, hk, rfl⟩ := List.getElem_of_mem hy
    have := e k hk
    rw [getD_in hk] at this
    exact okM_m this x hx
theorem sub_kid : ∀ {d : Nat} {i lo hi : Int}, okM m R d i lo hi → ∀ {x y : Int}, x ∈ subT R d i → y ∈ (gP R x).kids → y ∈ subT R d i
  | 0, _, _, _, h, _, _, _, _ => h.elim
  | d + 1, i, lo, hi, h, x, y, hx, hy => by
    obtain ⟨h1, ⟨h2, h3⟩, h4, h5, h6⟩ := h
    simp only [subT] at hx ⊢
    rcases h6 with ⟨_, b, _⟩ | ⟨a, b, c, e⟩
    · rw [b] at hx
      simp only [List.flatMap_nil, List.mem_singleton] at hx
      rw [hx, b] at hy; simp at hy
    rcases List.mem_cons.1 hx with rfl | hx
    · obtain ⟨k, hk, rfl⟩ := List.getElem_of_mem hy
      have := e k hk
      rw [getD_in hk] at this
      exact List.mem_cons_of_mem _ (List.mem_flatMap.2 ⟨_, List.getElem_mem hk, okM_own this⟩)
    obtain ⟨z, hz, hx⟩ := List.mem_flatMap.1 hx
    refine List.mem_cons_of_mem _ (List.mem_flatMap.2 ⟨z, hz, ?_⟩)
    obtain ⟨k, hk, rfl⟩ := List.getElem_of_mem hz
    have := e k hk
    rw [getD_in hk] at this
    exact sub_kid this hx hy
def relP (f : Int → Int) (p : PgT) : PgT := ⟨p.keys, p.kids.map f, p.vals⟩
theorem okM_rel {f : Int → Int} : ∀ {d : Nat} {i lo hi : Int}, okM m R d i lo hi → (∀ x ∈ subT R d i, inT U (f x) = true ∧ gP U (f x) = relP f (gP R x) ∧ m' (f x) ≤ (gP R x).keys.length) →
    okM m' U d (f i) lo hi ∧ subT U d (f i) = (subT R d i).map f
  | 0, _, _, _, h, _ => h.elim
  | d + 1, i, lo, hi, h, hs => by
    obtain ⟨h1, ⟨h2, h3⟩, h4, h5, h6⟩ := h
    obtain ⟨g0, g1, g2⟩ := hs i (by simp [subT])
    have hk : ∀ k, (hk : k < (gP R i).kids.length) → ∀ x ∈ subT R d ((gP R i).kids.getD k 0), inT U (f x) = true ∧ gP U (f x) = relP f (gP R x) ∧ m' (f x) ≤ (gP R x).keys.length := fun k hk x hx => by
      refine hs x ?_
      simp only [subT]
      rw [getD_in hk] at hx
      exact List.mem_cons_of_mem _ (List.mem_flatMap.2 ⟨_, List.getElem_mem hk, hx⟩)
    refine ⟨?_, ?_⟩
    · simp only [okM, g1]
      refine ⟨g0, ⟨h2, g2⟩, h4, h5, ?_⟩
      rcases h6 with ⟨a, b, c, e⟩ | ⟨a, b, c, e⟩
      · exact .inl ⟨a, by simp [relP, b], c, e⟩
      refine .inr ⟨a, b, by simpa [relP] using c, fun k hk2 => ?_⟩
      have hk3 : k < (gP R i).kids.length := by simpa [relP] using hk2
      have := (okM_rel (e k hk3) (hk k hk3)).1
      rw [getD_in hk3] at this
      rw [getD_in hk2]
      simp only [relP, List.getElem_map]
      exact this
    simp only [subT, g1, List.map_cons]
    congr 1
    rcases h6 with ⟨_, b, _⟩ | ⟨a, b, c, e⟩
    · simp [relP, b]
    have hall : ∀ x ∈ (gP R i).kids, subT U d (f x) = (subT R d x).map f := fun x hx => by
      obtain ⟨k, hk2, rfl⟩ := List.getElem_of_mem hx
      have := (okM_rel (e k hk2) (hk k hk2)).2
      rwa [getD_in hk2] at this
    simp only [relP]
    generalize (gP R i).kids = l at hall
    induction l with
    | nil => rfl
    | cons x l ih =>
      simp only [List.map_cons, List.flatMap_cons, List.map_append]
      rw [hall x (by simp), ih fun y hy => hall y (List.mem_cons_of_mem _ hy)]
end
end Go.Px
end
section
namespace Go.Px
open Go.RowKit
def cutX (l : List PgT) (g : Int) (k : Nat) : List PgT := ((l.take k).eraseIdx g.toNat).map (cutP g)
theorem cutX_ne {l : List PgT} {g : Int} {k : Nat} (hk : k < l.length) (hg : 0 ≤ g) (h : (k : Int) ≠ g) : cutX l g (k + 1) = cutX l g k ++ [cutP g l[k]] := by
  unfold cutX
  rw [take_snoc hk]
  by_cases h1 : g.toNat < k
  · rw [List.eraseIdx_append_of_lt_length (by rw [List.length_take]; omega), List.map_append]; rfl
  rw [List.eraseIdx_of_length_le (by rw [List.length_append, List.length_take, List.length_singleton]; omega), List.eraseIdx_of_length_le (by rw [List.length_take]; omega), List.map_append]; rfl
theorem cutX_eq {l : List PgT} {g : Int} {k : Nat} (hk : k < l.length) (h : (k : Int) = g) : cutX l g (k + 1) = cutX l g k := by
  unfold cutX
  have hg : g.toNat = k := by omega
  rw [take_snoc hk, hg, List.eraseIdx_append_of_length_le (by rw [List.length_take]; omega), List.length_take, Nat.min_eq_left (by omega), Nat.sub_self, List.eraseIdx_of_length_le (l := l.take k) (by rw [List.length_take]; omega)]
  simp
theorem cutX_len {l : List PgT} {g : Int} {k : Nat} : (cutX l g k).length ≤ l.length := by
  unfold cutX
  rw [List.length_map]
  exact Nat.le_trans (List.length_eraseIdx_le _ _) (by rw [List.length_take]; omega)
theorem cutX_all {T : TrT} {g : Int} {k : Nat} {r : Int} (hk : T.pages.length ≤ k) (hr : r = shI g T.root) {L : List PgT} (h : L = cutX T.pages g k) : (⟨r, L⟩ : TrT) = cutF T g := by
  rw [hr, h]; unfold cutX cutF
  rw [List.take_of_length_le hk]
theorem mid_get {f : Int → Int} {l : List Int} {k : Nat} (hk : k < l.length) (h : k < ((l.take k).map f ++ l.drop k).length) : ((l.take k).map f ++ l.drop k)[k] = l[k] := by
  rw [List.getElem_append_right (by simp; omega)]
  simp [Nat.min_eq_left (Nat.le_of_lt hk)]
theorem mid_set {f : Int → Int} {l : List Int} {k : Nat} (hk : k < l.length) : ((l.take k).map f ++ l.drop k).set k (f l[k]) = (l.take (k + 1)).map f ++ l.drop (k + 1) := by
  have e : ((l.take k).map f).length = k := by rw [List.length_map, List.length_take]; omega
  rw [List.set_append_right _ _ (by omega), e, Nat.sub_self, List.drop_eq_getElem_cons hk, List.set_cons_zero, take_snoc hk, List.map_append]
  simp
theorem mid_len {f : Int → Int} {l : List Int} {k : Nat} : ((l.take k).map f ++ l.drop k).length = l.length := by
  rw [List.length_append, List.length_map, List.length_take, List.length_drop]; omega
theorem mid_all {f : Int → Int} {l : List Int} {k : Nat} (hk : l.length ≤ k) : (l.take k).map f ++ l.drop k = l.map f := by
  rw [List.take_of_length_le hk, List.drop_eq_nil_of_le hk, List.append_nil]
theorem dropR_in {l : List PairT} {k : Int} (h : isInB l k = true) : dropR l k = l.take (plc l k) ++ l.drop (plc l k + 1) := by
  unfold dropR dropP; rw [if_pos h, if_pos h]
theorem dropR_no {l : List PairT} {k : Int} (h : isInB l k = false) : dropR l k = [] := by unfold dropR; rw [h]; rfl
section
variable {P : Program} {w0 w : World} {R : List (Option Nat)} {M : List (List FE)} {l : List PgL} {e : TypeId}
theorem pg_key (l : List PgL) {j : Nat} (hj : j < l.length) : (l.flatMap (pgF e))[3 * j]? = some ⟨.slice l[j].k.A l[j].k.l.length l[j].k.cp, e, 1, l[j].k.l.length, l[j].k.l.map I⟩ := by
  have := pg_get (l := l) (e := e) hj (r := 0) (by omega)
  rw [Nat.add_zero] at this
  rw [this]; rfl
theorem pg_keyset (l : List PgL) {j : Nat} (hj : j < l.length) {f : Nat} {v : Int} (hf : f < l[j].k.l.length) : (l.flatMap (pgF e)).set (3 * j) ⟨.slice l[j].k.A l[j].k.l.length l[j].k.cp, e, 1, l[j].k.l.length, (l[j].k.l.set f v).map I⟩ = (l.set j (⟨⟨l[j].k.A, l[j].k.cp, l[j].k.l.set f v⟩, l[j].c, l[j].v⟩ : PgL)).flatMap (pgF e) := by
  have := pg_setk (l := l) (e := e) hj (s := ⟨l[j].k.A, l[j].k.cp, l[j].k.l.set f v⟩)
  rw [← this]
  unfold slF
  simp only [List.length_set]
theorem enc_keyset (l : List PgL) {j : Nat} (hj : j < l.length) {f : Nat} {v : Int} : l.flatMap encPg = (l.set j (⟨⟨l[j].k.A, l[j].k.cp, l[j].k.l.set f v⟩, l[j].c, l[j].v⟩ : PgL)).flatMap encPg := enc_setk hj rfl (by simp) rfl
end
end Go.Px
end
section
namespace Go.Px
open Go.RowKit
theorem Ru.bmax {P : Program} {σ : Sig} {w : World} {dst : Option Tmp} {T : TypeId} {pos : String} {after : Array Edge} {g : Option (Nat × Bool)} {x y : Operand} {t t' : TypeId} {a b : Int} (hx : ev σ x = I a) (hy : ev σ y = I b) : Ru P σ ⟨dst, .call ⟨.builtin .max, #[x, y], #[t, t']⟩, T, pos, after, g⟩ w (I (max a b)) := by
  have e : max a b = if b > a then b else a := by split <;> omega
  rw [e]
  simp [Ru, execOp, resolve, invoke, builtin, hx, hy, Builtin.max_, Builtin.max2]
structure MD (T : TrT) (up : Int) (f : Nat) (a b : Int) : Prop where
  iu : inT T up = true
  ia : inT T a = true
  ib : inT T b = true
  ea : (gP T up).kids.getD f 0 = a
  eb : (gP T up).kids.getD (f + 1) 0 = b
  kl : (gP T up).kids.length = (gP T up).keys.length + 1
  f1 : f + 1 ≤ (gP T up).keys.length
  nab : a ≠ b
  nua : up ≠ a
  nub : up ≠ b
  sm : ∀ p ∈ T.pages, smallP p
  lf : (gP T a).kids = [] → (gP T a).vals.length = (gP T a).keys.length ∧ (gP T b).vals.length = (gP T b).keys.length
  inn : (gP T a).kids ≠ [] → (gP T a).kids.length = (gP T a).keys.length + 1 ∧ (gP T b).kids.length = (gP T b).keys.length + 1
section
variable {T T0 : TrT} {P : List Int} {s : TrT × List Int} {up a b : Int} {f n : Nat} {L : List PgT}
theorem DV.small (h : DV T0 P n s) : ∀ p ∈ s.1.pages, smallP p := fun p hp => by
  obtain ⟨k, hk, rfl⟩ := List.getElem_of_mem hp
  have hs := h.sh (k : Int) (inT_iff.2 ⟨by omega, by rw [← h.len]; omega⟩)
  have e : gP s.1 (k : Int) = s.1.pages[k] := by unfold gP; rw [List.getD_eq_getElem?_getD, Int.toNat_natCast, List.getElem?_eq_getElem hk]; rfl
  rw [e] at hs
  have h4 := hs.k4
  rcases hs.c with ⟨_, b, c⟩ | ⟨_, b, c, _⟩
  · exact ⟨by omega, by simp [b], by omega⟩
  exact ⟨by omega, by omega, by simp [c]⟩
theorem DV.md (h : DV T0 P n s) (hm : MK T0 P n s.1 f) : MD s.1 (P.getD (n - 2) 0) f ((gP s.1 (P.getD (n - 2) 0)).kids.getD f 0) ((gP s.1 (P.getD (n - 2) 0)).kids.getD (f + 1) 0) := by
  have hkl := hm.kl
  have hf := hm.f1
  have k1 : f < (gP s.1 (P.getD (n - 2) 0)).kids.length := by omega
  have k2 : f + 1 < (gP s.1 (P.getD (n - 2) 0)).kids.length := by omega
  have ha : (gP s.1 (P.getD (n - 2) 0)).kids.getD f 0 ∈ (gP s.1 (P.getD (n - 2) 0)).kids := by rw [getD_in k1]; exact List.getElem_mem k1
  have hb : (gP s.1 (P.getD (n - 2) 0)).kids.getD (f + 1) 0 ∈ (gP s.1 (P.getD (n - 2) 0)).kids := by rw [getD_in k2]; exact List.getElem_mem k2
  obtain ⟨ina, la⟩ := hm.lv _ ha
  obtain ⟨inb, lb⟩ := hm.lv _ hb
  have lu := hm.lu
  have hsa := h.sh _ ina
  have hsb := h.sh _ inb
  rw [la] at hsa
  rw [lb] at hsb
  have toR : ∀ i, inT T0 i = true → inT s.1 i = true := fun i hi => by have := inT_iff.1 hi; exact inT_iff.2 (by rw [h.len]; exact this)
  refine ⟨toR _ hm.iu, toR _ ina, toR _ inb, rfl, rfl, hkl, hf, ?_, fun e => by rw [← e] at la; omega, fun e => by rw [← e] at lb; omega, h.small, fun hk => ?_, fun hk => ?_⟩
  · rw [getD_in k1, getD_in k2]
    exact fun e => absurd ((List.pairwise_iff_getElem.1 hm.nd) f (f + 1) k1 k2 (by omega)) (by simpa using e)
  · obtain ⟨l1, va⟩ := sh_leaf hsa hk
    rcases hsb.c with ⟨_, _, q⟩ | ⟨q, _⟩
    · exact ⟨va, q⟩
    omega
  obtain ⟨l2, ca, _⟩ := sh_in hsa hk
  obtain ⟨_, cb, _⟩ := sh_in hsb (fun e => by have := (sh_leaf hsb e).1; omega)
  exact ⟨ca, cb⟩
theorem mend_leaf1 (h : MD T up f a b) (hk : (gP T a).kids = []) (h4 : (prsP (gP T a) ++ prsP (gP T b)).length ≤ 4) (hL : L = (T.pages.set a.toNat (leafP (prsP (gP T a) ++ prsP (gP T b)))).set up.toNat (cutK (gP T up) (f + 1))) : (⟨T.root, L⟩ : TrT) = (mendF T up f).1 ∧ (mendF T up f).2 = b := by
  unfold mendF
  rw [h.ea, h.eb, if_pos hk]
  unfold mendR
  rw [if_pos h4, hL]
  exact ⟨rfl, rfl⟩
theorem mend_leaf2 (h : MD T up f a b) (hk : (gP T a).kids = []) {r : List PairT} (hr : r = prsP (gP T a) ++ prsP (gP T b)) (h4 : ¬ r.length ≤ 4) (hL : L = ((T.pages.set a.toNat (leafP (r.take ((r.length + 1) / 2)))).set b.toNat (leafP (r.drop ((r.length + 1) / 2)))).set up.toNat (setK (gP T up) f (r.getD ((r.length + 1) / 2) ⟨0, 0⟩).key)) : (⟨T.root, L⟩ : TrT) = (mendF T up f).1 ∧ (mendF T up f).2 = -1 := by
  unfold mendF
  rw [h.ea, h.eb, if_pos hk]
  unfold mendR
  rw [← hr, if_neg h4, hL]
  exact ⟨rfl, rfl⟩
theorem mend_inn1 (h : MD T up f a b) (hk : (gP T a).kids ≠ []) (h4 : (bothK T up a b f).length ≤ 4) (hL : L = (T.pages.set a.toNat (innP (bothK T up a b f) (bothC T a b))).set up.toNat (cutK (gP T up) (f + 1))) : (⟨T.root, L⟩ : TrT) = (mendF T up f).1 ∧ (mendF T up f).2 = b := by
  unfold mendF
  rw [h.ea, h.eb, if_neg hk]
  unfold mendI
  rw [if_pos h4, hL]
  exact ⟨rfl, rfl⟩
theorem mend_inn2 (h : MD T up f a b) (hk : (gP T a).kids ≠ []) {ks cs : List Int} (hks : ks = bothK T up a b f) (hcs : cs = bothC T a b) (h4 : ¬ ks.length ≤ 4) (hL : L = ((T.pages.set a.toNat (innP (ks.take (ks.length / 2)) (cs.take (ks.length / 2 + 1)))).set b.toNat (innP (ks.drop (ks.length / 2 + 1)) (cs.drop (ks.length / 2 + 1)))).set up.toNat (setK (gP T up) f (ks.getD (ks.length / 2) 0))) : (⟨T.root, L⟩ : TrT) = (mendF T up f).1 ∧ (mendF T up f).2 = -1 := by
  unfold mendF
  rw [h.ea, h.eb, if_neg hk]
  unfold mendI
  rw [← hks, ← hcs, if_neg h4, hL]
  exact ⟨rfl, rfl⟩
theorem two_set (h : MD T up f a b) {x y : PgT} : gP ⟨T.root, (T.pages.set a.toNat x).set b.toNat y⟩ up = gP T up := by
  have e : (⟨T.root, (T.pages.set a.toNat x).set b.toNat y⟩ : TrT) = setP (setP T a x) b y := rfl
  rw [e, gP_set_ne (inT_iff.1 h.ib).1 (inT_iff.1 h.iu).1 h.nub.symm, gP_set_ne (inT_iff.1 h.ia).1 (inT_iff.1 h.iu).1 h.nua.symm]
end
end Go.Px
end
section
namespace Go.Px
open Go.RowKit
section
variable {T T0 R : TrT} {P : List Int} {s : TrT × List Int} {a : Nat}
theorem mendL_stop (ha : 1 ≤ a) (h : a = 1 ∨ 2 ≤ (gP s.1 (P.getD (a - 1) 0)).keys.length) : mendL P a s = s := by
  obtain ⟨b, rfl⟩ : ∃ b, a = b + 1 := ⟨a - 1, by omega⟩
  rw [Nat.add_sub_cancel] at h
  simp only [mendL]; rw [if_pos (by rcases h with h | h; exact .inl (by omega); exact .inr h)]
theorem mendL_go (ha : 2 ≤ a) (h : ¬ 2 ≤ (gP s.1 (P.getD (a - 1) 0)).keys.length) : mendL P a s = mendL P (a - 1) ((mendF s.1 (P.getD (a - 2) 0) (plcI (gP s.1 (P.getD (a - 2) 0)).kids (P.getD (a - 1) 0) - 1).toNat).1, goneF s.2 (mendF s.1 (P.getD (a - 2) 0) (plcI (gP s.1 (P.getD (a - 2) 0)).kids (P.getD (a - 1) 0) - 1).toNat).2) := by
  obtain ⟨b, rfl⟩ : ∃ b, a = b + 2 := ⟨a - 2, by omega⟩
  rw [show b + 2 - 1 = b + 1 by omega] at h ⊢
  rw [show b + 2 - 2 = b by omega]
  show (if b + 1 = 0 ∨ 2 ≤ (gP s.1 (P.getD (b + 1) 0)).keys.length then s else _) = _
  rw [if_neg (by rintro (h1 | h1); omega; exact h h1)]
  rfl
theorem cutA_nil {n : Nat} : cutA n R [] = R := by cases n <;> rfl
theorem cutA_go {g : List Int} {i : Nat} (hi : i < g.length) (h4 : g.length ≤ 4) : cutA (4 - i) R (g.drop i) = cutA (4 - (i + 1)) (cutF R g[i]) ((g.drop (i + 1)).map (shI g[i])) := by
  rw [List.drop_eq_getElem_cons hi, show 4 - i = (4 - (i + 1)) + 1 by omega]
  rfl
theorem FV.kb {lv : Int → Nat} {g : List Int} (h : FV lv R g) (hl : R.pages.length ≤ 64) {p : PgT} (hp : p ∈ R.pages) : ∀ x ∈ p.kids, 0 ≤ x ∧ x ≤ 1000 := by
  intro x hx
  obtain ⟨k, hk, rfl⟩ := List.getElem_of_mem hp
  have hs := h.sh (k : Int) (inT_iff.2 (by omega))
  have e : gP R (k : Int) = R.pages[k] := by unfold gP; rw [List.getD_eq_getElem?_getD, Int.toNat_natCast, List.getElem?_eq_getElem hk]; rfl
  rw [e] at hs
  have := (sh_in hs (fun e => by rw [e] at hx; simp at hx)).2.2.2 x hx
  omega
theorem FV.small {lv : Int → Nat} {g : List Int} (h : FV lv R g) : ∀ p ∈ R.pages, smallP p := fun p hp => by
  obtain ⟨k, hk, rfl⟩ := List.getElem_of_mem hp
  have hs := h.sh (k : Int) (inT_iff.2 ⟨by omega, by omega⟩)
  have e : gP R (k : Int) = R.pages[k] := by unfold gP; rw [List.getD_eq_getElem?_getD, Int.toNat_natCast, List.getElem?_eq_getElem hk]; rfl
  rw [e] at hs
  have h4 := hs.k4
  rcases hs.c with ⟨_, b, c⟩ | ⟨_, b, c, _⟩
  · exact ⟨by omega, by simp [b], by omega⟩
  exact ⟨by omega, by omega, by simp [c]⟩
theorem FV.step {lv : Int → Nat} {g : List Int} {i : Nat} (hi : i < g.length) (h : FV lv R (g.drop i)) : FV (fun x => lv (unI g[i] x)) (cutF R g[i]) ((g.drop (i + 1)).map (shI g[i])) := by
  rw [List.drop_eq_getElem_cons hi] at h
  exact h.cut
theorem FV.at {lv : Int → Nat} {g : List Int} {i : Nat} (hi : i < g.length) (h : FV lv R (g.drop i)) : 0 ≤ g[i] ∧ g[i] < (R.pages.length : Int) := by
  rw [List.drop_eq_getElem_cons hi] at h
  exact inT_iff.1 (h.gin _ List.mem_cons_self)
def gmL (g : List Int) (i m : Nat) (gi : Int) : List Int := g.take (i + 1) ++ (((g.drop (i + 1)).take m).map (shI gi) ++ (g.drop (i + 1)).drop m)
variable {g : List Int} {i m : Nat} {gi : Int}
theorem gm_len (hi : i < g.length) : (gmL g i m gi).length = g.length := by
  unfold gmL; rw [List.length_append, mid_len, List.length_take, List.length_drop]; omega
theorem gm_zero : gmL g i 0 gi = g := by simp [gmL]
theorem gm_geti (hi : i < g.length) (h : i < (gmL g i m gi).length) : (gmL g i m gi)[i] = g[i] := by
  have e : (gmL g i m gi)[i]? = g[i]? := by
    unfold gmL
    rw [List.getElem?_append_left (by rw [List.length_take]; omega), List.getElem?_take_of_lt (by omega)]
  rw [List.getElem?_eq_getElem h, List.getElem?_eq_getElem hi] at e
  exact Option.some.inj e
theorem gm_get (hi : i + 1 + m < g.length) (h : i + 1 + m < (gmL g i m gi).length) : (gmL g i m gi)[i + 1 + m] = g[i + 1 + m] := by
  have hr : m < (g.drop (i + 1)).length := by rw [List.length_drop]; omega
  have e : (gmL g i m gi)[i + 1 + m]? = g[i + 1 + m]? := by
    unfold gmL
    rw [List.getElem?_append_right (by rw [List.length_take]; omega), List.length_take, Nat.min_eq_left (by omega), show i + 1 + m - (i + 1) = m by omega]
    rw [List.getElem?_append_right (by rw [List.length_map, List.length_take]; omega), List.length_map, List.length_take, Nat.min_eq_left (by omega), Nat.sub_self, List.getElem?_drop, List.getElem?_drop]
    rfl
  rw [List.getElem?_eq_getElem h, List.getElem?_eq_getElem hi] at e
  exact Option.some.inj e
theorem gm_set (hi : i + 1 + m < g.length) : (gmL g i m gi).set (i + 1 + m) (shI gi g[i + 1 + m]) = gmL g i (m + 1) gi := by
  have hr : m < (g.drop (i + 1)).length := by rw [List.length_drop]; omega
  have e : g[i + 1 + m] = (g.drop (i + 1))[m] := by rw [List.getElem_drop]
  unfold gmL
  rw [List.set_append_right _ _ (by rw [List.length_take]; omega), List.length_take, Nat.min_eq_left (by omega), show i + 1 + m - (i + 1) = m by omega, e, mid_set hr]
theorem gm_end (hm : g.length ≤ i + 1 + m) : gmL g i m gi = g.take (i + 1) ++ (g.drop (i + 1)).map (shI gi) := by
  unfold gmL
  rw [mid_all (by rw [List.length_drop]; omega)]
theorem gm_drop (hi : i < g.length) : (g.take (i + 1) ++ (g.drop (i + 1)).map (shI gi)).drop (i + 1) = (g.drop (i + 1)).map (shI gi) := by
  rw [List.drop_append_of_le_length (by rw [List.length_take]; omega), List.drop_eq_nil_of_le (by rw [List.length_take]; omega), List.nil_append]
theorem root_yes (h : (gP s.1 s.1.root).kids.length = 1) : rootF s = (⟨(gP s.1 s.1.root).kids.getD 0 0, s.1.pages⟩, s.2 ++ [s.1.root]) := by unfold rootF; rw [if_pos h]
theorem root_no (h : ¬ (gP s.1 s.1.root).kids.length = 1) : rootF s = s := by unfold rootF; rw [if_neg h]
theorem drop_WK (h : validT T = true) {key : Int} : WK (dropF T key) := by
  have hP := path_ok (key := key) h
  have hl := (valid_len h).2
  have hd : ∀ {a : Nat} {s : TrT × List Int}, DV T (pathK T key) a s → ∃ b, DV T (pathK T key) b (mendL (pathK T key) a s) := by
    intro a
    induction a with
    | zero => intro s hD; have := hD.a1; omega
    | succ a ih =>
      intro s hD
      by_cases hs : a + 1 = 1 ∨ 2 ≤ (gP s.1 ((pathK T key).getD (a + 1 - 1) 0)).keys.length
      · rw [mendL_stop (by omega) hs]; exact ⟨_, hD⟩
      have h2 : 2 ≤ a + 1 := by have : ¬ a + 1 = 1 := fun e => hs (.inl e); omega
      rw [mendL_go h2 (fun e => hs (.inr e))]
      have := hD.next h h2 (hD.place h hP h2)
      rw [Nat.add_sub_cancel] at this ⊢
      exact ih this
  obtain ⟨b, hb⟩ := hd (DV.start h hP (key := key))
  obtain ⟨h1, h2, h3, h4⟩ := hb.fin h hP
  have := hP.le
  exact h1.all (by omega) h2 (by omega)
end
end Go.Px
end
section
namespace Go.Px
open Go.RowKit
theorem Mem.gcat {w0 w : World} {R : List (Option Nat)} {M : List (List FE)} {l1 l2 : List PgL} {e : TypeId} (h : Mem w0 w R (l1.flatMap (pgF e) :: l2.flatMap (pgF e) :: M)) : Mem w0 w R ((l1 ++ l2).flatMap (pgF e) :: M) := by
  simpa [Mem, List.flatMap_append] using h
theorem Mem.gsplit {w0 w : World} {R : List (Option Nat)} {M : List (List FE)} {l : List PgL} {e : TypeId} (k : Nat) (h : Mem w0 w R (l.flatMap (pgF e) :: M)) : Mem w0 w R ((l.take k).flatMap (pgF e) :: (l.drop k).flatMap (pgF e) :: M) := by
  have e1 : l.flatMap (pgF e) = (l.take k).flatMap (pgF e) ++ (l.drop k).flatMap (pgF e) := by rw [← List.flatMap_append, List.take_append_drop]
  rw [e1] at h
  simpa [Mem] using h
def shrF (a p i : Nat) : Nat := a * (i + 1) / p - a * i / p
theorem sh_mul {a i : Nat} (ha : a ≤ 24) (hi : i ≤ 6) : a * i ≤ 144 := by
  have := Nat.mul_le_mul ha hi; omega
theorem share_at {len i n : Nat} (hl : len ≤ 24) (hn : n = partN len) (hi : i < n) : len * (i + 1) / n ≤ len ∧ len * (i + 1) / n ≤ len * i / n + 4 ∧ (5 ≤ len → len * i / n + 1 ≤ len * (i + 1) / n) ∧ len * i / n ≤ len * (i + 1) / n := by
  subst hn; exact share_ok hl hi
theorem part_le {len : Nat} (hl : len ≤ 24) : 1 ≤ partN len ∧ partN len ≤ 6 ∧ (2 ≤ partN len → 5 ≤ len) := by
  unfold partN; split <;> omega
section
variable {L : List PgL}
def lfs (L : List PgL) : Prop := ∀ q ∈ tsG L, lfP q
theorem lfs_nil : lfs [] := fun q hq => by simp at hq
theorem lfs_snoc {x : PgL} (h : lfs L) (hx : lfP x.t) : lfs (L ++ [x]) := fun q hq => by
  rw [tsg_app] at hq
  rcases List.mem_append.1 hq with hq | hq
  · exact h q hq
  rw [List.mem_singleton] at hq; rw [hq]; exact hx
theorem lfs_take {k : Nat} (h : lfs L) : ∀ q ∈ tsG (L.take k), lfP q := fun q hq => by
  obtain ⟨x, hx, rfl⟩ := List.mem_map.1 hq
  exact h _ (List.mem_map.2 ⟨x, List.mem_of_mem_take hx, rfl⟩)
theorem lfs_drop {k : Nat} (h : lfs L) : ∀ q ∈ tsG (L.drop k), lfP q := fun q hq => by
  obtain ⟨x, hx, rfl⟩ := List.mem_map.1 hq
  exact h _ (List.mem_map.2 ⟨x, List.mem_of_mem_drop hx, rfl⟩)
def fulls (L : List PgL) : Prop := ∀ x ∈ L, 1 ≤ x.k.l.length
theorem fulls_nil : fulls [] := fun q hq => by simp at hq
theorem fulls_snoc {x : PgL} (h : fulls L) (hx : 1 ≤ x.k.l.length) : fulls (L ++ [x]) := fun q hq => by
  rcases List.mem_append.1 hq with hq | hq
  · exact h q hq
  rw [List.mem_singleton] at hq; rw [hq]; exact hx
theorem wk_load1 (h : lfs L) (hl : L.length = 1) : WK ⟨0, tsG L⟩ := by
  obtain ⟨x, rfl⟩ := List.length_eq_one_iff.1 hl
  exact wk_one (h _ (by simp))
theorem wk_load2 {X : PgL} (h : lfs L) (hl : L.length ≤ 60) (hk : X.k.l.length ≤ 5) (hc : X.c.l.length ≤ 6) (hv : X.v.l = []) (hne : 1 ≤ X.c.l.length) (hr : ∀ x ∈ X.c.l, 1 ≤ x ∧ x ≤ (L.length : Int)) : WK ⟨0, tsG (X :: L)⟩ :=
  wk_two (L := tsG L) (p := X.t) h ⟨hk, hc, by show X.v.l.length ≤ 5; rw [hv]; simp⟩ (fun e => by have : X.c.l.length = 0 := congrArg List.length e; omega) (by rw [List.length_map]; exact hr) (by rw [List.length_map]; exact hl)
theorem wk_load3 {X Y Z : PgL} (h : lfs L) (hl : L.length = 6) (hX : X.k.l.length = 1 ∧ X.c.l = [1, 5] ∧ X.v.l = []) (hY : Y.k.l.length ≤ 5 ∧ Y.c.l.length ≤ 6 ∧ Y.v.l = [] ∧ 1 ≤ Y.c.l.length ∧ ∀ x ∈ Y.c.l, 2 ≤ x ∧ x < 5) (hZ : Z.k.l.length ≤ 5 ∧ Z.c.l.length ≤ 6 ∧ Z.v.l = [] ∧ 1 ≤ Z.c.l.length ∧ ∀ x ∈ Z.c.l, 6 ≤ x ∧ x < 9) : WK ⟨0, tsG (X :: Y :: (L.take 3 ++ Z :: L.drop 3))⟩ := by
  have e : tsG (X :: Y :: (L.take 3 ++ Z :: L.drop 3)) = X.t :: Y.t :: (tsG (L.take 3) ++ Z.t :: tsG (L.drop 3)) := by simp [tsG]
  have l1 : (tsG (L.take 3)).length = 3 := by rw [List.length_map, List.length_take]; omega
  have l2 : (tsG (L.drop 3)).length = 3 := by rw [List.length_map, List.length_drop]; omega
  have sm : ∀ {W : PgL}, W.k.l.length ≤ 5 → W.c.l.length ≤ 6 → W.v.l = [] → smallP W.t := fun {W} h1 h2 h3 => ⟨h1, h2, by show W.v.l.length ≤ 5; rw [h3]; simp⟩
  rw [e]
  refine wk_three (lfs_take h) (lfs_drop h) (sm (by omega) (by rw [hX.2.1]; simp) hX.2.2) (sm hY.1 hY.2.1 hY.2.2.1) (sm hZ.1 hZ.2.1 hZ.2.2.1) ?_ ?_ ?_ ?_ ?_ (by omega)
  · show X.c.l = _
    rw [hX.2.1, l1]; rfl
  · rw [l1]; exact fun x hx => by have := hY.2.2.2.2 x hx; omega
  · rw [l1, l2]; exact fun x hx => by have := hZ.2.2.2.2 x hx; omega
  · exact fun e => by have h1 : Y.c.l.length = 0 := congrArg List.length e; omega
  exact fun e => by have h1 : Z.c.l.length = 0 := congrArg List.length e; omega
theorem mem_snocB {l : List Int} {x lo hi hi2 : Int} (h : ∀ y ∈ l, lo ≤ y ∧ y < hi) (hx : lo ≤ x ∧ x < hi2) (hh : hi ≤ hi2) : ∀ y ∈ l ++ [x], lo ≤ y ∧ y < hi2 := fun y hy => by
  rcases List.mem_append.1 hy with hy | hy
  · have := h y hy; omega
  rw [List.mem_singleton] at hy; rw [hy]; exact hx
end
end Go.Px
end
section
namespace Go.Px
open Go.RowKit
section
variable {w0 w : World} {R : List (Option Nat)} {M : List (List FE)} {L : List PgL} {e e2 : TypeId} {A : Option Addr} {r : Int} {c n m : Nat}
theorem Mem.gownT (h : Mem w0 w R M) (i : Nat) {G : List FE} (hi : M[i]? = some G) : ∀ f ∈ G, f.own w := fun f hf => h.own f (List.mem_flatten.2 ⟨G, List.mem_of_getElem? hi, hf⟩)
theorem Mem.gmrg {a g1 g2 : List FE} (h : Mem w0 w R (a :: g1 :: g2 :: M)) : Mem w0 w R (a :: (g1 ++ g2) :: M) := by simpa [Mem] using h
theorem Mem.ngP (h : Mem w0 w R M) (i j : Nat) (hij : i ≠ j) (hi : M[i]? = some (L.flatMap (pgF e))) {gr n' c' m' sz' : Nat} {e3 : TypeId} {xs' : List Value} {g' : List FE} (hj : M[j]? = some (⟨.slice (bl gr) n' c', e3, sz', m', xs'⟩ :: g')) {k : Nat} (hk : k < L.length) (s : SlL) (hs : slF e s ∈ pgF e L[k]) : Ng s.A gr := by
  intro a ha hb
  have hg := grp_get (List.pairwise_flatten.1 h.apart).2 hi hj hij _ (List.mem_flatMap.2 ⟨_, List.getElem_mem hk, hs⟩) _ (List.mem_cons_self)
  exact hg a.block (by show (Value.slice s.A _ _).ownBlock = _; rw [ha]; rfl) (by rw [hb]; rfl)
theorem TrN.ofown (h : ∀ f ∈ ([⟨.slice A n c, e2, 3, m, L.flatMap encPg⟩] ++ L.flatMap (pgF e) : List FE), f.own w) : TrN w ⟨r, A, c, L⟩ := by
  refine ⟨own_rd (show (⟨.slice A n c, e2, 3, m, L.flatMap encPg⟩ : FE).own w from h _ (by simp)), fun x hx => ?_⟩
  have hm : ∀ y ∈ pgF e x, y.own w := fun y hy => h _ (List.mem_append_right _ (List.mem_flatMap.2 ⟨x, hx, hy⟩))
  exact ⟨own_rd (hm (slF e x.k) (by simp [pgF])), own_rd (hm (slF e x.c) (by simp [pgF])), own_rd (hm (slF e x.v) (by simp [pgF]))⟩
theorem TrN.take {T : TreeL} (h : TrN w T) (k : Nat) : TrN w ⟨r, T.A, c, T.l.take k⟩ := ⟨rd_takeN encPg_len h.1, fun x hx => h.2 x (List.mem_of_mem_take hx)⟩
theorem TrN.set1 {k : Nat} {X : PgL} {H : FE} (hk : k < L.length) (hX : PgN w L[k] → H.own w → PgN w X) (h : ∀ f ∈ (([⟨.slice A n c, e2, 3, m, (L.set k X).flatMap encPg⟩] ++ L.flatMap (pgF e)) ++ [H] : List FE), f.own w) : TrN w ⟨r, A, c, L.set k X⟩ := by
  have hN : ∀ x ∈ L, PgN w x := fun x hx => by
    have hm : ∀ y ∈ pgF e x, y.own w := fun y hy => h _ (List.mem_append_left _ (List.mem_append_right _ (List.mem_flatMap.2 ⟨x, hx, hy⟩)))
    exact ⟨own_rd (hm (slF e x.k) (by simp [pgF])), own_rd (hm (slF e x.c) (by simp [pgF])), own_rd (hm (slF e x.v) (by simp [pgF]))⟩
  refine ⟨own_rd (show (⟨.slice A n c, e2, 3, m, (L.set k X).flatMap encPg⟩ : FE).own w from h _ (by simp)), fun x hx => ?_⟩
  rcases List.mem_or_eq_of_mem_set hx with hx | rfl
  · exact hN x hx
  exact hX (hN _ (List.getElem_mem hk)) (h _ (by simp))
theorem sz_set {k : Nat} {X : PgL} {r' : Int} {A' : Option Addr} {c' : Nat} (h : SzT ⟨r, A, c, L⟩) (hX : X.k.l.length ≤ 1000 ∧ X.c.l.length ≤ 1000 ∧ X.v.l.length ≤ 1000) : SzT ⟨r', A', c', L.set k X⟩ := by
  refine ⟨by simpa using h.1, fun x hx => ?_⟩
  rcases List.mem_or_eq_of_mem_set hx with hx | rfl
  · exact h.2 x hx
  omega
theorem sz_take {k : Nat} {r' : Int} {A' : Option Addr} {c' : Nat} (h : SzT ⟨r, A, c, L⟩) : SzT ⟨r', A', c', L.take k⟩ := by
  refine ⟨Nat.le_trans (List.length_take_le' _ _) h.1, fun x hx => h.2 x (List.mem_of_mem_take hx)⟩
theorem sz_root {r' : Int} {A' : Option Addr} {c' : Nat} (h : SzT ⟨r, A, c, L⟩) : SzT ⟨r', A', c', L⟩ := ⟨h.1, h.2⟩
end
end Go.Px
end
section
namespace Go.Px
open Go.RowKit
def leavesI (T : TrT) : List Int := if validT T then leavesK T else []
def pairsI (T : TrT) : List PairT := pairsOn T (leavesI T)
theorem pairsI_yes {T : TrT} (h : validT T = true) : pairsI T = pairsK T := by unfold pairsI leavesI; rw [h]; rfl
theorem leavesI_yes {T : TrT} (h : validT T = true) : leavesI T = leavesK T := by unfold leavesI; rw [h]; rfl
end Go.Px
end
section
namespace Go.Px
open Go.RowKit
def ordK (T : TrT) : List Int := subT T 3 T.root
def renF (T : TrT) : TrT := ⟨0, (ordK T).map fun i => relP (plcI (ordK T)) (gP T i)⟩
section
variable {T U R : TrT} {m m' : Int → Nat} {f : Int → Int}
theorem sub_before : ∀ {d : Nat} {i lo hi : Int}, okM m R d i lo hi → ∀ {x y : Int}, x ∈ subT R d i → y ∈ (gP R x).kids → ∃ A B C, subT R d i = A ++ x :: (B ++ y :: C)
  | 0, _, _, _, h, _, _, _, _ => h.elim
  | d + 1, i, lo, hi, h, x, y, hx, hy => by
    obtain ⟨h1, h2, h4, h5, h6⟩ := h
    simp only [subT] at hx ⊢
    rcases h6 with ⟨_, b, _⟩ | ⟨a, b, c, e⟩
    · rw [b] at hx
      simp only [List.flatMap_nil, List.mem_singleton] at hx
      rw [hx, b] at hy; simp at hy
    have hin : ∀ z ∈ (gP R i).kids, ∃ lo' hi', okM m R d z lo' hi' := fun z hz => by
      obtain ⟨k, hk, rfl⟩ := List.getElem_of_mem hz
      have := e k hk
      rw [getD_in hk] at this
      exact ⟨_, _, this⟩
    rcases List.mem_cons.1 hx with rfl | hx
    · obtain ⟨_, _, hz⟩ := hin y hy
      obtain ⟨B, C, hs⟩ := List.append_of_mem (List.mem_flatMap.2 ⟨y, hy, okM_own hz⟩)
      exact ⟨[], B, C, by rw [hs]; rfl⟩
    obtain ⟨z, hz, hx⟩ := List.mem_flatMap.1 hx
    obtain ⟨_, _, hzo⟩ := hin z hz
    obtain ⟨A, B, C, hs⟩ := sub_before hzo hx hy
    obtain ⟨F1, F2, hf⟩ := List.append_of_mem hz
    exact ⟨i :: (F1.flatMap (subT R d) ++ A), B, C ++ F2.flatMap (subT R d), by rw [hf, List.flatMap_append, List.flatMap_cons, hs]; simp⟩
theorem idx_before {l A B C : List Int} {x y : Int} (hn : l.Nodup) (h : l = A ++ x :: (B ++ y :: C)) : plcI l x < plcI l y := by
  have hx : x ∈ l := by rw [h]; simp
  have hy : y ∈ l := by rw [h]; simp
  unfold plcI
  rw [if_pos hx, if_pos hy]
  rw [h] at hn
  obtain ⟨n1, n2, n3⟩ := List.nodup_append.1 hn
  have n4 := List.nodup_cons.1 n2
  have hxA : x ∉ A := fun hm => n3 x hm x (by simp) rfl
  have hyA : y ∉ A := fun hm => n3 y hm y (by simp) rfl
  have hxy : x ≠ y := fun e => n4.1 (by rw [e]; simp)
  rw [h, List.idxOf_append, if_neg hxA, List.idxOf_append, if_neg hyA, List.idxOf_cons_self, List.idxOf_cons, show (x == y) = false by simpa using hxy]
  simp only [cond_false]
  omega
theorem rel_text : ∀ {d : Nat} {i lo hi : Int}, okM m R d i lo hi → (∀ x ∈ subT R d i, gP U (f x) = relP f (gP R x)) → textT U d (f i) = textT R d i
  | 0, _, _, _, h, _ => h.elim
  | d + 1, i, lo, hi, h, hs => by
    obtain ⟨h1, h2, h4, h5, h6⟩ := h
    have g1 := hs i (by simp [subT])
    simp only [textT, g1]
    rcases h6 with ⟨_, b, _⟩ | ⟨a, b, c, e⟩
    · rw [if_pos (by simp [relP, b]), if_pos b]; rfl
    have hne : (gP R i).kids ≠ [] := fun e9 => by rw [e9] at c; simp at c
    rw [if_neg (by simpa [relP] using hne), if_neg hne]
    congr 2
    have hall : ∀ x ∈ (gP R i).kids, textT U d (f x) = textT R d x := fun x hx => by
      obtain ⟨k, hk, rfl⟩ := List.getElem_of_mem hx
      have he := e k hk
      rw [getD_in hk] at he
      exact rel_text he fun z hz => hs z (by simp only [subT]; exact List.mem_cons_of_mem _ (List.mem_flatMap.2 ⟨_, List.getElem_mem hk, hz⟩))
    simp only [relP]
    have gen : ∀ (l : List Int) (k : Nat), (∀ x ∈ l, textT U d (f x) = textT R d x) → kidsX (textT U d) (gP R i).keys k (l.map f) = kidsX (textT R d) (gP R i).keys k l := by
      intro l
      induction l with
      | nil => intro _ _; rfl
      | cons x l ih => intro k hl; simp only [List.map_cons, kidsX]; rw [hl x (by simp), ih _ fun y hy => hl y (List.mem_cons_of_mem _ hy)]
    exact gen _ _ hall
theorem pairsOn_cons {x : Int} {l : List Int} : pairsOn T (x :: l) = prsP (gP T x) ++ pairsOn T l := by simp [pairsOn]
theorem rel_pairs {l : List Int} (hs : ∀ x ∈ l, gP U (f x) = relP f (gP R x)) : pairsOn U ((l.map f).filter (isLf U)) = pairsOn R (l.filter (isLf R)) := by
  induction l with
  | nil => rfl
  | cons x l ih =>
    have g1 := hs x (by simp)
    have hl : isLf U (f x) = isLf R x := by unfold isLf; rw [g1]; simp [relP]
    have ih' := ih fun y hy => hs y (List.mem_cons_of_mem _ hy)
    simp only [List.map_cons, List.filter_cons, hl]
    split
    · rw [pairsOn_cons, pairsOn_cons, ih', g1]; rfl
    exact ih'
theorem ord_yes (hv : validT T = true) : ordK T = subT T (heightT T) T.root ∧ (ordK T).Nodup ∧ (ordK T).length = T.pages.length ∧ (∀ x ∈ ordK T, inT T x = true ∧ ∀ y ∈ (gP T x).kids, y ∈ ordK T) ∧ T.root ∈ ordK T := by
  obtain ⟨h1, h2, h3, h4⟩ := valid_ok hv
  have he : ordK T = subT T (heightT T) T.root := sub_eq (ok_wk h2 (Nat.le_refl _)) h1
  have hM := okB_M h2
  rw [he]
  exact ⟨rfl, h3, h4, fun x hx => ⟨sub_in h2 x hx, fun y hy => sub_kid hM hx hy⟩, okM_own hM⟩
theorem plc_ord {l : List Int} (hn : l.Nodup) {k : Nat} (hk : k < l.length) : plcI l l[k] = (k : Int) :=
  plcI_at hk rfl fun x hx e => by
    obtain ⟨j, hj, rfl⟩ := List.mem_take_iff_getElem.1 hx
    exact (List.pairwise_iff_getElem.1 hn) j k (by omega) hk (by omega) e
theorem ren_gP (hv : validT T = true) {x : Int} (hx : x ∈ ordK T) : inT (renF T) (plcI (ordK T) x) = true ∧ gP (renF T) (plcI (ordK T) x) = relP (plcI (ordK T)) (gP T x) := by
  obtain ⟨_, hn, _, _⟩ := ord_yes hv
  obtain ⟨k, hk, rfl⟩ := List.getElem_of_mem hx
  rw [plc_ord hn hk]
  refine ⟨inT_iff.2 (by simp only [renF, List.length_map]; omega), ?_⟩
  unfold gP
  rw [List.getD_eq_getElem?_getD, Int.toNat_natCast, List.getElem?_eq_getElem (by simpa [renF] using hk)]
  simp [renF, gP]
theorem ren_ok (hv : validT T = true) : okM (mT 0) (renF T) (heightT T) 0 0 100 ∧ subT (renF T) (heightT T) 0 = (List.range T.pages.length).map (fun k : Nat => (k : Int)) ∧ plcI (ordK T) T.root = 0 := by
  obtain ⟨h1, h2, h3, h4⟩ := valid_ok hv
  obtain ⟨he, hn, hl, hi, hr⟩ := ord_yes hv
  have hM := okB_M h2
  have hp0 : plcI (ordK T) T.root = 0 := by
    obtain ⟨e, hE⟩ := okM_pos hM
    have h0 : 0 < (ordK T).length := by rw [he, hE]; simp [subT]
    have hf : (ordK T)[0] = T.root := by simp only [he, hE, subT, List.getElem_cons_zero]
    have := plc_ord hn h0
    rw [hf] at this; exact this
  obtain ⟨w1, w2⟩ := okM_rel (f := plcI (ordK T)) (U := renF T) (m' := mT 0) hM (fun x hx => by
    rw [← he] at hx
    obtain ⟨a, b⟩ := ren_gP hv hx
    refine ⟨a, b, ?_⟩
    rw [he] at hx
    have := (okM_m hM x hx).2
    unfold mT at this ⊢
    split
    · omega
    rename_i h9
    rwa [if_neg (fun e => h9 (by rw [e]; exact hp0))] at this)
  rw [hp0] at w1 w2
  refine ⟨w1, ?_, hp0⟩
  rw [w2, ← he, ← hl]
  apply List.ext_getElem
  · simp
  intro k a b
  simp only [List.length_map] at a
  simp only [List.getElem_map, List.getElem_range]
  exact plc_ord hn a
theorem ren_valid (hv : validT T = true) : validT (renF T) = true ∧ heightT (renF T) = heightT T := by
  obtain ⟨h1, h2, h3, h4⟩ := valid_ok hv
  obtain ⟨w1, w2, w3⟩ := ren_ok hv
  obtain ⟨he, hn, hl, hi, hr⟩ := ord_yes hv
  have hnd : (subT (renF T) (heightT T) 0).Nodup := by
    rw [w2]; exact List.Pairwise.map _ (fun a b (h : a ≠ b) (e : (a : Int) = (b : Int)) => h (by omega)) List.nodup_range
  have hlen : (renF T).pages.length = T.pages.length := by simp [renF, hl]
  have hrt : gP (renF T) 0 = relP (plcI (ordK T)) (gP T T.root) := by have := (ren_gP hv hr).2; rwa [w3] at this
  have hB : okB (renF T) (heightT T) 0 0 100 = true := by
    refine okM_B (T := renF T) w1 hnd (.inl rfl) fun _ hk => ?_
    rw [hrt] at hk ⊢
    have hf := (okB_iff.1 (show okB T (heightT T - 1 + 1) T.root 0 100 = true by rw [show heightT T - 1 + 1 = heightT T by have := height_1 (T := T); omega]; exact h2)).2.1
    exact (fr_in hf (fun e => hk (by simp [relP, e]))).1
  have hv2 : validT (renF T) = true := valid_iff.2 ⟨by rw [hlen]; exact valid_len hv, heightT T, ⟨height_1, h1⟩, hB, hnd, by rw [show (renF T).root = 0 from rfl, w2, hlen]; simp⟩
  refine ⟨hv2, ?_⟩
  obtain ⟨n, hh⟩ : ∃ n, heightT T = n + 1 := ⟨heightT T - 1, by have := height_1 (T := T); omega⟩
  rw [hh] at hB
  have := hgt_ok hB (f := 3) (by omega)
  unfold heightT at hh ⊢
  rw [show (renF T).root = 0 from rfl, this]; omega
theorem ren_text (hv : validT T = true) : frX (renF T) = frX T := by
  obtain ⟨h1, h2, h3, h4⟩ := valid_ok hv
  obtain ⟨w1, w2, w3⟩ := ren_ok hv
  obtain ⟨he, hn, hl, hi, hr⟩ := ord_yes hv
  obtain ⟨v1, v2⟩ := ren_valid hv
  rw [frX_yes hv, frX_yes v1, v2]
  have := rel_text (f := plcI (ordK T)) (U := renF T) (okB_M h2) (fun x hx => (ren_gP hv (by rw [he]; exact hx)).2)
  rw [w3] at this
  exact this
theorem ren_pairs (hv : validT T = true) : pairsI (renF T) = pairsI T := by
  obtain ⟨h1, h2, h3, h4⟩ := valid_ok hv
  obtain ⟨w1, w2, w3⟩ := ren_ok hv
  obtain ⟨he, hn, hl, hi, hr⟩ := ord_yes hv
  obtain ⟨v1, v2⟩ := ren_valid hv
  rw [pairsI_yes hv, pairsI_yes v1]
  unfold pairsK
  rw [← leaves_valid hv, ← leaves_valid v1, v2]
  unfold leavesB
  have hsub : subT (renF T) (heightT T) (renF T).root = (ordK T).map (plcI (ordK T)) := by
    rw [show (renF T).root = 0 from rfl, w2, ← hl]
    apply List.ext_getElem
    · simp
    intro k a b
    simp only [List.length_map] at b
    simp only [List.getElem_map, List.getElem_range]
    exact (plc_ord hn b).symm
  rw [hsub, ← he]
  exact rel_pairs fun x hx => (ren_gP hv hx).2
theorem ren_kid (hv : validT T = true) {k : Nat} (hk : k < (renF T).pages.length) : ∀ y ∈ ((renF T).pages[k]).kids, (k : Int) < y := by
  obtain ⟨h1, h2, h3, h4⟩ := valid_ok hv
  obtain ⟨he, hn, hl, hi, hr⟩ := ord_yes hv
  have hko : k < (ordK T).length := by simpa [renF] using hk
  intro y hy
  have hp : (renF T).pages[k] = relP (plcI (ordK T)) (gP T (ordK T)[k]) := by simp [renF]
  rw [hp] at hy
  obtain ⟨z, hz, rfl⟩ := List.mem_map.1 hy
  obtain ⟨A, B, C, hs⟩ := sub_before (okB_M h2) (x := (ordK T)[k]) (by rw [← he]; exact List.getElem_mem hko) hz
  rw [← he] at hs
  have := idx_before hn hs
  rwa [plc_ord hn hko] at this
end
end Go.Px
end
