/- Own layer, part 4: plain theorems on the walk of this program's functions and on what they compute; no conditions. -/
import Derived.Test.YtemejgglbhjodaaGreatDoorP2
import Derived.Lib.Split
import Derived.Lib.Atoi
import Derived.Test.YtemejgglbhjodaaGreatDoorProg
set_option linter.unusedVariables false
set_option linter.unusedSimpArgs false
section
namespace Go.Px
open Go.RowKit
structure SlW where
 Aw : Option Addr
 cw : Nat
 lw : List PairT
def slV (x : SlL) : Value := .slice x.A x.l.length x.cp
def slW (x : SlW) : Value := .slice x.Aw x.lw.length x.cw
def SlN (w : World) (L : List SlL) : Prop := ∀ x ∈ L, Rd w x.A (x.l.map I)
def SwN (w : World) (L : List SlW) : Prop := ∀ x ∈ L, Rd w x.Aw (x.lw.flatMap cY)
section
variable {w0 w : World} {F : List FE} {L : List SlL} {K : List SlW} {A : Option Addr} {c k : Nat}
theorem SlN.nil : SlN w [] := by intro x hx; simp at hx
theorem SlN.cons {l : List Int} (h : Rd w A (l.map I)) (h2 : SlN w L) : SlN w ((⟨A, c, l⟩ : SlL) :: L) := λ x hx => by
 rcases bV.1 hx with rfl | hx
 ·exact h
 exact h2 x hx
theorem SlN.at (h : SlN w0 L) (hM : iS w0 w [] F) : SlN w L := λ x hx => (h x hx).at hM
theorem SlN.get (h : SlN w L) (hk : k < L.length) : Rd w (L[k]).A ((L[k]).l.map I) := h _ (aC hk)
theorem SwN.nil : SwN w [] := by intro x hx; simp at hx
theorem SwN.cons {l : List PairT} (h : Rd w A (l.flatMap cY)) (h2 : SwN w K) : SwN w ((⟨A, c, l⟩ : SlW) :: K) := λ x hx => by
 rcases bV.1 hx with rfl | hx
 ·exact h
 exact h2 x hx
theorem SwN.at (h : SwN w0 K) (hM : iS w0 w [] F) : SwN w K := λ x hx => (h x hx).at hM
theorem SwN.get (h : SwN w K) (hk : k < K.length) : Rd w (K[k]).Aw ((K[k]).lw.flatMap cY) := h _ (aC hk)
theorem aGh (hk : k < L.length) : (L.take k).flatMap SlL.l ++ (L[k]).l = (L.take (k + 1)).flatMap SlL.l := by
 rw [dO hk, bD]; simp
theorem aKa (hk : k < L.length) : ((L.take (k + 1)).flatMap SlL.l).length = ((L.take k).flatMap SlL.l).length + (L[k]).l.length := by
 rw [<- aGh hk, aA]
theorem aIf : ((L.take k).flatMap SlL.l).length <= (L.flatMap SlL.l).length := by
 conv => rhs; rw [<- bT k L, bD, aA]
 omega
theorem aGo (hk : k < K.length) : (K.take k).flatMap SlW.lw ++ (K[k]).lw = (K.take (k + 1)).flatMap SlW.lw := by
 rw [dO hk, bD]; simp
theorem aKf (hk : k < K.length) : ((K.take (k + 1)).flatMap SlW.lw).length = ((K.take k).flatMap SlW.lw).length + (K[k]).lw.length := by
 rw [<- aGo hk, aA]
theorem aIm : ((K.take k).flatMap SlW.lw).length <= (K.flatMap SlW.lw).length := by
 conv => rhs; rw [<- bT k K, bD, aA]
 omega
end
end Go.Px
end
section
namespace Go.Px
open Go.Lib
def cQ (c : UInt8) : Str -> List Str
 | [] => [[]]
 | b :: s => if b = c then [] :: cQ c s else match cQ c s with
  | [] => [[b]]
  | p :: ps => (b :: p) :: ps
theorem vP {c : UInt8} : ∀ {s : Str}, c ∉ s -> cQ c s = [s]
 | [], _ => rfl
 | b :: s, h => by
  simp only [bV, not_or] at h
  simp only [cQ]
  rw [if_neg (λ e => h.1 e.symm), vP h.2]
theorem zD {c : UInt8} {r : Str} : ∀ {a : Str}, c ∉ a -> cQ c (a ++ c :: r) = a :: cQ c r
 | [], _ => by simp [cQ]
 | b :: a, h => by
  simp only [bV, not_or] at h
  simp only [List.cons_append, cQ]
  rw [if_neg (λ e => h.1 e.symm), zD h.2]
theorem aIh {c : UInt8} {s : Str} {i : Nat} (h : indexByte s c = i) : ∃ a r, s = a ++ c :: r /\ a = s.take i /\ r = s.drop (i + 1) /\ c ∉ a := by
 obtain ⟨h1, h2⟩ := indexByte_some h
 obtain ⟨hi, hc⟩ := cC.1 h1
 refine ⟨s.take i, s.drop (i + 1), ?_, rfl, rfl, λ hm => ?_⟩
 ·rw [<- hc, <- cB hi, bT]
 obtain ⟨k, hk, e⟩ := aJ hm
 simp only [aB] at hk
 rw [iJ] at e
 exact h2 k t1 (by rw [aL t1, e])
theorem no_byte {c : UInt8} {s : Str} (h : indexByte s c = -1) : c ∉ s := by
 intro hm
 obtain ⟨k, hk, e⟩ := aJ hm
 exact indexByte_none h k (by rw [aL hk, e])
theorem aLj {c : UInt8} {s : Str} : indexByte s c = -1 \/ ∃ i : Nat, indexByte s c = i := by
 have := indexByte_ge s c
 rcases Int.lt_or_le (indexByte s c) 0 with h | h
 ·left; omega
 right; exact ⟨(indexByte s c).toNat, t1⟩
theorem splK_eq {c : UInt8} : ∀ (n : Nat) (s : Str), s.length <= n -> splitK [c] 0 (count s [c]) s = cQ c s := by
 intro n
 induction n with
 | zero =>
  intro s hs
  have : s = [] := aP t1
  subst this
  have : indexByte [] c = -1 := rfl
  rw [count_miss (by rw [index_one]; exact this)]; rfl
 | succ n ih =>
  intro s hs
  rcases aLj (c := c) (s := s) with h | ⟨i, h⟩
  ·rw [count_miss (by rw [index_one]; exact h), vP (no_byte h)]; rfl
  obtain ⟨a, r, e, ha, hr, hn⟩ := aIh h
  have h' : index s [c] = i := by rw [index_one]; exact h
  have hlt := indexByte_some h
  have hi : i < s.length := (cC.1 hlt.1).1
  rw [count_hit (s := s) (sub := [c]) (i := i) t11 h', Nat.add_comm 1, splitK, if_neg (by rw [h']; simp), h']
  simp only [eS, Nat.add_zero, List.length_singleton]
  rw [ih (s.drop (i + 1)) t13, <- hr, <- ha]
  rw [e, zD hn]
def dig (n : Nat) (b : UInt8) : Nat := if 48 <= b.toNat /\ b.toNat <= 57 then 10 * n + (b.toNat - 48) else n
def mW (s : Str) : Nat := s.foldl dig 0
theorem vA {s : Str} {b : UInt8} : mW (s ++ [b]) = dig (mW s) b := by simp [mW]
theorem tI : ∀ (u : Nat), mW (decDigits u) = u
 | u => by
  have hd : ∀ v n : Nat, v < 10 -> dig n (UInt8.ofNat (48 + v)) = 10 * n + v := λ v n hv => by
   have e : (UInt8.ofNat (48 + v)).toNat = 48 + v := by rw [UInt8.toNat_ofNat']; omega
   unfold dig; rw [e, if_pos t1]; omega
  by_cases hu : u < 10
  ·rw [qU hu]
   show dig 0 _ = u
   rw [hd u 0 hu]; omega
  rw [wO hu, vA, tI (u / 10), hd _ _ t1]; omega
 termination_by u => u
 decreasing_by omega
def pv (s : Str) : Int := if s.head? = some 45 then -(mW s : Int) else mW s
theorem aHg {s : Str} : mW (45 :: s) = mW s := by
 show List.foldl dig (dig 0 45) s = _
 have : dig 0 45 = 0 := by decide
 rw [this]; rfl
theorem aBy (u : Nat) : decDigits u ≠ [] := by
 by_cases hu : u < 10
 ·rw [qU hu]; simp
 rw [wO hu]; simp
theorem aEd (u : Nat) : (decDigits u).head? ≠ some 45 := by
 intro h
 have := oO (List.mem_of_mem_head? h)
 revert this; decide
theorem pv_itoa (n : Int) : pv (bS n) = n := by
 unfold bS itoa
 split
 ·unfold pv
  rw [if_pos (by rfl), aHg, tI]; omega
 unfold pv
 rw [if_neg (aEd _), tI]; omega
def eJ (s : Str) : Option Int := if s.length <= 5 /\ bS (pv s) = s then some (pv s) else none
theorem aFi {s : Str} {n : Int} (hl : s.length <= 5) (h : bS n = s) : eJ s = some n := by
 have e : pv s = n := by rw [<- h, pv_itoa]
 unfold eJ; rw [e, if_pos ⟨hl, h⟩]
theorem tY {s : Str} (h : ∀ n, bS n ≠ s) : eJ s = none := by
 unfold eJ; rw [if_neg λ hc => h _ hc.2]
theorem aAu {s : Str} (h : ¬ s.length <= 5) : eJ s = none := by unfold eJ; rw [if_neg λ hc => h hc.1]
theorem itoa_ne (n : Int) : bS n ≠ [] := by
 unfold bS itoa; split
 ·simp
 exact aBy _
theorem aLl (n : Int) : bS n ≠ [45] := by
 unfold bS itoa; split
 ·simpa using aBy _
 intro h; exact aEd _ (by rw [h]; rfl)
theorem aLm {n : Int} {i : Nat} (h : i < (bS n).length) (h0 : i ≠ 0 \/ (bS n)[i] ≠ 45) : 48 <= ((bS n)[i]).toNat /\ ((bS n)[i]).toNat <= 57 := by
 have key : bS n = 45 :: decDigits n.natAbs \/ bS n = decDigits n.toNat := by
  unfold bS itoa; split <;> simp
 rcases key with e | e
 ·cases i with
  | zero => rcases h0 with h0 | h0; exact absurd rfl h0; exact absurd (by simp [e]) h0
  | succ i =>
   have hi : i < (decDigits n.natAbs).length := by rw [e] at h; simpa using h
   have : (bS n)[i + 1] = (decDigits n.natAbs)[i] := by simp [e]
   rw [this]; exact oO (aC hi)
 have hi : i < (decDigits n.toNat).length := by rw [e] at h; exact h
 have : (bS n)[i] = (decDigits n.toNat)[i] := by simp [e]
 rw [this]; exact oO (aC hi)
theorem vV : ∀ {s : Str} {acc : Nat}, (∀ b ∈ s, 48 <= b.toNat /\ b.toNat <= 57) -> decFrom acc s = some (s.foldl dig acc)
 | [], _, _ => rfl
 | b :: s, acc, h => by
  have hb := h b t11
  simp only [decFrom, digitVal, if_pos hb, List.foldl_cons]
  rw [vV λ x hx => h x (by simp [hx])]
  congr 2
  unfold dig; rw [if_pos hb]; omega
theorem xS (u : Nat) : decNat (decDigits u) = some u := by
 unfold decNat
 rw [if_neg (by simpa using aBy u), vV λ b hb => oO hb]
 exact congrArg some (tI u)
theorem aAd (n : Int) : atoi (bS n) = some n := by
 unfold bS itoa
 split
 ·simp only [atoi, beq_self_eq_true, if_true, xS, lC]
  congr 1; omega
 cases hd : decDigits n.toNat with
 | nil => exact absurd hd (aBy _)
 | cons b r =>
  have hb := oO (b := b) (u := n.toNat) (by rw [hd]; simp)
  have h1 : (b == 45) = false := by rw [beq_eq_false_iff_ne]; rintro rfl; revert hb; decide
  have h2 : (b == 43) = false := by rw [beq_eq_false_iff_ne]; rintro rfl; revert hb; decide
  simp only [atoi, h1, h2, Bool.false_eq_true, if_false]
  rw [<- hd, xS, lC]
  congr 1; omega
theorem qL {s : Str} (h : atoi s = none) : eJ s = none := tY λ n e => by rw [<- e, aAd] at h; cases h
theorem aCn {s : Str} {n : Int} (h : atoi s = some n) (hn : bS n ≠ s) : eJ s = none := tY λ m e => by
 rw [<- e, aAd] at h; cases h; exact hn e
end Go.Px
end
section
namespace Go.Px
open Go.RowKit
def lT (l : List Int) : List Bool := (List.range 16).map λ (i : Nat) => decide ((i : Int) ∈ l)
theorem aFz (l : List Int) : (lT l).length = 16 := by simp [lT]
theorem aPa : List.replicate 16 false = lT [] := by decide
theorem uH {l : List Int} {x : Int} (h : 0 <= x /\ x < 16) (h2 : x.toNat < (lT l).length) : (lT l)[x.toNat] = decide (x ∈ l) := by
 simp only [lT, cI, gX]
 rw [show ((x.toNat : Nat) : Int) = x by omega]
theorem aPb {l : List Int} {x : Int} (h : 0 <= x /\ x < 16) : (lT l).set x.toNat true = lT (l ++ [x]) := by
 apply iU
 ·simp [lT]
 intro k h1 h2
 have hk : k < 16 := by simpa [lT] using h2
 rw [List.getElem_set]
 simp only [lT, cI, gX, bE, aU]
 split
 ·rename_i e; symm; simp; right; omega
 rename_i e
 have : ¬ (k : Int) = x := by omega
 simp [this]
def qG (l : List Int) : Bool := decide ((∀ x ∈ l, 0 <= x /\ x < 16) /\ l.Nodup)
theorem oX {l : List Int} : qG l = true ↔ (∀ x ∈ l, 0 <= x /\ x < 16) /\ l.Nodup := by simp [qG]
theorem aCg {l : List Int} {k : Nat} (hk : k < l.length) (hb : l[k] < 0 \/ 16 <= l[k] \/ l[k] ∈ l.take k) : qG l = false := by
 cases h : qG l with
 | false => rfl
 | true =>
  obtain ⟨h1, h2⟩ := oX.1 h
  have h3 := h1 _ (aC hk)
  rcases hb with hb | hb | hb
  ·omega
  ·omega
  obtain ⟨j, hj, e⟩ := aJ hb
  simp only [aB] at hj
  rw [iJ] at e
  exact absurd e ((dT.1 h2) j k t1 hk t1)
theorem aLo {l : List Int} {k : Nat} (hk : k < l.length) (h : qG (l.take k) = true) (h0 : ¬ l[k] < 0) (h1 : ¬ 16 <= l[k]) (h2 : l[k] ∉ l.take k) : qG (l.take (k + 1)) = true := by
 obtain ⟨a, b⟩ := oX.1 h
 rw [dO hk]
 refine oX.2 ⟨λ x hx => ?_, bP.2 ⟨b, t11, λ x hx y hy e => ?_⟩⟩
 ·rcases bE.1 hx with hx | hx
  ·exact a x hx
  rw [aU] at hx; omega
 rw [aU] at hy; subst hy e; exact h2 hx
def inB (K C : List Int) : Bool := decide (1 <= K.length) && decide (K.length <= 5) && bR K && decide (C.length = K.length + 1) && qG C
theorem qX {K C : List Int} : inB K C = true ↔ 1 <= K.length /\ K.length <= 5 /\ bR K = true /\ C.length = K.length + 1 /\ qG C = true := by simp [inB, and_assoc]
theorem sH {K C : List Int} (h : ¬ 1 <= K.length \/ ¬ K.length <= 5 \/ bR K = false \/ ¬ C.length = K.length + 1 \/ qG C = false) : inB K C = false := by
 cases hb : inB K C with
 | false => rfl
 | true =>
  obtain ⟨h1, h2, h3, h4, h5⟩ := qX.1 hb
  rcases h with h | h | h | h | h
  ·exact absurd h1 h
  ·exact absurd h2 h
  ·rw [h3] at h; cases h
  ·exact absurd h4 h
  rw [h5] at h; cases h
theorem aEt {T : TrT} (h : aN T = true) {i : Int} (hi : inT T i = true) (hk : (gP T i).kids ≠ []) : inB (gP T i).keys (gP T i).kids = true := by
 obtain ⟨e, lo, hh, _, hok⟩ := sQ h hi
 have hfr := (dL.1 hok).2.1
 have h4 := iA hfr
 have h5 := lQ hfr hk
 obtain ⟨g1, g2, g3, g4⟩ := eF h
 have hc := (aEa g3 (λ x hx => aX.1 (vR g2 x hx))).2 g4
 have hi2 := aX.1 hi
 have hm := hc i.toNat t1
 rw [show ((i.toNat : Nat) : Int) = i by omega] at hm
 refine qX.2 ⟨h5.1, t1, kI hfr, h5.2, oX.2 ⟨λ x hx => ?_, qN g2 g3 i hm⟩⟩
 have h9 := yQ hok x hx
 have := (fN h).2
 omega
end Go.Px
end
section
namespace Go.Px
open Go.RowKit
theorem sK (x : PairT) : bW [x] = (nD x.key && fA x.val) := by
 simp [bW, bG, bR, asc]
 exact Bool.and_comm _ _
theorem pg_mk {p : PgT} {a b : List Int} (h1 : p.keys = a) (h2 : p.kids = b) (h3 : p.vals = []) : (⟨a, b, []⟩ : PgT) = p := by
 cases p; simp_all
theorem aFm {x : PairT} (h : bW [x] = true) : 0 <= x.key /\ x.key < 100 := by
 rw [sK] at h
 simp [nD] at h
 omega
section
variable {T R : TrT} {P : List Int} {key : Int}
theorem add_inB {lo hi : Nat -> Int} {a : Nat} {q : PgT} (h2 : 2 <= a) (ha : a <= P.length) (hv : aN T = true) (hP : iQ T P) (hr : Rg T key P lo hi) (hc : aEb (gP R (P.getD (a - 1) 0))) (hO : OI P lo hi a R) (h5 : ¬ (gP R (P.getD (a - 1) 0)).keys.length <= 4) (n : Int)
  (hq : q = kN (gP T (P.getD (a - 2) 0)) (dE (gP T (P.getD (a - 2) 0)).kids (P.getD (a - 1) 0)) (dY (gP R (P.getD (a - 1) 0))).2.1 n) (hn : (T.pages.length : Int) <= n) (h16 : n < 16) : inB q.keys q.kids = true := by
 obtain ⟨o1, o2, o3, o4⟩ := aAb h2 ha hP hr hc hO h5 n hq
 obtain ⟨e, hok⟩ := hr.ok (a - 2) t1
 have hfr := (dL.1 hok).2.1
 have h4 := iA hfr
 have hin := yQ hok
 obtain ⟨i, hi1, hi2, _⟩ := hr.nx (a - 2) t1
 have hk : (gP T (P.getD (a - 2) 0)).kids ≠ [] := λ e9 => by rw [e9] at hi1; simp at hi1
 have h6 := lQ hfr hk
 have hnn : n ∉ (gP T (P.getD (a - 2) 0)).kids := λ hm => by have := hin n hm; omega
 have h16p := fN hv
 have hpk := uD (l := (gP T (P.getD (a - 2) 0)).kids) (n := P.getD (a - 1) 0) (m := (gP T (P.getD (a - 2) 0)).keys.length) (by rw [<- show a - 2 + 1 = a - 1 by omega, <- hi2]; exact aC hi1) t1
 refine qX.2 ⟨?_, ?_, o1, ?_, oX.2 ⟨λ x hx => ?_, o3 hnn⟩⟩
 ·rw [hq]; simp only [kN, dP, aA, aB, aI, aG, bA]; omega
 ·rw [hq]; simp only [kN, dP, aA, aB, aI, aG, bA]; omega
 ·rw [hq]; simp only [kN, dP, aA, aB, aI, aG, bA]; omega
 rcases o4 x hx with rfl | h
 ·omega
 have := hin x h; omega
theorem OI.next {lo hi : Nat -> Int} {a : Nat} {R' : TrT} {q : PgT} (h1 : bR q.keys = true) (h2 : ∀ k ∈ q.keys, lo (a - 2) <= k /\ k < hi (a - 2)) (he : gP R' (P.getD (a - 2) 0) = q) : OI P lo hi (a - 1) R' :=
 ⟨by rw [show a - 1 - 1 = a - 2 by omega, he]; exact h1, by rw [show a - 1 - 1 = a - 2 by omega, he]; exact h2⟩
end
end Go.Px
end
section
namespace Go.Px
open Go.RowKit
def putB (T : TrT) (x : PairT) : Bool := aN T && bW [x] && aN (iO T x)
end Go.Px
end
section
namespace Go.Px
open Go.RowKit
section
variable {T : TrT} {d : Nat} {i lo hi a b k : Int} {l : List PairT}
theorem aFo : ∀ {d : Nat} {i lo hi : Int}, okB T d i lo hi = true -> lo <= hi -> (bG (cU T (dA T d i))).Pairwise (· < ·) /\ ∀ p ∈ cU T (dA T d i), (lo <= p.key /\ p.key < hi) /\ fA p.val = true
 | 0, _, _, _, h, _ => by simp [okB] at h
 | d + 1, i, lo, hi, h, hlh => by
  obtain ⟨h1, h2, h3, h4⟩ := dL.1 h
  have h5 := lF.1 h3
  have hasc := (bQ.1 (kI h2)).2
  by_cases hk : (gP T i).kids = []
  ·rw [pr_leaf hk, iZ]
   refine ⟨fD.1 hasc, λ p hp => ⟨h5 _ (by rw [<- iZ]; exact bU.2 ⟨p, hp, rfl⟩), ?_⟩⟩
   exact oV.2 ((eM.1 (gI h2 hk)).2.1 p hp)
  have hkl := (lQ h2 hk).2
  have hr : ∀ j, j < (gP T i).kids.length -> dQ (gP T i) lo j <= cH (gP T i) hi j := λ j hj => by
   by_cases h9 : j = 0 <;> by_cases h8 : j < (gP T i).keys.length
   ·rw [gH h9, fU h8]; exact (h5 _ (aC h8)).1
   ·rw [gH h9, gZ h8]; exact hlh
   ·rw [gB h9 t1, fU h8]; have := iG hasc (j - 1) j t1 h8; omega
   rw [gB h9 t1, gZ h8]; have := h5 _ (aC (show j - 1 < (gP T i).keys.length by omega)); omega
  have hb : ∀ j, j < (gP T i).kids.length -> lo <= dQ (gP T i) lo j /\ cH (gP T i) hi j <= hi := λ j hj => by
   constructor
   ·by_cases h9 : j = 0
    ·rw [gH h9]; exact Int.le_refl _
    rw [gB h9 t1]; exact (h5 _ (aC _)).1
   by_cases h8 : j < (gP T i).keys.length
   ·rw [fU h8]; have := h5 _ (aC h8); omega
   rw [gZ h8]; exact Int.le_refl _
  have hgo : ∀ j1 j2, j1 < j2 -> j2 < (gP T i).kids.length -> cH (gP T i) hi j1 <= dQ (gP T i) lo j2 := λ j1 j2 h6 h7 => by
   rw [fU (show j1 < (gP T i).keys.length by omega), gB (show j2 ≠ 0 by omega) t1]
   by_cases h8 : j1 = j2 - 1
   ·subst h8; exact Int.le_refl _
   have := iG hasc j1 (j2 - 1) t1 t1; omega
  have ih : ∀ j, (hj : j < (gP T i).kids.length) -> _ := λ j hj => aFo (iC h hj) (hr j hj)
  rw [sI hk]
  have hfl : cU T ((gP T i).kids.flatMap (dA T d)) = (gP T i).kids.flatMap λ x => cU T (dA T d x) := by
   unfold cU; rw [List.flatMap_assoc]
  rw [hfl]
  refine ⟨?_, λ p hp => ?_⟩
  ·rw [show bG ((gP T i).kids.flatMap λ x => cU T (dA T d x)) = (gP T i).kids.flatMap λ x => bG (cU T (dA T d x)) by simp [bG, List.map_flatMap]]
   rw [List.pairwise_flatMap]
   refine ⟨λ x hx => ?_, dT.2 λ j1 j2 g1 g2 g3 x hx y hy => ?_⟩
   ·obtain ⟨j, hj, rfl⟩ := aJ hx
    exact (ih j hj).1
   obtain ⟨p, hp, rfl⟩ := bU.1 hx
   obtain ⟨q, hq, rfl⟩ := bU.1 hy
   have e1 := ((ih j1 g1).2 p hp).1
   have e2 := ((ih j2 g2).2 q hq).1
   have := hgo j1 j2 g3 g2
   omega
  obtain ⟨x, hx, hp⟩ := aZ.1 hp
  obtain ⟨j, hj, rfl⟩ := aJ hx
  have e1 := (ih j hj).2 p hp
  have := hb j hj
  exact ⟨t1, e1.2⟩
theorem aAv (hv : aN T = true) : asc (bG (bZ T)) = true /\ ∀ p ∈ bZ T, (0 <= p.key /\ p.key <= 99) /\ fA p.val = true := by
 obtain ⟨h1, h2, _, _⟩ := eF hv
 obtain ⟨a, b⟩ := aFo h2 t1
 rw [tU hv] at a b
 exact ⟨fD.2 a, λ p hp => ⟨by have := (b p hp).1; omega, (b p hp).2⟩⟩
def mO (T : TrT) (k : Int) : Option Int := lW (aV (gP T (gM (aY T k)))) k
def iE (a b : Int) (p : PairT) : Bool := decide (a <= p.key) && decide (p.key < b)
def kA (l : List PairT) (a b : Int) : List PairT := (l.filter (iE a b)).take 24
theorem aBd {k : Nat} (h : k < l.length) : (l.take (k + 1)).filter (iE a b) = (l.take k).filter (iE a b) ++ if iE a b l[k] then [l[k]] else [] := by
 rw [jO h, kR]; congr 1; simp only [List.filter_cons, List.filter_nil]
theorem lB {k : Nat} (h : k < l.length) (h1 : a <= (l[k]).key) (h2 : (l[k]).key < b) : (l.take k).filter (iE a b) ++ [l[k]] = (l.take (k + 1)).filter (iE a b) := by
 rw [aBd h, if_pos (by simp [iE, h1, h2])]
theorem mF {k : Nat} (h : k < l.length) (h1 : (l[k]).key < a \/ b <= (l[k]).key) : (l.take k).filter (iE a b) = (l.take (k + 1)).filter (iE a b) := by
 rw [aBd h, if_neg (by unfold iE; simp only [aW, decide_eq_true_eq]; omega), cS]
theorem lA {k : Nat} (h : l.length <= k) (h1 : ((l.take k).filter (iE a b)).length <= 24) : (l.take k).filter (iE a b) = kA l a b := by
 rw [aE h] at h1 ⊢
 unfold kA; rw [aE h1]
theorem jL {k : Nat} (h1 : ((l.take k).filter (iE a b)).length = 24) : (l.take k).filter (iE a b) = kA l a b := by
 unfold kA
 conv => rhs; rw [<- bT k l, kR, kQ t1, aE t1]
theorem oZ {k : Nat} (hs : asc (bG l) = true) (h : k < l.length) (h2 : b <= (l[k]).key) (h1 : ((l.take k).filter (iE a b)).length <= 24) : (l.take k).filter (iE a b) = kA l a b := by
 have h3 : (l.drop k).filter (iE a b) = [] := by
  rw [List.filter_eq_nil_iff]
  intro p hp
  obtain ⟨j, hj, rfl⟩ := dS.1 hp
  have h4 : b <= (l[k + j]).key := by
   by_cases h9 : j = 0
   ·subst h9; exact h2
   have h5 := iG hs k (k + j) t1 t23
   simp only [bG, cI] at h5
   omega
  unfold iE; simp only [aW, decide_eq_true_eq]; omega
 unfold kA
 conv => rhs; rw [<- bT k l, kR, h3, cS, aE h1]
theorem sN (hv : aN T = true) : bW (kA (bZ T) a b) = true := by
 obtain ⟨h1, h2⟩ := aAv hv
 have hs : (kA (bZ T) a b).Sublist (bZ T) := (List.take_sublist _ _).trans List.filter_sublist
 refine eM.2 ⟨by unfold kA; rw [aB]; omega, λ p hp => oV.1 (h2 p (hs.subset hp)).2, bQ.2 ⟨λ x hx => ?_, ?_⟩⟩
 ·obtain ⟨p, hp, rfl⟩ := bU.1 hx
  exact (h2 p (hs.subset hp)).1
 rw [fD] at h1 ⊢; exact h1.sublist (hs.map _)
end
def okS : Str := [111, 107]
def noS : Str := [110, 111]
def aBk : Str := [119, 104, 97, 116]
def jI : Str := [112, 117, 116]
def fT : Str := [100, 114, 111, 112]
def jX : Str := [103, 101, 116]
def fX : Str := [115, 99, 97, 110]
def gN : Str := [116, 114, 101, 101]
def fQ : Str := [112, 97, 103, 101, 115]
def fW (w : Str) : Int := if w = jI \/ w = fX then 2 else if w = fT \/ w = jX then 1 else if w = gN \/ w = fQ then 0 else -1
def iI : List Str -> Option (List Int)
 | [] => some []
 | w :: l => match eJ w, iI l with
  | some n, some m => some (n :: m)
  | _, _ => none
def aAi (T : TrT) (k : Int) : Bool := aN T && cT (bZ T) k
def lX (T : TrT) (w : Str) (a b : Int) : TrT × Str :=
 if w = jI then (if putB T ⟨a, b⟩ then (iO T ⟨a, b⟩, okS) else (T, noS))
 else if w = fT then (if aAi T a then (lH T a, okS) else (T, noS))
 else if w = jX then (T, match mO T a with | some v => bS v | none => noS)
 else if w = fX then (T, iH (kA (bZ T) a b))
 else if w = gN then (T, frX T)
 else (T, bS (T.pages.length : Int) ++ ([32] ++ bS ((bH T : Nat) : Int)))
def eZ (T : TrT) (s : Str) : TrT × Str := match cQ 32 s with
 | [] => (T, aBk)
 | w :: ws => if fW w ≠ (ws.length : Int) then (T, aBk) else match iI ws with
  | none => (T, noS)
  | some ns => lX T w (ns.getD 0 0) (ns.getD 1 0)
def ssT (T : TrT) : List Str -> TrT
 | [] => T
 | s :: l => ssT (eZ T s).1 l
def jQ (T : TrT) : List Str -> Str
 | [] => []
 | s :: l => (eZ T s).2 ++ 10 :: jQ (eZ T s).1 l
def mX : TrT := ⟨0, [⟨[], [], []⟩]⟩
def eR (l : List Str) : Str := jQ mX (l.take 20)
section
variable {T : TrT} {s : Str} {l l' : List Str}
theorem aFu : ∀ {l : List Str} {T : TrT}, ssT T (l ++ l') = ssT (ssT T l) l'
 | [], _ => rfl
 | _ :: l, _ => aFu (l := l)
theorem uF : ∀ {l : List Str} {T : TrT}, jQ T (l ++ l') = jQ T l ++ jQ (ssT T l) l'
 | [], _ => rfl
 | s :: l, T => by
  show (eZ T s).2 ++ 10 :: jQ (eZ T s).1 (l ++ l') = ((eZ T s).2 ++ 10 :: jQ (eZ T s).1 l) ++ jQ (ssT (eZ T s).1 l) l'
  rw [uF (l := l)]; simp
theorem aBc {k : Nat} (h : k < l.length) : ssT T (l.take (k + 1)) = (eZ (ssT T (l.take k)) l[k]).1 := by
 rw [jO h, aFu]; rfl
theorem aBb {k : Nat} (h : k < l.length) : jQ T (l.take k) ++ (eZ (ssT T (l.take k)) l[k]).2 ++ [10] = jQ T (l.take (k + 1)) := by
 rw [jO h, uF, bO]; rfl
theorem aKy (hv : aN T = true) (w : Str) (a b : Int) : aN (lX T w a b).1 = true := by
 unfold lX
 split
 ·split
  ·rename_i h; unfold putB at h; simp only [aW] at h; exact h.2
  exact hv
 split
 ·split
  ·rename_i h; unfold aAi at h; simp only [aW] at h; exact pF hv (by rw [<- qF hv]; exact h.2)
  exact hv
 split
 ·exact hv
 split
 ·exact hv
 split <;> exact hv
theorem zF (hv : aN T = true) (s : Str) : aN (eZ T s).1 = true := by
 unfold eZ
 split
 ·exact hv
 split
 ·exact hv
 split
 ·exact hv
 exact aKy hv _ _ _
theorem sL : ∀ {l : List Str} {T : TrT}, aN T = true -> aN (ssT T l) = true
 | [], _, h => h
 | s :: l, _, h => sL (l := l) (zF h s)
theorem yS : aN mX = true := by decide
end
end Go.Px
end
section
namespace Go.Px
open Go.RowKit
section
variable {T : TrT} {s : Str} {W ws : List Str} {w : Str} {ns : List Int}
theorem aDb (c : UInt8) : ∀ s : Str, cQ c s ≠ []
 | [] => by simp [cQ]
 | b :: s => by
  simp only [cQ]
  split
  ·simp
  split <;> simp
theorem aBf {c : UInt8} {x : Str} : ∀ {s : Str}, cQ c s = [x] -> s = x
 | [], h => by
  simp only [cQ, List.cons.injEq, and_true] at h; exact h
 | b :: s, h => by
  simp only [cQ] at h
  split at h
  ·simp only [List.cons.injEq] at h; exact absurd h.2 (aDb c s)
  split at h
  ·rename_i h9; exact absurd h9 (aDb c s)
  rename_i p ps h9
  simp only [List.cons.injEq] at h
  obtain ⟨h1, h2⟩ := h
  subst h2
  rw [<- h1, aBf h9]
theorem yP : ∀ {l : List Str} {ns : List Int}, iI l = some ns -> ns.length = l.length
 | [], _, h => by simp only [iI, Option.some.injEq] at h; subst h; rfl
 | w :: l, ns, h => by
  unfold iI at h
  split at h
  ·rename_i n m h1 h2
   simp only [Option.some.injEq] at h; subst h
   simp [yP h2]
  cases h
theorem yO : ∀ {l : List Str} {k : Nat} (h : k < l.length), eJ l[k] = none -> iI l = none
 | w :: l, 0, _, h => by
  simp only [dB] at h
  simp [iI, h]
 | w :: l, k + 1, hk, h => by
  simp only [iR] at h
  have := yO (l := l) (by simpa using hk) h
  simp [iI, this]
theorem vX : ∀ {l : List Str} {k : Nat} {n : Int} {ns : List Int} (h : k < l.length), iI (l.take k) = some ns -> eJ l[k] = some n -> iI (l.take (k + 1)) = some (ns ++ [n])
 | w :: l, 0, n, ns, _, h1, h => by
  simp only [dB] at h
  simp only [List.take_zero, iI, Option.some.injEq] at h1
  subst h1
  simp [iI, h]
 | w :: l, k + 1, n, ns, hk, h1, h => by
  simp only [iR] at h
  rw [List.take_succ_cons] at h1 ⊢
  unfold iI at h1 ⊢
  split at h1
  ·rename_i a m e1 e2
   simp only [Option.some.injEq] at h1; subst h1
   rw [e1, vX (l := l) (by simpa using hk) e2 h]; rfl
  cases h1
theorem aKc (h : 0 < (cQ 32 s).length) (hn : fW ((cQ 32 s)[0]) ≠ ((cQ 32 s).length : Int) - 1) : eZ T s = (T, aBk) := by
 unfold eZ
 split
 ·rfl
 rename_i w ws e
 simp only [e, dB, aG] at hn
 rw [if_pos t1]
theorem st_no (h : 0 < (cQ 32 s).length) (hn : fW ((cQ 32 s)[0]) = ((cQ 32 s).length : Int) - 1) (hb : iI ((cQ 32 s).drop 1) = none) : eZ T s = (T, noS) := by
 unfold eZ
 split
 ·rename_i e; rw [e] at h; simp at h
 rename_i w ws e
 simp only [e, dB, aG] at hn
 rw [e] at hb
 rw [if_neg t1, show iI ws = none from hb]
theorem st_cmd (h : 0 < (cQ 32 s).length) (hn : fW ((cQ 32 s)[0]) = ((cQ 32 s).length : Int) - 1) (hb : iI ((cQ 32 s).drop 1) = some ns) : eZ T s = lX T ((cQ 32 s)[0]) (ns.getD 0 0) (ns.getD 1 0) := by
 unfold eZ
 split
 ·rename_i e; rw [e] at h; simp at h
 rename_i w ws e
 simp only [e, dB, aG] at hn
 rw [e] at hb
 rw [if_neg t1, show iI ws = some ns from hb]
 simp only [e, dB]
def uL (T : TrT) (w a b : Str) : TrT × Str := match eJ a, eJ b with
 | some x, some y => lX T w x y
 | _, _ => (T, noS)
def tZ (T : TrT) (w a : Str) : TrT × Str := match eJ a with
 | some x => lX T w x 0
 | none => (T, noS)
def aKd (T : TrT) (W : List Str) : TrT × Str := match W with
 | [] => (T, aBk)
 | w :: ws => if fW w ≠ (ws.length : Int) then (T, aBk) else match iI ws with
  | none => (T, noS)
  | some ns => lX T w (ns.getD 0 0) (ns.getD 1 0)
theorem stW_two (h : W.length = 3) (hw : W[0] = w) (h2 : fW w = 2) : aKd T W = uL T w (W[1]) (W[2]) := by
 match W, h with
 | [a, b, c], _ =>
  simp only [dB] at hw
  subst hw
  simp only [aKd, dB, iR, aG, bA, h2]
  rw [if_neg t19]
  simp only [uL, iI]
  cases eJ b <;> cases eJ c <;> rfl
theorem stW_one (h : W.length = 2) (hw : W[0] = w) (h2 : fW w = 1) : aKd T W = tZ T w (W[1]) := by
 match W, h with
 | [a, b], _ =>
  simp only [dB] at hw
  subst hw
  simp only [aKd, dB, iR, aG, bA, h2]
  rw [if_neg t19]
  simp only [tZ, iI]
  cases eJ b <;> rfl
theorem aIk (h : (cQ 32 s).length = 3) (hw : (cQ 32 s)[0] = w) (h2 : fW w = 2) : eZ T s = uL T w ((cQ 32 s)[1]) ((cQ 32 s)[2]) := stW_two h hw h2
theorem aIj (h : (cQ 32 s).length = 2) (hw : (cQ 32 s)[0] = w) (h2 : fW w = 1) : eZ T s = tZ T w ((cQ 32 s)[1]) := stW_one h hw h2
theorem one_is {x : Str} (hl : W.length = 1) (hx : W[0] = x) : W = [x] := by
 match W, hl with
 | [a], _ => simp only [dB] at hx; rw [hx]
theorem st_tree : eZ T gN = (T, frX T) := rfl
theorem aPf : eZ T fQ = (T, bS (T.pages.length : Int) ++ ([32] ++ bS ((bH T : Nat) : Int))) := rfl
theorem st_else (h : 0 < (cQ 32 s).length) (h1 : ¬ ((cQ 32 s)[0] = jI /\ (cQ 32 s).length = 3)) (h2 : ¬ ((cQ 32 s)[0] = fT /\ (cQ 32 s).length = 2)) (h3 : ¬ ((cQ 32 s)[0] = jX /\ (cQ 32 s).length = 2)) (h4 : ¬ ((cQ 32 s)[0] = fX /\ (cQ 32 s).length = 3))
  (h5 : s ≠ gN) (h6 : s ≠ fQ) : eZ T s = (T, aBk) := by
 refine aKc h λ hn => ?_
 have h7 : ∀ x, (cQ 32 s)[0] = x -> (cQ 32 s).length = 1 -> s = x := λ x hx hl => aBf (one_is hl hx)
 unfold fW at hn
 split at hn
 ·rename_i e
  rcases e with e | e
  ·exact h1 ⟨e, t1⟩
  exact h4 ⟨e, t1⟩
 split at hn
 ·rename_i e
  rcases e with e | e
  ·exact h2 ⟨e, t1⟩
  exact h3 ⟨e, t1⟩
 split at hn
 ·rename_i e
  rcases e with e | e
  ·exact h5 (h7 _ e t1)
  exact h6 (h7 _ e t1)
 omega
theorem aEy {f : Int -> Str} {g : Int -> List Int} {ks : List Int} (hk : ∀ x ∈ ks, 0 <= x /\ x <= 99) : ∀ {l : List Int} {k : Nat}, (∀ x ∈ l, (f x).length <= 300 * (g x).length) -> (eO f ks k l).length <= 23 * l.length + 300 * (l.flatMap g).length
 | [], _, _ => by simp [eO]
 | x :: l, k, h => by
  have h1 := h x t11
  have h2 := aEy hk (l := l) (k := k + 1) λ y hy => h y (by simp [hy])
  have h3 : (bS (ks.getD (k - 1) 0)).length <= 21 := by
   have : 0 <= ks.getD (k - 1) 0 /\ ks.getD (k - 1) 0 <= 99 := by
    rw [aD]
    cases hq : ks[k - 1]? with
    | none => simp
    | some y => exact hk y (cE hq)
   exact cL t1 t1
  have h4 : (if k = 0 then ([] : Str) else 32 :: (bS (ks.getD (k - 1) 0) ++ [32])).length <= 23 := by
   split
   ·simp
   simp only [aG, aA, bA]; omega
  simp only [eO, aA, aG, aK] at h2 ⊢
  omega
theorem aKh : ∀ {d : Nat} {i low high : Int}, okB T d i low high = true -> (cW T d i).length <= 300 * (aS T d i).length
 | 0, _, _, _, h => by simp [okB] at h
 | d + 1, i, low, high, h => by
  have h1 := dL.1 h
  simp only [cW, aS, aG]
  rcases h1.2.2.2 with ⟨_, h2⟩ | ⟨h0, h2, h3⟩
  ·rw [if_pos h2]
   have hv := gI h1.2.1 h2
   have := oR (l := aV (gP T i)) _ (lK hv) (dD _)
   rw [List.take_length, eL] at this
   have := iA h1.2.1
   omega
  rw [if_neg h2]
  have hkl := lQ h1.2.1 h2
  have hl := iA h1.2.1
  have h4 := aEy (f := cW T d) (g := aS T d) (ks := (gP T i).keys) (bQ.1 (kI h1.2.1)).1 (l := (gP T i).kids) (k := 0) (λ x hx => by
   obtain ⟨k, hk, rfl⟩ := aJ hx
   exact aKh (iC h hk))
  simp only [aG, aA, bA]
  omega
theorem frX_len (hv : aN T = true) : (frX T).length <= 4800 := by
 rw [aCc hv]
 obtain ⟨h1, h2, _, h4⟩ := eF hv
 have := aKh h2
 have := (fN hv).2
 omega
theorem aNz {k v : Int} (hv : aN T = true) (h : mO T k = some v) : -1000 <= v /\ v <= 1000 := by
 unfold mO lW at h
 obtain ⟨p, hp, rfl⟩ := Option.map_eq_some_iff.1 h
 have hm := List.mem_of_find?_eq_some hp
 have hP := kK (key := k) hv
 have hf := hP.fr ((aY T k).length - 1) (by have := hP.pos; omega)
 exact (eM.1 (gI hf hP.leaf)).2.1 p hm
theorem cmd_len (hv : aN T = true) (w : Str) (a b : Int) : (lX T w a b).2.length <= 4800 := by
 obtain ⟨h3, _, _, _⟩ := eF hv
 have hl := fN hv
 unfold lX
 split
 ·split <;> exact (by decide : (2 : Nat) <= 4800)
 split
 ·split <;> exact (by decide : (2 : Nat) <= 4800)
 split
 ·cases h : mO T a with
  | none => exact (by decide : (2 : Nat) <= 4800)
  | some v =>
   have := aNz hv h
   exact cR (cL t1 t1) t19
 split
 ·have h1 := sN (a := a) (b := b) hv
  have h2 := oR (l := kA (bZ T) a b) _ (lK h1) (dD _)
  rw [List.take_length] at h2
  have h4 := pR h1
  show (iH _).length <= _
  omega
 split
 ·exact frX_len hv
 have a1 := cL (n := (T.pages.length : Int)) t1 t1
 have a2 := cL (n := ((bH T : Nat) : Int)) t1 t1
 simp only [aA, aG, bA]
 omega
theorem zE (hv : aN T = true) (s : Str) : (eZ T s).2.length <= 4800 := by
 unfold eZ
 split
 ·exact (by decide : (4 : Nat) <= 4800)
 split
 ·exact (by decide : (4 : Nat) <= 4800)
 split
 ·exact (by decide : (2 : Nat) <= 4800)
 exact cmd_len hv _ _ _
theorem uG : ∀ {l : List Str} {T : TrT}, aN T = true -> (jQ T l).length <= l.length * 4801
 | [], _, _ => by simp [jQ]
 | s :: l, T, h => by
  have h1 := zE h s
  have h2 := uG (l := l) (zF h s)
  simp only [jQ, aA, aG]
  omega
theorem aGc (l : List Str) : (eR l).length <= 96020 := by
 have := uG (l := l.take 20) yS
 unfold eR
 rw [aB] at this
 have h : min 20 l.length <= 20 := Nat.min_le_left _ _
 have := cR this (bK 4801 h)
 omega
theorem vY (l : List Str) (n : Nat) : eR (l.take n) <+: eR l := by
 unfold eR
 rw [lU]
 have h : l.take 20 = l.take (min 20 n) ++ (l.take 20).drop (min 20 n) := by
  conv => lhs; rw [<- bT (min 20 n) (l.take 20), lU, show min (min 20 n) 20 = min 20 n by omega]
 rw [h, uF]
 exact List.prefix_append _ _
theorem aGb {l m : List Str} (h : l.length + m.length <= 20) : eR (l ++ m) = eR l ++ jQ (ssT mX l) m := by
 unfold eR
 rw [aE (by simpa using h), aE t1, uF]
end
end Go.Px
end
section
namespace Go.Px
open Go.RowKit
def mdR (r : List PairT) (y : PgT) : Bool × Int × PgT × PgT :=
 if r.length <= 4 then (true, 0, eA r, y) else (false, (r.getD ((r.length + 1) / 2) ⟨0, 0⟩).key, eA (r.take ((r.length + 1) / 2)), eA (r.drop ((r.length + 1) / 2)))
def mdI (ks cs : List Int) (y : PgT) : Bool × Int × PgT × PgT :=
 if ks.length <= 4 then (true, 0, dP ks cs, y) else (false, ks.getD (ks.length / 2) 0, dP (ks.take (ks.length / 2)) (cs.take (ks.length / 2 + 1)), dP (ks.drop (ks.length / 2 + 1)) (cs.drop (ks.length / 2 + 1)))
def mdJ (R : TrT) (up a b : Int) (f : Nat) : Bool × Int × PgT × PgT :=
 if (gP R a).kids = [] then mdR (aV (gP R a) ++ aV (gP R b)) (gP R b) else mdI (iW R up a b f) (mI R a b) (gP R b)
section
variable {R : TrT} {up a b : Int} {f : Nat} {r : List PairT} {ks cs : List Int} {y : PgT} {Ch : List PgL} {L : List PgT}
theorem mdR_1 (h : r.length <= 4) : mdR r y = (true, 0, eA r, y) := if_pos h
theorem mdR_2 (h : ¬ r.length <= 4) : mdR r y = (false, (r.getD ((r.length + 1) / 2) ⟨0, 0⟩).key, eA (r.take ((r.length + 1) / 2)), eA (r.drop ((r.length + 1) / 2))) := if_neg h
theorem mdI_1 (h : ks.length <= 4) : mdI ks cs y = (true, 0, dP ks cs, y) := if_pos h
theorem mdI_2 (h : ¬ ks.length <= 4) : mdI ks cs y = (false, ks.getD (ks.length / 2) 0, dP (ks.take (ks.length / 2)) (cs.take (ks.length / 2 + 1)), dP (ks.drop (ks.length / 2 + 1)) (cs.drop (ks.length / 2 + 1))) := if_neg h
theorem aGe {i j : Nat} {x : PgT} (hab : i ≠ j) (hj : j < Ch.length) : ((tsG Ch).set i x).set j (Ch[j]).t = (tsG Ch).set i x := by
 apply iU
 ·simp
 intro k h1 h2
 rw [List.getElem_set]
 split
 ·rename_i e; subst e
  rw [List.getElem_set_ne hab, cI]
 rfl
theorem aOk (h : MD R up f a b) : eE R up f = (⟨R.root, ((R.pages.set a.toNat (mdJ R up a b f).2.2.1).set b.toNat (mdJ R up a b f).2.2.2).set up.toNat (if (mdJ R up a b f).1 then kO (gP R up) (f + 1) else mD (gP R up) f (mdJ R up a b f).2.1)⟩, if (mdJ R up a b f).1 then b else -1) := by
 have ia := aX.1 h.ia
 have ib := aX.1 h.ib
 have hs : ∀ x, (R.pages.set a.toNat x).set b.toNat (gP R b) = R.pages.set a.toNat x := λ x => by
  apply iU
  ·simp
  intro k h1 h2
  rw [List.getElem_set]
  split
  ·rename_i e; subst e
   have := h.nab
   rw [List.getElem_set_ne t1]
   unfold gP
   rw [aD, aL t1]; rfl
  rfl
 unfold eE mdJ
 rw [h.ea, h.eb]
 split
 ·unfold yN mdR
  split
  ·simp only [if_true, hs]; rfl
  rfl
 unfold yM mdI
 split
 ·simp only [if_true, hs]; rfl
 rfl
theorem mend_jR (h : (gP R a).kids = []) : mdJ R up a b f = mdR (aV (gP R a) ++ aV (gP R b)) (gP R b) := if_pos h
theorem mend_jI (h : (gP R a).kids ≠ []) : mdJ R up a b f = mdI ((gP R a).keys ++ [(gP R up).keys.getD f 0] ++ (gP R b).keys) ((gP R a).kids ++ (gP R b).kids) (gP R b) := if_neg h
theorem plcI_b (l : List Int) (n : Int) : -1 <= dE l n /\ dE l n <= l.length := by
 unfold dE
 split
 ·have := jT.2 ‹n ∈ l›; omega
 omega
theorem mend_no (h : MD R up f a b) (hj : (mdJ R up a b f).1 = false) : eE R up f = (⟨R.root, ((R.pages.set a.toNat (mdJ R up a b f).2.2.1).set b.toNat (mdJ R up a b f).2.2.2).set up.toNat (mD (gP R up) f (mdJ R up a b f).2.1)⟩, -1) := by rw [aOk h, hj]; rfl
theorem aOl (h : MD R up f a b) (hj : (mdJ R up a b f).1 = true) : eE R up f = (⟨R.root, ((R.pages.set a.toNat (mdJ R up a b f).2.2.1).set b.toNat (mdJ R up a b f).2.2.2).set up.toNat (kO (gP R up) (f + 1))⟩, b) := by rw [aOk h, hj]; rfl
theorem aAt {r : Int} {L : List PgT} : eE ⟨r, L⟩ up f = (⟨r, (eE ⟨0, L⟩ up f).1.pages⟩, (eE ⟨0, L⟩ up f).2) := by
 unfold eE yN yM iW mI
 have e : ∀ x, gP ⟨r, L⟩ x = gP ⟨0, L⟩ x := λ _ => rfl
 simp only [e]
 split <;> split <;> rfl
theorem MD.r0 {r : Int} {L : List PgT} (h : MD ⟨r, L⟩ up f a b) : MD ⟨0, L⟩ up f a b := ⟨h.iu, h.ia, h.ib, h.ea, h.eb, h.kl, h.f1, h.nab, h.nua, h.nub, h.sm, h.lf, h.inn⟩
theorem aLe {g : List Int} {b : Int} (h : 0 <= b) : dR g b = g ++ [b] := if_pos h
theorem numG_b {g : List Int} {x : Int} : x - g.length <= eI g x /\ eI g x <= x := by
 unfold eI
 have := List.countP_le_length (p := λ y => decide (y < x)) (l := g)
 omega
end
end Go.Px
end
section
namespace Go.Px
open Go.RowKit
theorem Mem.rM {w0 w : World} {R : List (Option Nat)} {M : List (List FE)} (h : Mem w0 w R M) (i : Nat) {α : Type} {l : List α} (l' : List α) {f : α -> Value} {A : Option Addr} {n c : Nat} {t : TypeId} {N : List (List FE)} (hi : M[i]? = some [⟨.slice A n c, t, 1, n, l.map f⟩] := by exact rfl) (hn : n = l.length \/ n = l'.length := by first | exact .inl rfl | exact .inr rfl | (left; first | (simp; done) | omega | (simp; omega)) | (right; first | (simp; done) | omega | (simp; omega))) (hN : Nf (M.set i [⟨.slice A l'.length c, t, 1, l'.length, l'.map f⟩]) N := by (repeat (first | exact Go.Px.Nf.nil rfl | (apply Go.Px.Nf.cons; exact rfl)))) (e : l = l') : Mem w0 w R N := Mem.reM h i e hi hn hN
theorem Mem.rF {w0 w : World} {R : List (Option Nat)} {M : List (List FE)} (h : Mem w0 w R M) (i : Nat) {α : Type} {l : List α} (l' : List α) {f : α -> List Value} {A : Option Addr} {n c sz : Nat} {t : TypeId} {N : List (List FE)} (hi : M[i]? = some [⟨.slice A n c, t, sz, n, l.flatMap f⟩] := by exact rfl) (hn : n = l.length \/ n = l'.length := by first | exact .inl rfl | exact .inr rfl | (left; first | (simp; done) | omega | (simp; omega)) | (right; first | (simp; done) | omega | (simp; omega))) (hN : Nf (M.set i [⟨.slice A l'.length c, t, sz, l'.length, l'.flatMap f⟩]) N := by (repeat (first | exact Go.Px.Nf.nil rfl | (apply Go.Px.Nf.cons; exact rfl)))) (e : l = l') : Mem w0 w R N := Mem.reF h i e hi hn hN
abbrev oI (A : Option Addr) (c : Nat) (l : List Int) : List FE := [⟨.slice A l.length c, 3, 1, l.length, l.map I⟩]
abbrev oP (A : Option Addr) (c : Nat) (l : List PairT) : List FE := [⟨.slice A l.length c, 27, 2, l.length, l.flatMap cY⟩]
abbrev oB (A : Option Addr) (c : Nat) (l : List UInt8) : List FE := [⟨.slice A l.length c, 5, 1, l.length, l.map byteV⟩]
abbrev oS (A : Option Addr) (c : Nat) (l : List Str) : List FE := [⟨.slice A l.length c, 9, 1, l.length, l.map S⟩]
abbrev oG (A : Option Addr) (c : Nat) (l : List PgL) : List FE := [⟨.slice A l.length c, 42, 3, l.length, l.flatMap encPg⟩]
end Go.Px
end
namespace Go.Proofs.YtemejgglbhjodaaGreatDoor
open Go.Px
theorem mixed : Tryz.prog.follows .mixedOrders = true := by kernel_rfl
theorem el3 : ElT Tryz.prog 3 [.int .i64 0] 8 false := ElT.of (z := .int .i64 0) (by kernel_rfl) rfl (by kernel_rfl)
theorem el4 : ElT Tryz.prog 4 [.bool false] 1 false := ElT.of (z := .bool false) (by kernel_rfl) rfl (by kernel_rfl)
theorem el5 : ElT Tryz.prog 5 [.int .u8 0] 1 false := ElT.of (z := .int .u8 0) (by kernel_rfl) rfl (by kernel_rfl)
theorem el9 : ElT Tryz.prog 9 [S []] 16 false := ElT.of (z := S []) (by kernel_rfl) rfl (by kernel_rfl)
theorem el22 : ElT Tryz.prog 22 [.slice none 0 0] 24 false := ElT.of (z := .slice none 0 0) (by kernel_rfl) rfl (by kernel_rfl)
theorem kV : ElT Tryz.prog 23 [.slice none 0 0] 24 false := ElT.of (z := .slice none 0 0) (by kernel_rfl) rfl (by kernel_rfl)
theorem kH : ElT Tryz.prog 25 [.int .i64 0, .slice none 0 0] 32 true := ElT.of (z := .agg #[.int .i64 0, .slice none 0 0]) (by kernel_rfl) rfl (by kernel_rfl)
theorem jA : ElT Tryz.prog 27 [.int .i64 0, .int .i64 0] 16 true := ElT.of (z := .agg #[.int .i64 0, .int .i64 0]) (by kernel_rfl) rfl (by kernel_rfl)
theorem el30 : ElT Tryz.prog 30 [.slice none 0 0] 24 false := ElT.of (z := .slice none 0 0) (by kernel_rfl) rfl (by kernel_rfl)
theorem tJ : ElT Tryz.prog 42 [.slice none 0 0, .slice none 0 0, .slice none 0 0] 72 true := ElT.of (z := .agg #[.slice none 0 0, .slice none 0 0, .slice none 0 0]) (by kernel_rfl) rfl (by kernel_rfl)
theorem el43 : ElT Tryz.prog 43 [.slice none 0 0] 24 false := ElT.of (z := .slice none 0 0) (by kernel_rfl) rfl (by kernel_rfl)
theorem tK : ElT Tryz.prog 65 [.slice none 0 0, .slice none 0 0] 48 true := ElT.of (z := .agg #[.slice none 0 0, .slice none 0 0]) (by kernel_rfl) rfl (by kernel_rfl)
theorem el75 : ElT Tryz.prog 75 [.bool false, .bool false, .bool false, .bool false, .bool false, .bool false, .bool false, .bool false, .bool false, .bool false, .bool false, .bool false, .bool false, .bool false, .bool false, .bool false] 16 true := ElT.of (z := .agg #[.bool false, .bool false, .bool false, .bool false, .bool false, .bool false, .bool false, .bool false, .bool false, .bool false, .bool false, .bool false, .bool false, .bool false, .bool false, .bool false]) (by kernel_rfl) rfl (by kernel_rfl)
theorem el77 : ElT Tryz.prog 77 [.int .i64 0, .slice none 0 0, .bool false, .bool false, .bool false, .bool false, .bool false, .bool false, .bool false, .bool false, .bool false, .bool false, .bool false, .bool false, .bool false, .bool false, .bool false, .bool false, .int .i64 0] 56 true := ElT.of (z := .agg #[.int .i64 0, .slice none 0 0, .bool false, .bool false, .bool false, .bool false, .bool false, .bool false, .bool false, .bool false, .bool false, .bool false, .bool false, .bool false, .bool false, .bool false, .bool false, .bool false, .int .i64 0]) (by kernel_rfl) rfl (by kernel_rfl)
theorem el90 : ElT Tryz.prog 90 [.int .i64 0, .slice none 0 0] 32 true := ElT.of (z := .agg #[.int .i64 0, .slice none 0 0]) (by kernel_rfl) rfl (by kernel_rfl)
theorem el91 : ElT Tryz.prog 91 [.pointer none] 8 false := ElT.of (z := .pointer none) (by kernel_rfl) rfl (by kernel_rfl)
theorem el93 : ElT Tryz.prog 93 [.pointer none, .slice none 0 0] 32 true := ElT.of (z := .agg #[.pointer none, .slice none 0 0]) (by kernel_rfl) rfl (by kernel_rfl)
theorem el95 : ElT Tryz.prog 95 [.nilIface] 16 false := ElT.of (z := .nilIface) (by kernel_rfl) rfl (by kernel_rfl)
theorem el103 : ElT Tryz.prog 103 [.int .i64 0, .slice none 0 0] 32 true := ElT.of (z := .agg #[.int .i64 0, .slice none 0 0]) (by kernel_rfl) rfl (by kernel_rfl)
theorem el131 : ElT Tryz.prog 131 [.slice none 0 0, .int .i64 0] 32 true := ElT.of (z := .agg #[.slice none 0 0, .int .i64 0]) (by kernel_rfl) rfl (by kernel_rfl)
theorem el134 : ElT Tryz.prog 134 [.int .i64 0, .int .i64 0] 16 true := ElT.of (z := .agg #[.int .i64 0, .int .i64 0]) (by kernel_rfl) rfl (by kernel_rfl)
theorem el169 : ElT Tryz.prog 169 [.slice none 0 0, .bool false, .bool false, .bool false, .bool false, .bool false, .bool false, .bool false, .bool false, .bool false, .bool false, .bool false, .bool false, .bool false, .bool false, .bool false, .bool false, .int .i64 0] 48 true := ElT.of (z := .agg #[.slice none 0 0, .bool false, .bool false, .bool false, .bool false, .bool false, .bool false, .bool false, .bool false, .bool false, .bool false, .bool false, .bool false, .bool false, .bool false, .bool false, .bool false, .int .i64 0]) (by kernel_rfl) rfl (by kernel_rfl)
theorem el180 : ElT Tryz.prog 180 [.int .u64 0] 8 false := ElT.of (z := .int .u64 0) (by kernel_rfl) rfl (by kernel_rfl)
theorem el196 : ElT Tryz.prog 196 [.int .i64 0, .int .i64 0, .int .i64 0, .int .i64 0, .int .i64 0, .int .i64 0, .int .i64 0, .int .i64 0, .int .i64 0, .int .i64 0, .int .i64 0, .int .i64 0, .int .i64 0, .int .i64 0, .int .i64 0, .int .i64 0] 128 true := ElT.of (z := .agg #[.int .i64 0, .int .i64 0, .int .i64 0, .int .i64 0, .int .i64 0, .int .i64 0, .int .i64 0, .int .i64 0, .int .i64 0, .int .i64 0, .int .i64 0, .int .i64 0, .int .i64 0, .int .i64 0, .int .i64 0, .int .i64 0]) (by kernel_rfl) rfl (by kernel_rfl)
theorem el207 : ElT Tryz.prog 207 [.int .u8 0, .int .u8 0] 2 true := ElT.of (z := .agg #[.int .u8 0, .int .u8 0]) (by kernel_rfl) rfl (by kernel_rfl)
theorem el214 : ElT Tryz.prog 214 [S [], S [], .nilIface] 48 true := ElT.of (z := .agg #[S [], S [], .nilIface]) (by kernel_rfl) rfl (by kernel_rfl)
theorem el225 : ElT Tryz.prog 225 [S []] 16 true := ElT.of (z := .agg #[S []]) (by kernel_rfl) rfl (by kernel_rfl)
theorem fl25_0 : FlT Tryz.prog 25 0 0 := FlT.of (by kernel_rfl)
theorem fl25_1 : FlT Tryz.prog 25 1 1 := FlT.of (by kernel_rfl)
theorem aNp : FlT Tryz.prog 27 0 0 := FlT.of (by kernel_rfl)
theorem aNq : FlT Tryz.prog 27 1 1 := FlT.of (by kernel_rfl)
theorem aNr : FlT Tryz.prog 42 0 0 := FlT.of (by kernel_rfl)
theorem aNs : FlT Tryz.prog 42 1 1 := FlT.of (by kernel_rfl)
theorem fl42_2 : FlT Tryz.prog 42 2 2 := FlT.of (by kernel_rfl)
theorem fl65_0 : FlT Tryz.prog 65 0 0 := FlT.of (by kernel_rfl)
theorem fl65_1 : FlT Tryz.prog 65 1 1 := FlT.of (by kernel_rfl)
theorem fl77_0 : FlT Tryz.prog 77 0 0 := FlT.of (by kernel_rfl)
theorem fl77_1 : FlT Tryz.prog 77 1 2 := FlT.of (by kernel_rfl)
theorem fl77_2 : FlT Tryz.prog 77 2 18 := FlT.of (by kernel_rfl)
theorem fl90_0 : FlT Tryz.prog 90 0 0 := FlT.of (by kernel_rfl)
theorem fl93_0 : FlT Tryz.prog 93 0 0 := FlT.of (by kernel_rfl)
theorem fl93_1 : FlT Tryz.prog 93 1 1 := FlT.of (by kernel_rfl)
theorem fl103_0 : FlT Tryz.prog 103 0 0 := FlT.of (by kernel_rfl)
theorem fl131_0 : FlT Tryz.prog 131 0 0 := FlT.of (by kernel_rfl)
theorem fl131_1 : FlT Tryz.prog 131 1 1 := FlT.of (by kernel_rfl)
theorem fl169_0 : FlT Tryz.prog 169 0 0 := FlT.of (by kernel_rfl)
theorem fl169_1 : FlT Tryz.prog 169 1 1 := FlT.of (by kernel_rfl)
theorem fl169_2 : FlT Tryz.prog 169 2 17 := FlT.of (by kernel_rfl)
theorem fl207_0 : FlT Tryz.prog 207 0 0 := FlT.of (by kernel_rfl)
theorem fl207_1 : FlT Tryz.prog 207 1 1 := FlT.of (by kernel_rfl)
theorem of25 : oD Tryz.prog 25 [.int .i64 0, .slice none 0 0] := oD.of (z := .agg #[.int .i64 0, .slice none 0 0]) (by kernel_rfl) rfl (by kernel_rfl)
theorem of27 : oD Tryz.prog 27 [.int .i64 0, .int .i64 0] := oD.of (z := .agg #[.int .i64 0, .int .i64 0]) (by kernel_rfl) rfl (by kernel_rfl)
theorem of42 : oD Tryz.prog 42 [.slice none 0 0, .slice none 0 0, .slice none 0 0] := oD.of (z := .agg #[.slice none 0 0, .slice none 0 0, .slice none 0 0]) (by kernel_rfl) rfl (by kernel_rfl)
theorem of65 : oD Tryz.prog 65 [.slice none 0 0, .slice none 0 0] := oD.of (z := .agg #[.slice none 0 0, .slice none 0 0]) (by kernel_rfl) rfl (by kernel_rfl)
theorem of131 : oD Tryz.prog 131 [.slice none 0 0, .int .i64 0] := oD.of (z := .agg #[.slice none 0 0, .int .i64 0]) (by kernel_rfl) rfl (by kernel_rfl)
theorem of207 : oD Tryz.prog 207 [.int .u8 0, .int .u8 0] := oD.of (z := .agg #[.int .u8 0, .int .u8 0]) (by kernel_rfl) rfl (by kernel_rfl)
theorem of214 : oD Tryz.prog 214 [S [], S [], .nilIface] := oD.of (z := .agg #[S [], S [], .nilIface]) (by kernel_rfl) rfl (by kernel_rfl)
theorem of225 : oD Tryz.prog 225 [S []] := oD.of (z := .agg #[S []]) (by kernel_rfl) rfl (by kernel_rfl)
theorem en12 : bB Tryz.prog 12 := Px.enters_of Tryz.func12 (by kernel_rfl) (by kernel_rfl)
theorem en19 : bB Tryz.prog 19 := Px.enters_of Tryz.func19 (by kernel_rfl) (by kernel_rfl)
theorem en22 : bB Tryz.prog 22 := Px.enters_of Tryz.func22 (by kernel_rfl) (by kernel_rfl)
theorem en23 : bB Tryz.prog 23 := Px.enters_of Tryz.func23 (by kernel_rfl) (by kernel_rfl)
theorem en24 : bB Tryz.prog 24 := Px.enters_of Tryz.func24 (by kernel_rfl) (by kernel_rfl)
theorem en30 : bB Tryz.prog 30 := Px.enters_of Tryz.func30 (by kernel_rfl) (by kernel_rfl)
theorem en31 : bB Tryz.prog 31 := Px.enters_of Tryz.func31 (by kernel_rfl) (by kernel_rfl)
theorem en32 : bB Tryz.prog 32 := Px.enters_of Tryz.func32 (by kernel_rfl) (by kernel_rfl)
theorem en33 : bB Tryz.prog 33 := Px.enters_of Tryz.func33 (by kernel_rfl) (by kernel_rfl)
theorem en34 : bB Tryz.prog 34 := Px.enters_of Tryz.func34 (by kernel_rfl) (by kernel_rfl)
theorem en35 : bB Tryz.prog 35 := Px.enters_of Tryz.func35 (by kernel_rfl) (by kernel_rfl)
theorem en36 : bB Tryz.prog 36 := Px.enters_of Tryz.func36 (by kernel_rfl) (by kernel_rfl)
theorem en37 : bB Tryz.prog 37 := Px.enters_of Tryz.func37 (by kernel_rfl) (by kernel_rfl)
theorem en38 : bB Tryz.prog 38 := Px.enters_of Tryz.func38 (by kernel_rfl) (by kernel_rfl)
theorem en39 : bB Tryz.prog 39 := Px.enters_of Tryz.func39 (by kernel_rfl) (by kernel_rfl)
theorem en40 : bB Tryz.prog 40 := Px.enters_of Tryz.func40 (by kernel_rfl) (by kernel_rfl)
theorem en41 : bB Tryz.prog 41 := Px.enters_of Tryz.func41 (by kernel_rfl) (by kernel_rfl)
theorem en43 : bB Tryz.prog 43 := Px.enters_of Tryz.func43 (by kernel_rfl) (by kernel_rfl)
theorem en46 : bB Tryz.prog 46 := Px.enters_of Tryz.func46 (by kernel_rfl) (by kernel_rfl)
theorem en47 : bB Tryz.prog 47 := Px.enters_of Tryz.func47 (by kernel_rfl) (by kernel_rfl)
theorem en48 : bB Tryz.prog 48 := Px.enters_of Tryz.func48 (by kernel_rfl) (by kernel_rfl)
theorem en49 : bB Tryz.prog 49 := Px.enters_of Tryz.func49 (by kernel_rfl) (by kernel_rfl)
theorem en51 : bB Tryz.prog 51 := Px.enters_of Tryz.func51 (by kernel_rfl) (by kernel_rfl)
theorem en52 : bB Tryz.prog 52 := Px.enters_of Tryz.func52 (by kernel_rfl) (by kernel_rfl)
theorem en54 : bB Tryz.prog 54 := Px.enters_of Tryz.func54 (by kernel_rfl) (by kernel_rfl)
theorem en55 : bB Tryz.prog 55 := Px.enters_of Tryz.func55 (by kernel_rfl) (by kernel_rfl)
theorem en56 : bB Tryz.prog 56 := Px.enters_of Tryz.func56 (by kernel_rfl) (by kernel_rfl)
theorem en57 : bB Tryz.prog 57 := Px.enters_of Tryz.func57 (by kernel_rfl) (by kernel_rfl)
theorem en58 : bB Tryz.prog 58 := Px.enters_of Tryz.func58 (by kernel_rfl) (by kernel_rfl)
theorem en59 : bB Tryz.prog 59 := Px.enters_of Tryz.func59 (by kernel_rfl) (by kernel_rfl)
theorem en60 : bB Tryz.prog 60 := Px.enters_of Tryz.func60 (by kernel_rfl) (by kernel_rfl)
theorem en61 : bB Tryz.prog 61 := Px.enters_of Tryz.func61 (by kernel_rfl) (by kernel_rfl)
theorem en62 : bB Tryz.prog 62 := Px.enters_of Tryz.func62 (by kernel_rfl) (by kernel_rfl)
theorem en63 : bB Tryz.prog 63 := Px.enters_of Tryz.func63 (by kernel_rfl) (by kernel_rfl)
theorem en64 : bB Tryz.prog 64 := Px.enters_of Tryz.func64 (by kernel_rfl) (by kernel_rfl)
theorem en65 : bB Tryz.prog 65 := Px.enters_of Tryz.func65 (by kernel_rfl) (by kernel_rfl)
theorem en66 : bB Tryz.prog 66 := Px.enters_of Tryz.func66 (by kernel_rfl) (by kernel_rfl)
theorem en72 : bB Tryz.prog 72 := Px.enters_of Tryz.func72 (by kernel_rfl) (by kernel_rfl)
theorem en73 : bB Tryz.prog 73 := Px.enters_of Tryz.func73 (by kernel_rfl) (by kernel_rfl)
theorem en74 : bB Tryz.prog 74 := Px.enters_of Tryz.func74 (by kernel_rfl) (by kernel_rfl)
theorem en75 : bB Tryz.prog 75 := Px.enters_of Tryz.func75 (by kernel_rfl) (by kernel_rfl)
theorem en76 : bB Tryz.prog 76 := Px.enters_of Tryz.func76 (by kernel_rfl) (by kernel_rfl)
theorem en77 : bB Tryz.prog 77 := Px.enters_of Tryz.func77 (by kernel_rfl) (by kernel_rfl)
theorem en78 : bB Tryz.prog 78 := Px.enters_of Tryz.func78 (by kernel_rfl) (by kernel_rfl)
theorem en79 : bB Tryz.prog 79 := Px.enters_of Tryz.func79 (by kernel_rfl) (by kernel_rfl)
theorem en80 : bB Tryz.prog 80 := Px.enters_of Tryz.func80 (by kernel_rfl) (by kernel_rfl)
theorem en81 : bB Tryz.prog 81 := Px.enters_of Tryz.func81 (by kernel_rfl) (by kernel_rfl)
theorem en82 : bB Tryz.prog 82 := Px.enters_of Tryz.func82 (by kernel_rfl) (by kernel_rfl)
theorem en83 : bB Tryz.prog 83 := Px.enters_of Tryz.func83 (by kernel_rfl) (by kernel_rfl)
theorem en84 : bB Tryz.prog 84 := Px.enters_of Tryz.func84 (by kernel_rfl) (by kernel_rfl)
theorem en85 : bB Tryz.prog 85 := Px.enters_of Tryz.func85 (by kernel_rfl) (by kernel_rfl)
theorem en86 : bB Tryz.prog 86 := Px.enters_of Tryz.func86 (by kernel_rfl) (by kernel_rfl)
theorem en88 : bB Tryz.prog 88 := Px.enters_of Tryz.func88 (by kernel_rfl) (by kernel_rfl)
theorem en89 : bB Tryz.prog 89 := Px.enters_of Tryz.func89 (by kernel_rfl) (by kernel_rfl)
theorem en90 : bB Tryz.prog 90 := Px.enters_of Tryz.func90 (by kernel_rfl) (by kernel_rfl)
theorem en91 : bB Tryz.prog 91 := Px.enters_of Tryz.func91 (by kernel_rfl) (by kernel_rfl)
theorem en92 : bB Tryz.prog 92 := Px.enters_of Tryz.func92 (by kernel_rfl) (by kernel_rfl)
theorem en93 : bB Tryz.prog 93 := Px.enters_of Tryz.func93 (by kernel_rfl) (by kernel_rfl)
theorem en96 : bB Tryz.prog 96 := Px.enters_of Tryz.func96 (by kernel_rfl) (by kernel_rfl)
theorem en97 : bB Tryz.prog 97 := Px.enters_of Tryz.func97 (by kernel_rfl) (by kernel_rfl)
theorem en98 : bB Tryz.prog 98 := Px.enters_of Tryz.func98 (by kernel_rfl) (by kernel_rfl)
theorem en99 : bB Tryz.prog 99 := Px.enters_of Tryz.func99 (by kernel_rfl) (by kernel_rfl)
theorem en100 : bB Tryz.prog 100 := Px.enters_of Tryz.func100 (by kernel_rfl) (by kernel_rfl)
theorem en101 : bB Tryz.prog 101 := Px.enters_of Tryz.func101 (by kernel_rfl) (by kernel_rfl)
theorem en102 : bB Tryz.prog 102 := Px.enters_of Tryz.func102 (by kernel_rfl) (by kernel_rfl)
theorem en103 : bB Tryz.prog 103 := Px.enters_of Tryz.func103 (by kernel_rfl) (by kernel_rfl)
theorem en104 : bB Tryz.prog 104 := Px.enters_of Tryz.func104 (by kernel_rfl) (by kernel_rfl)
theorem en105 : bB Tryz.prog 105 := Px.enters_of Tryz.func105 (by kernel_rfl) (by kernel_rfl)
theorem en106 : bB Tryz.prog 106 := Px.enters_of Tryz.func106 (by kernel_rfl) (by kernel_rfl)
theorem en107 : bB Tryz.prog 107 := Px.enters_of Tryz.func107 (by kernel_rfl) (by kernel_rfl)
theorem en108 : bB Tryz.prog 108 := Px.enters_of Tryz.func108 (by kernel_rfl) (by kernel_rfl)
theorem en109 : bB Tryz.prog 109 := Px.enters_of Tryz.func109 (by kernel_rfl) (by kernel_rfl)
theorem en110 : bB Tryz.prog 110 := Px.enters_of Tryz.func110 (by kernel_rfl) (by kernel_rfl)
theorem en111 : bB Tryz.prog 111 := Px.enters_of Tryz.func111 (by kernel_rfl) (by kernel_rfl)
theorem en112 : bB Tryz.prog 112 := Px.enters_of Tryz.func112 (by kernel_rfl) (by kernel_rfl)
theorem en115 : bB Tryz.prog 115 := Px.enters_of Tryz.func115 (by kernel_rfl) (by kernel_rfl)
theorem en116 : bB Tryz.prog 116 := Px.enters_of Tryz.func116 (by kernel_rfl) (by kernel_rfl)
theorem en117 : bB Tryz.prog 117 := Px.enters_of Tryz.func117 (by kernel_rfl) (by kernel_rfl)
theorem en118 : bB Tryz.prog 118 := Px.enters_of Tryz.func118 (by kernel_rfl) (by kernel_rfl)
theorem en123 : bB Tryz.prog 123 := Px.enters_of Tryz.func123 (by kernel_rfl) (by kernel_rfl)
theorem en124 : bB Tryz.prog 124 := Px.enters_of Tryz.func124 (by kernel_rfl) (by kernel_rfl)
theorem en125 : bB Tryz.prog 125 := Px.enters_of Tryz.func125 (by kernel_rfl) (by kernel_rfl)
theorem en126 : bB Tryz.prog 126 := Px.enters_of Tryz.func126 (by kernel_rfl) (by kernel_rfl)
theorem en127 : bB Tryz.prog 127 := Px.enters_of Tryz.func127 (by kernel_rfl) (by kernel_rfl)
theorem en128 : bB Tryz.prog 128 := Px.enters_of Tryz.func128 (by kernel_rfl) (by kernel_rfl)
theorem en129 : bB Tryz.prog 129 := Px.enters_of Tryz.func129 (by kernel_rfl) (by kernel_rfl)
theorem en130 : bB Tryz.prog 130 := Px.enters_of Tryz.func130 (by kernel_rfl) (by kernel_rfl)
theorem en131 : bB Tryz.prog 131 := Px.enters_of Tryz.func131 (by kernel_rfl) (by kernel_rfl)
theorem en132 : bB Tryz.prog 132 := Px.enters_of Tryz.func132 (by kernel_rfl) (by kernel_rfl)
theorem en134 : bB Tryz.prog 134 := Px.enters_of Tryz.func134 (by kernel_rfl) (by kernel_rfl)
theorem en139 : bB Tryz.prog 139 := Px.enters_of Tryz.func139 (by kernel_rfl) (by kernel_rfl)
theorem en141 : bB Tryz.prog 141 := Px.enters_of Tryz.func141 (by kernel_rfl) (by kernel_rfl)
theorem en142 : bB Tryz.prog 142 := Px.enters_of Tryz.func142 (by kernel_rfl) (by kernel_rfl)
theorem en143 : bB Tryz.prog 143 := Px.enters_of Tryz.func143 (by kernel_rfl) (by kernel_rfl)
theorem en144 : bB Tryz.prog 144 := Px.enters_of Tryz.func144 (by kernel_rfl) (by kernel_rfl)
theorem en145 : bB Tryz.prog 145 := Px.enters_of Tryz.func145 (by kernel_rfl) (by kernel_rfl)
theorem en146 : bB Tryz.prog 146 := Px.enters_of Tryz.func146 (by kernel_rfl) (by kernel_rfl)
theorem en147 : bB Tryz.prog 147 := Px.enters_of Tryz.func147 (by kernel_rfl) (by kernel_rfl)
theorem en148 : bB Tryz.prog 148 := Px.enters_of Tryz.func148 (by kernel_rfl) (by kernel_rfl)
theorem en149 : bB Tryz.prog 149 := Px.enters_of Tryz.func149 (by kernel_rfl) (by kernel_rfl)
theorem en152 : bB Tryz.prog 152 := Px.enters_of Tryz.func152 (by kernel_rfl) (by kernel_rfl)
theorem en153 : bB Tryz.prog 153 := Px.enters_of Tryz.func153 (by kernel_rfl) (by kernel_rfl)
theorem en154 : bB Tryz.prog 154 := Px.enters_of Tryz.func154 (by kernel_rfl) (by kernel_rfl)
theorem en155 : bB Tryz.prog 155 := Px.enters_of Tryz.func155 (by kernel_rfl) (by kernel_rfl)
theorem en158 : bB Tryz.prog 158 := Px.enters_of Tryz.func158 (by kernel_rfl) (by kernel_rfl)
theorem en159 : bB Tryz.prog 159 := Px.enters_of Tryz.func159 (by kernel_rfl) (by kernel_rfl)
theorem en160 : bB Tryz.prog 160 := Px.enters_of Tryz.func160 (by kernel_rfl) (by kernel_rfl)
theorem en161 : bB Tryz.prog 161 := Px.enters_of Tryz.func161 (by kernel_rfl) (by kernel_rfl)
theorem en169 : bB Tryz.prog 169 := Px.enters_of Tryz.func169 (by kernel_rfl) (by kernel_rfl)
theorem en170 : bB Tryz.prog 170 := Px.enters_of Tryz.func170 (by kernel_rfl) (by kernel_rfl)
theorem en171 : bB Tryz.prog 171 := Px.enters_of Tryz.func171 (by kernel_rfl) (by kernel_rfl)
theorem en172 : bB Tryz.prog 172 := Px.enters_of Tryz.func172 (by kernel_rfl) (by kernel_rfl)
theorem en173 : bB Tryz.prog 173 := Px.enters_of Tryz.func173 (by kernel_rfl) (by kernel_rfl)
theorem en174 : bB Tryz.prog 174 := Px.enters_of Tryz.func174 (by kernel_rfl) (by kernel_rfl)
theorem en175 : bB Tryz.prog 175 := Px.enters_of Tryz.func175 (by kernel_rfl) (by kernel_rfl)
theorem en176 : bB Tryz.prog 176 := Px.enters_of Tryz.func176 (by kernel_rfl) (by kernel_rfl)
theorem en177 : bB Tryz.prog 177 := Px.enters_of Tryz.func177 (by kernel_rfl) (by kernel_rfl)
theorem en195 : bB Tryz.prog 195 := Px.enters_of Tryz.func195 (by kernel_rfl) (by kernel_rfl)
theorem en196 : bB Tryz.prog 196 := Px.enters_of Tryz.func196 (by kernel_rfl) (by kernel_rfl)
theorem en197 : bB Tryz.prog 197 := Px.enters_of Tryz.func197 (by kernel_rfl) (by kernel_rfl)
theorem en198 : bB Tryz.prog 198 := Px.enters_of Tryz.func198 (by kernel_rfl) (by kernel_rfl)
theorem en199 : bB Tryz.prog 199 := Px.enters_of Tryz.func199 (by kernel_rfl) (by kernel_rfl)
theorem en200 : bB Tryz.prog 200 := Px.enters_of Tryz.func200 (by kernel_rfl) (by kernel_rfl)
theorem en201 : bB Tryz.prog 201 := Px.enters_of Tryz.func201 (by kernel_rfl) (by kernel_rfl)
theorem en202 : bB Tryz.prog 202 := Px.enters_of Tryz.func202 (by kernel_rfl) (by kernel_rfl)
theorem en203 : bB Tryz.prog 203 := Px.enters_of Tryz.func203 (by kernel_rfl) (by kernel_rfl)
theorem en214 : bB Tryz.prog 214 := Px.enters_of Tryz.func214 (by kernel_rfl) (by kernel_rfl)
theorem en215 : bB Tryz.prog 215 := Px.enters_of Tryz.func215 (by kernel_rfl) (by kernel_rfl)
theorem en216 : bB Tryz.prog 216 := Px.enters_of Tryz.func216 (by kernel_rfl) (by kernel_rfl)
theorem en217 : bB Tryz.prog 217 := Px.enters_of Tryz.func217 (by kernel_rfl) (by kernel_rfl)
theorem en218 : bB Tryz.prog 218 := Px.enters_of Tryz.func218 (by kernel_rfl) (by kernel_rfl)
theorem en223 : bB Tryz.prog 223 := Px.enters_of Tryz.func223 (by kernel_rfl) (by kernel_rfl)
theorem en224 : bB Tryz.prog 224 := Px.enters_of Tryz.func224 (by kernel_rfl) (by kernel_rfl)
theorem en225 : bB Tryz.prog 225 := Px.enters_of Tryz.func225 (by kernel_rfl) (by kernel_rfl)
def tyL : List (List TyI) := [[ty0, ty0, ty0, ⟨[], some (1, false), false, false, none⟩, ⟨[], some (1, false), false, false, none⟩, ⟨[], some (1, false), false, false, none⟩, ty0, ty0, ty0, ⟨[], some (1, false), false, true, none⟩, ty0, ty0],
 [ty0, ty0, ty0, ty0, ty0, ty0, ty0, ty0, ty0, ty0, ⟨[], some (1, false), true, false, none⟩, ⟨[], some (1, false), true, false, none⟩],
 [ty0, ⟨[(0, 0), (1, 1)], some (2, true), false, false, some [.i 0, .sl none 0 0]⟩, ty0, ⟨[(0, 0), (1, 1)], some (2, true), false, false, some [.i 0, .i 0]⟩, ty0, ty0, ⟨[], some (1, false), true, false, none⟩, ty0, ty0, ty0, ty0, ty0],
 [ty0, ty0, ty0, ty0, ty0, ty0, ⟨[(0, 0), (1, 1), (2, 2)], some (3, true), false, false, some [.sl none 0 0, .sl none 0 0, .sl none 0 0]⟩, ⟨[], some (1, false), true, false, none⟩, ty0, ty0, ty0, ⟨[], none, true, false, none⟩],
 [ty0, ty0, ty0, ty0, ty0, ty0, ty0, ty0, ty0, ty0, ty0, ty0],
 [ty0, ty0, ty0, ty0, ty0, ⟨[(0, 0), (1, 1)], some (2, true), false, false, some [.sl none 0 0, .sl none 0 0]⟩, ty0, ty0, ty0, ty0, ty0, ty0],
 [ty0, ty0, ty0, ty0, ty0, ⟨[(0, 0), (1, 2), (2, 18)], some (19, true), false, false, none⟩, ty0, ty0, ty0, ty0, ty0, ty0],
 [ty0, ty0, ty0, ty0, ty0, ty0, ⟨[(0, 0)], some (2, true), false, false, none⟩, ⟨[], some (1, false), false, false, none⟩, ty0, ⟨[(0, 0), (1, 1)], some (2, true), false, false, none⟩, ty0, ⟨[], some (1, false), false, false, none⟩],
 [ty0, ty0, ty0, ty0, ty0, ty0, ty0, ⟨[(0, 0)], some (2, true), false, false, none⟩, ty0, ty0, ty0, ty0],
 [ty0, ty0, ty0, ty0, ty0, ty0, ty0, ty0, ty0, ty0, ty0, ty0],
 [ty0, ty0, ty0, ty0, ty0, ty0, ty0, ty0, ty0, ty0, ty0, ⟨[(0, 0), (1, 1)], some (2, true), false, false, some [.sl none 0 0, .i 0]⟩],
 [ty0, ty0, ty0, ty0, ty0, ty0, ty0, ty0, ty0, ty0, ty0, ty0],
 [ty0, ty0, ty0, ty0, ty0, ty0, ty0, ty0, ty0, ty0, ty0, ty0],
 [ty0, ty0, ty0, ty0, ty0, ty0, ty0, ty0, ty0, ty0, ty0, ty0],
 [ty0, ⟨[(0, 0), (1, 1), (2, 17)], some (18, true), false, false, none⟩, ty0, ty0, ty0, ty0, ty0, ty0, ty0, ty0, ty0, ty0],
 [⟨[], some (1, false), false, false, none⟩, ty0, ty0, ty0, ty0, ty0, ty0, ty0, ty0, ty0, ty0, ty0],
 [ty0, ty0, ty0, ty0, ty0, ty0, ty0, ty0, ty0, ty0, ty0, ty0],
 [ty0, ty0, ty0, ⟨[(0, 0), (1, 1)], some (2, true), false, false, some [.n .u8 0, .n .u8 0]⟩, ty0, ty0, ty0, ty0, ty0, ty0, ⟨[], some (3, true), false, false, some [.s [], .s [], .r (.nilIface)]⟩, ty0],
 [ty0, ty0, ty0, ty0, ty0, ty0, ty0, ty0, ty0, ⟨[], some (1, true), false, false, some [.s []]⟩, ⟨[], none, true, false, none⟩, ty0],
 [ty0, ty0, ty0, ⟨[], none, true, false, none⟩, ty0, ty0, ty0, ty0, ty0, ty0, ty0, ty0],
 [ty0, ty0, ty0, ty0, ty0]]
theorem tyOK : aIq Tryz.prog 12 0 tyL := ⟨⟨.nil, ⟨.nil, ⟨.nil, ⟨⟨trivial, ⟨_, _, el3, rfl⟩, nofun, nofun, trivial⟩, ⟨⟨trivial, ⟨_, _, el4, rfl⟩, nofun, nofun, trivial⟩, ⟨⟨trivial, ⟨_, _, el5, rfl⟩, nofun, nofun, trivial⟩, ⟨.nil, ⟨.nil, ⟨.nil, ⟨⟨trivial, ⟨_, _, el9, rfl⟩, nofun, λ _ => Tryz.underlying9, trivial⟩, ⟨.nil, ⟨.nil, trivial⟩⟩⟩⟩⟩⟩⟩⟩⟩⟩⟩⟩,
 ⟨⟨.nil, ⟨.nil, ⟨.nil, ⟨.nil, ⟨.nil, ⟨.nil, ⟨.nil, ⟨.nil, ⟨.nil, ⟨.nil, ⟨⟨trivial, ⟨_, _, el22, rfl⟩, λ _ => ⟨_, Tryz.underlying22⟩, nofun, trivial⟩, ⟨⟨trivial, ⟨_, _, kV, rfl⟩, λ _ => ⟨_, Tryz.underlying23⟩, nofun, trivial⟩, trivial⟩⟩⟩⟩⟩⟩⟩⟩⟩⟩⟩⟩,
 ⟨⟨.nil, ⟨⟨⟨fl25_0, ⟨fl25_1, trivial⟩⟩, ⟨_, _, kH, rfl⟩, nofun, nofun, of25⟩, ⟨.nil, ⟨⟨⟨aNp, ⟨aNq, trivial⟩⟩, ⟨_, _, jA, rfl⟩, nofun, nofun, of27⟩, ⟨.nil, ⟨.nil, ⟨⟨trivial, ⟨_, _, el30, rfl⟩, λ _ => ⟨_, Tryz.underlying30⟩, nofun, trivial⟩, ⟨.nil, ⟨.nil, ⟨.nil, ⟨.nil, ⟨.nil, trivial⟩⟩⟩⟩⟩⟩⟩⟩⟩⟩⟩⟩,
 ⟨⟨.nil, ⟨.nil, ⟨.nil, ⟨.nil, ⟨.nil, ⟨.nil, ⟨⟨⟨aNr, ⟨aNs, ⟨fl42_2, trivial⟩⟩⟩, ⟨_, _, tJ, rfl⟩, nofun, nofun, of42⟩, ⟨⟨trivial, ⟨_, _, el43, rfl⟩, λ _ => ⟨_, Tryz.underlying43⟩, nofun, trivial⟩, ⟨.nil, ⟨.nil, ⟨.nil, ⟨⟨trivial, trivial, λ _ => ⟨_, Tryz.underlying47⟩, nofun, trivial⟩, trivial⟩⟩⟩⟩⟩⟩⟩⟩⟩⟩⟩⟩,
 ⟨⟨.nil, ⟨.nil, ⟨.nil, ⟨.nil, ⟨.nil, ⟨.nil, ⟨.nil, ⟨.nil, ⟨.nil, ⟨.nil, ⟨.nil, ⟨.nil, trivial⟩⟩⟩⟩⟩⟩⟩⟩⟩⟩⟩⟩,
 ⟨⟨.nil, ⟨.nil, ⟨.nil, ⟨.nil, ⟨.nil, ⟨⟨⟨fl65_0, ⟨fl65_1, trivial⟩⟩, ⟨_, _, tK, rfl⟩, nofun, nofun, of65⟩, ⟨.nil, ⟨.nil, ⟨.nil, ⟨.nil, ⟨.nil, ⟨.nil, trivial⟩⟩⟩⟩⟩⟩⟩⟩⟩⟩⟩⟩,
 ⟨⟨.nil, ⟨.nil, ⟨.nil, ⟨.nil, ⟨.nil, ⟨⟨⟨fl77_0, ⟨fl77_1, ⟨fl77_2, trivial⟩⟩⟩, ⟨_, _, el77, rfl⟩, nofun, nofun, trivial⟩, ⟨.nil, ⟨.nil, ⟨.nil, ⟨.nil, ⟨.nil, ⟨.nil, trivial⟩⟩⟩⟩⟩⟩⟩⟩⟩⟩⟩⟩,
 ⟨⟨.nil, ⟨.nil, ⟨.nil, ⟨.nil, ⟨.nil, ⟨.nil, ⟨⟨⟨fl90_0, trivial⟩, ⟨_, _, el90, rfl⟩, nofun, nofun, trivial⟩, ⟨⟨trivial, ⟨_, _, el91, rfl⟩, nofun, nofun, trivial⟩, ⟨.nil, ⟨⟨⟨fl93_0, ⟨fl93_1, trivial⟩⟩, ⟨_, _, el93, rfl⟩, nofun, nofun, trivial⟩, ⟨.nil, ⟨⟨trivial, ⟨_, _, el95, rfl⟩, nofun, nofun, trivial⟩, trivial⟩⟩⟩⟩⟩⟩⟩⟩⟩⟩⟩⟩,
 ⟨⟨.nil, ⟨.nil, ⟨.nil, ⟨.nil, ⟨.nil, ⟨.nil, ⟨.nil, ⟨⟨⟨fl103_0, trivial⟩, ⟨_, _, el103, rfl⟩, nofun, nofun, trivial⟩, ⟨.nil, ⟨.nil, ⟨.nil, ⟨.nil, trivial⟩⟩⟩⟩⟩⟩⟩⟩⟩⟩⟩⟩,
 ⟨⟨.nil, ⟨.nil, ⟨.nil, ⟨.nil, ⟨.nil, ⟨.nil, ⟨.nil, ⟨.nil, ⟨.nil, ⟨.nil, ⟨.nil, ⟨.nil, trivial⟩⟩⟩⟩⟩⟩⟩⟩⟩⟩⟩⟩,
 ⟨⟨.nil, ⟨.nil, ⟨.nil, ⟨.nil, ⟨.nil, ⟨.nil, ⟨.nil, ⟨.nil, ⟨.nil, ⟨.nil, ⟨.nil, ⟨⟨⟨fl131_0, ⟨fl131_1, trivial⟩⟩, ⟨_, _, el131, rfl⟩, nofun, nofun, of131⟩, trivial⟩⟩⟩⟩⟩⟩⟩⟩⟩⟩⟩⟩,
 ⟨⟨.nil, ⟨.nil, ⟨.nil, ⟨.nil, ⟨.nil, ⟨.nil, ⟨.nil, ⟨.nil, ⟨.nil, ⟨.nil, ⟨.nil, ⟨.nil, trivial⟩⟩⟩⟩⟩⟩⟩⟩⟩⟩⟩⟩,
 ⟨⟨.nil, ⟨.nil, ⟨.nil, ⟨.nil, ⟨.nil, ⟨.nil, ⟨.nil, ⟨.nil, ⟨.nil, ⟨.nil, ⟨.nil, ⟨.nil, trivial⟩⟩⟩⟩⟩⟩⟩⟩⟩⟩⟩⟩,
 ⟨⟨.nil, ⟨.nil, ⟨.nil, ⟨.nil, ⟨.nil, ⟨.nil, ⟨.nil, ⟨.nil, ⟨.nil, ⟨.nil, ⟨.nil, ⟨.nil, trivial⟩⟩⟩⟩⟩⟩⟩⟩⟩⟩⟩⟩,
 ⟨⟨.nil, ⟨⟨⟨fl169_0, ⟨fl169_1, ⟨fl169_2, trivial⟩⟩⟩, ⟨_, _, el169, rfl⟩, nofun, nofun, trivial⟩, ⟨.nil, ⟨.nil, ⟨.nil, ⟨.nil, ⟨.nil, ⟨.nil, ⟨.nil, ⟨.nil, ⟨.nil, ⟨.nil, trivial⟩⟩⟩⟩⟩⟩⟩⟩⟩⟩⟩⟩,
 ⟨⟨⟨trivial, ⟨_, _, el180, rfl⟩, nofun, nofun, trivial⟩, ⟨.nil, ⟨.nil, ⟨.nil, ⟨.nil, ⟨.nil, ⟨.nil, ⟨.nil, ⟨.nil, ⟨.nil, ⟨.nil, ⟨.nil, trivial⟩⟩⟩⟩⟩⟩⟩⟩⟩⟩⟩⟩,
 ⟨⟨.nil, ⟨.nil, ⟨.nil, ⟨.nil, ⟨.nil, ⟨.nil, ⟨.nil, ⟨.nil, ⟨.nil, ⟨.nil, ⟨.nil, ⟨.nil, trivial⟩⟩⟩⟩⟩⟩⟩⟩⟩⟩⟩⟩,
 ⟨⟨.nil, ⟨.nil, ⟨.nil, ⟨⟨⟨fl207_0, ⟨fl207_1, trivial⟩⟩, ⟨_, _, el207, rfl⟩, nofun, nofun, of207⟩, ⟨.nil, ⟨.nil, ⟨.nil, ⟨.nil, ⟨.nil, ⟨.nil, ⟨⟨trivial, ⟨_, _, el214, rfl⟩, nofun, nofun, of214⟩, ⟨.nil, trivial⟩⟩⟩⟩⟩⟩⟩⟩⟩⟩⟩⟩,
 ⟨⟨.nil, ⟨.nil, ⟨.nil, ⟨.nil, ⟨.nil, ⟨.nil, ⟨.nil, ⟨.nil, ⟨.nil, ⟨⟨trivial, ⟨_, _, el225, rfl⟩, nofun, nofun, of225⟩, ⟨⟨trivial, trivial, λ _ => ⟨_, Tryz.underlying226⟩, nofun, trivial⟩, ⟨.nil, trivial⟩⟩⟩⟩⟩⟩⟩⟩⟩⟩⟩⟩,
 ⟨⟨.nil, ⟨.nil, ⟨.nil, ⟨⟨trivial, trivial, λ _ => ⟨_, Tryz.underlying231⟩, nofun, trivial⟩, ⟨.nil, ⟨.nil, ⟨.nil, ⟨.nil, ⟨.nil, ⟨.nil, ⟨.nil, ⟨.nil, trivial⟩⟩⟩⟩⟩⟩⟩⟩⟩⟩⟩⟩,
 ⟨⟨.nil, ⟨.nil, ⟨.nil, ⟨.nil, ⟨.nil, trivial⟩⟩⟩⟩⟩,
 trivial⟩⟩⟩⟩⟩⟩⟩⟩⟩⟩⟩⟩⟩⟩⟩⟩⟩⟩⟩⟩⟩
instance itab : TabC Tryz.prog (tyGet 12 tyL) := ⟨tab_ok t19 tyOK (by kernel_rfl)⟩
instance imx : MxC Tryz.prog := ⟨mixed⟩
instance iel3 : ElC Tryz.prog 3 [.int .i64 0] 8 false := ⟨el3⟩
instance iel4 : ElC Tryz.prog 4 [.bool false] 1 false := ⟨el4⟩
instance iel5 : ElC Tryz.prog 5 [.int .u8 0] 1 false := ⟨el5⟩
instance iel9 : ElC Tryz.prog 9 [S []] 16 false := ⟨el9⟩
instance iel22 : ElC Tryz.prog 22 [.slice none 0 0] 24 false := ⟨el22⟩
instance iel23 : ElC Tryz.prog 23 [.slice none 0 0] 24 false := ⟨kV⟩
instance iel25 : ElC Tryz.prog 25 [.int .i64 0, .slice none 0 0] 32 true := ⟨kH⟩
instance iel27 : ElC Tryz.prog 27 [.int .i64 0, .int .i64 0] 16 true := ⟨jA⟩
instance iel30 : ElC Tryz.prog 30 [.slice none 0 0] 24 false := ⟨el30⟩
instance iel42 : ElC Tryz.prog 42 [.slice none 0 0, .slice none 0 0, .slice none 0 0] 72 true := ⟨tJ⟩
instance iel43 : ElC Tryz.prog 43 [.slice none 0 0] 24 false := ⟨el43⟩
instance iel65 : ElC Tryz.prog 65 [.slice none 0 0, .slice none 0 0] 48 true := ⟨tK⟩
instance iel77 : ElC Tryz.prog 77 [.int .i64 0, .slice none 0 0, .bool false, .bool false, .bool false, .bool false, .bool false, .bool false, .bool false, .bool false, .bool false, .bool false, .bool false, .bool false, .bool false, .bool false, .bool false, .bool false, .int .i64 0] 56 true := ⟨el77⟩
instance iel90 : ElC Tryz.prog 90 [.int .i64 0, .slice none 0 0] 32 true := ⟨el90⟩
instance iel91 : ElC Tryz.prog 91 [.pointer none] 8 false := ⟨el91⟩
instance iel93 : ElC Tryz.prog 93 [.pointer none, .slice none 0 0] 32 true := ⟨el93⟩
instance iel169 : ElC Tryz.prog 169 [.slice none 0 0, .bool false, .bool false, .bool false, .bool false, .bool false, .bool false, .bool false, .bool false, .bool false, .bool false, .bool false, .bool false, .bool false, .bool false, .bool false, .bool false, .int .i64 0] 48 true := ⟨el169⟩
instance ifl27_0 : FlC Tryz.prog 27 0 0 := ⟨aNp⟩
instance ifl27_1 : FlC Tryz.prog 27 1 1 := ⟨aNq⟩
instance ifl42_0 : FlC Tryz.prog 42 0 0 := ⟨aNr⟩
instance ifl42_1 : FlC Tryz.prog 42 1 1 := ⟨aNs⟩
instance ien12 : EnC Tryz.prog 12 := ⟨en12⟩
instance ien19 : EnC Tryz.prog 19 := ⟨en19⟩
instance ien22 : EnC Tryz.prog 22 := ⟨en22⟩
instance ien23 : EnC Tryz.prog 23 := ⟨en23⟩
instance ien24 : EnC Tryz.prog 24 := ⟨en24⟩
instance ien30 : EnC Tryz.prog 30 := ⟨en30⟩
instance ien31 : EnC Tryz.prog 31 := ⟨en31⟩
instance ien32 : EnC Tryz.prog 32 := ⟨en32⟩
instance ien33 : EnC Tryz.prog 33 := ⟨en33⟩
instance ien34 : EnC Tryz.prog 34 := ⟨en34⟩
instance ien35 : EnC Tryz.prog 35 := ⟨en35⟩
instance ien36 : EnC Tryz.prog 36 := ⟨en36⟩
instance ien37 : EnC Tryz.prog 37 := ⟨en37⟩
instance ien38 : EnC Tryz.prog 38 := ⟨en38⟩
instance ien39 : EnC Tryz.prog 39 := ⟨en39⟩
instance ien40 : EnC Tryz.prog 40 := ⟨en40⟩
instance ien41 : EnC Tryz.prog 41 := ⟨en41⟩
instance ien43 : EnC Tryz.prog 43 := ⟨en43⟩
instance ien46 : EnC Tryz.prog 46 := ⟨en46⟩
instance ien47 : EnC Tryz.prog 47 := ⟨en47⟩
instance ien48 : EnC Tryz.prog 48 := ⟨en48⟩
instance ien49 : EnC Tryz.prog 49 := ⟨en49⟩
instance ien51 : EnC Tryz.prog 51 := ⟨en51⟩
instance ien52 : EnC Tryz.prog 52 := ⟨en52⟩
instance ien54 : EnC Tryz.prog 54 := ⟨en54⟩
instance ien55 : EnC Tryz.prog 55 := ⟨en55⟩
instance ien56 : EnC Tryz.prog 56 := ⟨en56⟩
instance ien57 : EnC Tryz.prog 57 := ⟨en57⟩
instance ien58 : EnC Tryz.prog 58 := ⟨en58⟩
instance ien59 : EnC Tryz.prog 59 := ⟨en59⟩
instance ien60 : EnC Tryz.prog 60 := ⟨en60⟩
instance ien61 : EnC Tryz.prog 61 := ⟨en61⟩
instance ien62 : EnC Tryz.prog 62 := ⟨en62⟩
instance ien63 : EnC Tryz.prog 63 := ⟨en63⟩
instance ien65 : EnC Tryz.prog 65 := ⟨en65⟩
instance ien66 : EnC Tryz.prog 66 := ⟨en66⟩
instance ien72 : EnC Tryz.prog 72 := ⟨en72⟩
instance ien73 : EnC Tryz.prog 73 := ⟨en73⟩
instance ien74 : EnC Tryz.prog 74 := ⟨en74⟩
instance ien75 : EnC Tryz.prog 75 := ⟨en75⟩
instance ien76 : EnC Tryz.prog 76 := ⟨en76⟩
instance ien77 : EnC Tryz.prog 77 := ⟨en77⟩
instance ien78 : EnC Tryz.prog 78 := ⟨en78⟩
instance ien79 : EnC Tryz.prog 79 := ⟨en79⟩
instance ien80 : EnC Tryz.prog 80 := ⟨en80⟩
instance ien81 : EnC Tryz.prog 81 := ⟨en81⟩
instance ien82 : EnC Tryz.prog 82 := ⟨en82⟩
instance ien83 : EnC Tryz.prog 83 := ⟨en83⟩
instance ien84 : EnC Tryz.prog 84 := ⟨en84⟩
instance ien85 : EnC Tryz.prog 85 := ⟨en85⟩
instance ien86 : EnC Tryz.prog 86 := ⟨en86⟩
instance ien88 : EnC Tryz.prog 88 := ⟨en88⟩
instance ien89 : EnC Tryz.prog 89 := ⟨en89⟩
instance ien90 : EnC Tryz.prog 90 := ⟨en90⟩
instance ien91 : EnC Tryz.prog 91 := ⟨en91⟩
instance ien92 : EnC Tryz.prog 92 := ⟨en92⟩
instance ien93 : EnC Tryz.prog 93 := ⟨en93⟩
instance ien96 : EnC Tryz.prog 96 := ⟨en96⟩
instance ien97 : EnC Tryz.prog 97 := ⟨en97⟩
instance ien98 : EnC Tryz.prog 98 := ⟨en98⟩
instance ien99 : EnC Tryz.prog 99 := ⟨en99⟩
instance ien100 : EnC Tryz.prog 100 := ⟨en100⟩
instance ien101 : EnC Tryz.prog 101 := ⟨en101⟩
instance ien102 : EnC Tryz.prog 102 := ⟨en102⟩
instance ien103 : EnC Tryz.prog 103 := ⟨en103⟩
instance ien104 : EnC Tryz.prog 104 := ⟨en104⟩
instance ien105 : EnC Tryz.prog 105 := ⟨en105⟩
instance ien106 : EnC Tryz.prog 106 := ⟨en106⟩
instance ien107 : EnC Tryz.prog 107 := ⟨en107⟩
instance ien108 : EnC Tryz.prog 108 := ⟨en108⟩
instance ien109 : EnC Tryz.prog 109 := ⟨en109⟩
instance ien110 : EnC Tryz.prog 110 := ⟨en110⟩
instance ien111 : EnC Tryz.prog 111 := ⟨en111⟩
instance ien112 : EnC Tryz.prog 112 := ⟨en112⟩
instance ien115 : EnC Tryz.prog 115 := ⟨en115⟩
instance ien116 : EnC Tryz.prog 116 := ⟨en116⟩
instance ien117 : EnC Tryz.prog 117 := ⟨en117⟩
instance ien118 : EnC Tryz.prog 118 := ⟨en118⟩
instance ien123 : EnC Tryz.prog 123 := ⟨en123⟩
instance ien124 : EnC Tryz.prog 124 := ⟨en124⟩
instance ien125 : EnC Tryz.prog 125 := ⟨en125⟩
instance ien126 : EnC Tryz.prog 126 := ⟨en126⟩
instance ien127 : EnC Tryz.prog 127 := ⟨en127⟩
instance ien128 : EnC Tryz.prog 128 := ⟨en128⟩
instance ien129 : EnC Tryz.prog 129 := ⟨en129⟩
instance ien130 : EnC Tryz.prog 130 := ⟨en130⟩
instance ien131 : EnC Tryz.prog 131 := ⟨en131⟩
instance ien132 : EnC Tryz.prog 132 := ⟨en132⟩
instance ien134 : EnC Tryz.prog 134 := ⟨en134⟩
instance ien139 : EnC Tryz.prog 139 := ⟨en139⟩
instance ien141 : EnC Tryz.prog 141 := ⟨en141⟩
instance ien142 : EnC Tryz.prog 142 := ⟨en142⟩
instance ien143 : EnC Tryz.prog 143 := ⟨en143⟩
instance ien144 : EnC Tryz.prog 144 := ⟨en144⟩
instance ien145 : EnC Tryz.prog 145 := ⟨en145⟩
instance ien146 : EnC Tryz.prog 146 := ⟨en146⟩
instance ien147 : EnC Tryz.prog 147 := ⟨en147⟩
instance ien148 : EnC Tryz.prog 148 := ⟨en148⟩
instance ien149 : EnC Tryz.prog 149 := ⟨en149⟩
instance ien152 : EnC Tryz.prog 152 := ⟨en152⟩
instance ien158 : EnC Tryz.prog 158 := ⟨en158⟩
instance ien159 : EnC Tryz.prog 159 := ⟨en159⟩
instance ien160 : EnC Tryz.prog 160 := ⟨en160⟩
instance ien161 : EnC Tryz.prog 161 := ⟨en161⟩
instance ien169 : EnC Tryz.prog 169 := ⟨en169⟩
instance ien170 : EnC Tryz.prog 170 := ⟨en170⟩
instance ien171 : EnC Tryz.prog 171 := ⟨en171⟩
instance ien172 : EnC Tryz.prog 172 := ⟨en172⟩
instance ien173 : EnC Tryz.prog 173 := ⟨en173⟩
instance ien174 : EnC Tryz.prog 174 := ⟨en174⟩
instance ien175 : EnC Tryz.prog 175 := ⟨en175⟩
instance ien176 : EnC Tryz.prog 176 := ⟨en176⟩
instance ien177 : EnC Tryz.prog 177 := ⟨en177⟩
instance ien195 : EnC Tryz.prog 195 := ⟨en195⟩
instance ien196 : EnC Tryz.prog 196 := ⟨en196⟩
instance ien197 : EnC Tryz.prog 197 := ⟨en197⟩
instance ien198 : EnC Tryz.prog 198 := ⟨en198⟩
instance ien199 : EnC Tryz.prog 199 := ⟨en199⟩
instance ien200 : EnC Tryz.prog 200 := ⟨en200⟩
instance ien201 : EnC Tryz.prog 201 := ⟨en201⟩
instance ien202 : EnC Tryz.prog 202 := ⟨en202⟩
instance ien203 : EnC Tryz.prog 203 := ⟨en203⟩
instance ien214 : EnC Tryz.prog 214 := ⟨en214⟩
instance ien215 : EnC Tryz.prog 215 := ⟨en215⟩
instance ien216 : EnC Tryz.prog 216 := ⟨en216⟩
instance ien217 : EnC Tryz.prog 217 := ⟨en217⟩
instance ien218 : EnC Tryz.prog 218 := ⟨en218⟩
instance ien223 : EnC Tryz.prog 223 := ⟨en223⟩
instance ien224 : EnC Tryz.prog 224 := ⟨en224⟩
instance ien225 : EnC Tryz.prog 225 := ⟨en225⟩
instance ienl_encP : EnL cY 2 := ⟨dI⟩
instance iun3 : UnC Tryz.prog 3 (.int .i64) := ⟨Tryz.underlying3⟩
instance iun5 : UnC Tryz.prog 5 (.int .u8) := ⟨Tryz.underlying5⟩
instance iun9 : UnC Tryz.prog 9 .string := ⟨Tryz.underlying9⟩
instance iun22 : UnC Tryz.prog 22 (.slice 5) := ⟨Tryz.underlying22⟩
instance iun23 : UnC Tryz.prog 23 (.slice 42) := ⟨Tryz.underlying23⟩
instance iun30 : UnC Tryz.prog 30 (.slice 3) := ⟨Tryz.underlying30⟩
instance iun43 : UnC Tryz.prog 43 (.slice 27) := ⟨Tryz.underlying43⟩
instance iun47 : UnC Tryz.prog 47 (.slice 9) := ⟨Tryz.underlying47⟩
instance iun226 : UnC Tryz.prog 226 (.slice 43) := ⟨Tryz.underlying226⟩
instance iun231 : UnC Tryz.prog 231 (.slice 30) := ⟨Tryz.underlying231⟩
theorem mY (gr : Nat) (rA : Option Addr) (rc : Nat) (rl : List UInt8) (rq : Nat) (n : Int) (w : World) (hrA : Rd w rA (rl.map byteV)) (hro : Off rA (rl.map byteV) [some gr]) (hrl : rl.length <= 2000) (hM : Mem w w [some gr] [[⟨.slice (bl gr) 1 1, 131, 2, 1, [.slice rA rl.length rc, I ((rq : Nat) : Int)]⟩]]) (hrq : rq <= 1000000000) :
  aR Tryz.prog 58 [.pointer (ofs (bl gr) 0), I n] w (λ v w1 => ∃ (k : Int), v = I k /\ (0 <= k /\ (k < n \/ k = 0)) /\ Mem w w1 [some gr] [[⟨.slice (bl gr) 1 1, 131, 2, 1, [.slice rA rl.length rc, I ((rq + 1 : Nat) : Int)]⟩]]) := by
 refine aR.n1 Tryz.func58 rfl Tryz.results58 Tryz.ntmps58 rfl ?_
 refine ov 11 [0] (a := bL (rq + 1)) (b := ?_)
 refine Sb 2 [] 0 λ h0 c0 => ?_
 refine pp 7 [] 17 (λ g17 => ?_) (λ g17 => ?_)
 refine E1 14 [] (I 0) ?_
 exact ⟨0, (by first | rfl | exact sl_congr t8 | (simp; done)), ⟨t19, .inr rfl⟩, (c0.pk [0])⟩
 refine cd 8 [0] (λ c24 => ?_) (λ c24 => ?_)
 refine E1 5 [] (I 0) ?_
 exact ⟨0, (by first | rfl | exact sl_congr t8 | (simp; done)), ⟨t19, .inr rfl⟩, (c0.pk [0])⟩
 refine ov 7 [0] (s := Vi ((rq : Nat) : Int)) (a := by exact cv (Ru.congr (Ru.sub rfl rfl t1) (I_congr t1)) rfl) (b := ?_)
 refine cd 13 [0] (λ c36 => ?_) (λ c36 => ?_)
 have hu2 := u8_le (rl[rq])
 have d0 : rq < rl.length := t3
 refine ov 7 [0] (a := cG d0 (hrA.atR c0 hro)) (b := ?_)
 refine ov 0 [] (a := eT d0 (hrA.atR c0 hro)) (b := ?_)
 refine ov 0 [] (a := kcv) (b := ?_)
 refine ov 1 [] (a := aEz) (b := ?_)
 refine E1 3 [] (I (((rl[rq]'d0).toNat : Int) % n)) ?_
 have hZ := (c0.pk [0])
 exact ⟨_, (by first | rfl | exact sl_congr t8 | (simp; done)), ⟨Int.emod_nonneg _ t1, .inl (Int.emod_lt_of_pos _ t1)⟩, hZ⟩
 have f0 := Nat.mod_lt rq (show 0 < rl.length by omega)
 have g0 := Nat.mod_lt (rq * 7 + 3) (show 0 < rl.length by omega)
 have hu0 := u8_le (rl[rq % rl.length])
 have hu1 := u8_le (rl[(rq * 7 + 3) % rl.length])
 obtain ⟨dv, hdq, hdv⟩ : ∃ dv : Nat, dv = rq / rl.length /\ dv <= rq := ⟨_, rfl, Nat.div_le_self _ _⟩
 refine dr 2 [] ?_
 refine qv 10 [0, 0] (a := by exact λ _ hw2 => kremN (rq % rl.length)) (b := ?_)
 have a0 : (rq % rl.length) < rl.length := t3
 refine qv 0 [] (a := by exact λ _ hw2 => cG a0 (hrA.atR hw2 hro)) (b := ?_)
 refine qv 0 [] (a := by exact λ _ hw2 => eT a0 (hrA.atR hw2 hro)) (b := ?_)
 refine qv 0 [] (a := by exact λ _ hw2 => kcv) (b := ?_)
 refine qv 0 [] (a := by exact λ _ hw2 => aAq ((rl[(rq % rl.length)]'a0).toNat * 131)) (b := ?_)
 refine qv 5 [0] (a := by exact λ _ hw2 => aAq (rq * 7)) (b := ?_)
 refine qv 0 [] (a := by exact λ _ hw2 => bL ((rq * 7) + 3)) (b := ?_)
 refine qv 5 [0] (a := by exact λ _ hw2 => kremN (((rq * 7) + 3) % rl.length)) (b := ?_)
 have b0 : (((rq * 7) + 3) % rl.length) < rl.length := t3
 refine qv 0 [] (a := by exact λ _ hw2 => cG b0 (hrA.atR hw2 hro)) (b := ?_)
 refine qv 0 [] (a := by exact λ _ hw2 => eT b0 (hrA.atR hw2 hro)) (b := ?_)
 refine qv 0 [] (a := by exact λ _ hw2 => kcv) (b := ?_)
 refine qv 0 [] (a := by exact λ _ hw2 => aAq ((rl[(((rq * 7) + 3) % rl.length)]'b0).toNat * 1117)) (b := ?_)
 refine qv 0 [] (a := by exact λ _ hw2 => bL (((rl[(rq % rl.length)]'a0).toNat * 131) + ((rl[(((rq * 7) + 3) % rl.length)]'b0).toNat * 1117))) (b := ?_)
 refine qv 1 [] (a := by exact λ _ hw2 => aAq (rq * 29)) (b := ?_)
 refine qv 0 [] (a := by exact λ _ hw2 => bL ((((rl[(rq % rl.length)]'a0).toNat * 131) + ((rl[(((rq * 7) + 3) % rl.length)]'b0).toNat * 1117)) + (rq * 29))) (b := ?_)
 refine qv 6 [0] (s := Vi ((dv : Nat) : Int)) (a := by exact λ w2 hw2 => cv (Ru.congr (Ru.quo rfl rfl t1) (I_congr (by rw [hdq]; simp))) rfl) (b := ?_)
 refine qv 0 [] (a := by exact λ _ hw2 => aAq (dv * 53)) (b := ?_)
 refine qv 0 [] (a := by exact λ _ hw2 => bL (((((rl[(rq % rl.length)]'a0).toNat * 131) + ((rl[(((rq * 7) + 3) % rl.length)]'b0).toNat * 1117)) + (rq * 29)) + (dv * 53))) (b := ?_)
 refine qn 1 [] λ i0 e0 => ?_
 refine ov 4 [] (a := aAr ((((((rl[(rq % rl.length)]'a0).toNat * 131) + ((rl[(((rq * 7) + 3) % rl.length)]'b0).toNat * 1117)) + (rq * 29)) + (dv * 53)) / 64)) (b := ?_)
 refine ov 0 [] (s := Vi (((((((((rl[(rq % rl.length)]'a0).toNat * 131) + ((rl[(((rq * 7) + 3) % rl.length)]'b0).toNat * 1117)) + (rq * 29)) + (dv * 53)) : Nat) : Int).toNat ^^^ ((((((((rl[(rq % rl.length)]'a0).toNat * 131) + ((rl[(((rq * 7) + 3) % rl.length)]'b0).toNat * 1117)) + (rq * 29)) + (dv * 53)) / 64) : Nat) : Int).toNat : Nat) : Int)) (a := by exact cv (Ru.xor rfl rfl t1 t1) rfl) (b := ?_)
 refine ov 6 [] (a := aEz) (b := ?_)
 refine E1 3 [] (I ((((((((((rl[(rq % rl.length)]'a0).toNat * 131) + ((rl[(((rq * 7) + 3) % rl.length)]'b0).toNat * 1117)) + (rq * 29)) + (dv * 53)) : Nat) : Int).toNat ^^^ ((((((((rl[(rq % rl.length)]'a0).toNat * 131) + ((rl[(((rq * 7) + 3) % rl.length)]'b0).toNat * 1117)) + (rq * 29)) + (dv * 53)) / 64) : Nat) : Int).toNat : Nat) : Int) % n)) ?_
 have hZ := (e0.pk [0])
 exact ⟨_, (by first | rfl | exact sl_congr t8 | (simp; done)), ⟨Int.emod_nonneg _ t1, .inl (Int.emod_lt_of_pos _ t1)⟩, hZ⟩
theorem aJq (gr : Nat) (rA : Option Addr) (rc : Nat) (rl : List UInt8) (rq : Nat) (A : Option Addr) (c : Nat) (l : List Str) (w : World) (hrA : Rd w rA (rl.map byteV)) (hro : Off rA (rl.map byteV) [some gr]) (hrl : rl.length <= 2000) (hA : Rd w A (l.map S)) (hoA : Off A (l.map S) [some gr]) (hM : Mem w w [some gr] [[⟨.slice (bl gr) 1 1, 131, 2, 1, [.slice rA rl.length rc, I ((rq : Nat) : Int)]⟩]]) (hrq : rq <= 999999990) (hl : 0 < l.length) (hm : l.length <= 1000) :
  aR Tryz.prog 59 [.pointer (ofs (bl gr) 0), .slice A l.length c] w (λ v w1 => ∃ (s : Str), v = S s /\ (s ∈ l) /\ Mem w w1 [some gr] [[⟨.slice (bl gr) 1 1, 131, 2, 1, [.slice rA rl.length rc, I ((rq + 1 : Nat) : Int)]⟩]]) := by
 refine aR.n1 Tryz.func59 rfl Tryz.results59 Tryz.ntmps59 rfl ?_
 refine cq 10 [] (b := mY gr rA rc rl rq _ w (hrA.atR hM hro) hro hrl (hM.fp [0] rfl rfl) q0) (c := ?_)
 rintro _ f0 ⟨c0, rfl, e0, d0⟩
 have a0 := hM.cl 1 d0
 have hkk := e0
 have b0 : c0.toNat < l.length := t3
 refine ov 0 [] (a := cG b0 (hA.atR a0 hoA)) (b := ?_)
 refine ov 0 [] (a := eT b0 (hA.atR a0 hoA)) (b := ?_)
 refine E1 3 [] (S (l[c0.toNat]'b0)) ?_
 have hZ := (a0.pk [0])
 exact ⟨_, (by first | rfl | exact sl_congr t8 | (simp; done)), aC _, hZ⟩
theorem one_fn (gr : Nat) (rA : Option Addr) (rc : Nat) (rl : List UInt8) (rq : Nat) (A : Option Addr) (c : Nat) (l : List Int) (w : World) (hrA : Rd w rA (rl.map byteV)) (hro : Off rA (rl.map byteV) [some gr]) (hrl : rl.length <= 2000) (hA : Rd w A (l.map I)) (hoA : Off A (l.map I) [some gr]) (hM : Mem w w [some gr] [[⟨.slice (bl gr) 1 1, 131, 2, 1, [.slice rA rl.length rc, I ((rq : Nat) : Int)]⟩]]) (hrq : rq <= 999999990) (hl : 0 < l.length) (hm : l.length <= 1000) :
  aR Tryz.prog 56 [.pointer (ofs (bl gr) 0), .slice A l.length c] w (λ v w1 => ∃ (k : Int), v = I k /\ (k ∈ l) /\ Mem w w1 [some gr] [[⟨.slice (bl gr) 1 1, 131, 2, 1, [.slice rA rl.length rc, I ((rq + 1 : Nat) : Int)]⟩]]) := by
 refine aR.n1 Tryz.func56 rfl Tryz.results56 Tryz.ntmps56 rfl ?_
 refine cq 10 [] (b := mY gr rA rc rl rq _ w (hrA.atR hM hro) hro hrl (hM.fp [0] rfl rfl) q0) (c := ?_)
 rintro _ f0 ⟨c0, rfl, e0, d0⟩
 have a0 := hM.cl 1 d0
 have hkk := e0
 have b0 : c0.toNat < l.length := t3
 refine ov 0 [] (a := cG b0 (hA.atR a0 hoA)) (b := ?_)
 refine ov 0 [] (a := eT b0 (hA.atR a0 hoA)) (b := ?_)
 refine E1 3 [] (I (l[c0.toNat]'b0)) ?_
 have hZ := (a0.pk [0])
 exact ⟨_, (by first | rfl | exact sl_congr t8 | (simp; done)), aC _, hZ⟩
theorem aCl (A : Option Addr) (c : Nat) (l : List UInt8) (w : World) (hA : Rd w A (l.map byteV)) (hl : l.length <= 1048576) (hc : l.length <= c) :
  aR Tryz.prog 55 [.slice A l.length c] w (λ v w1 => ∃ (gr : Nat) (l1 : List UInt8), v = .pointer (ofs (bl gr) 0) /\ (l1 = l \/ l1 = l.take 2000) /\ (l1.length <= 2000) /\ Mem w w1 [] [[⟨.slice (bl gr) 1 1, 131, 2, 1, [.slice A l1.length c, I ((0 : Nat) : Int)]⟩]]) := by
 have hM : Mem w w [] [] := Mem.refl
 refine aR.n1 Tryz.func55 rfl Tryz.results55 Tryz.ntmps55 rfl ?_
 refine cd 11 [] (λ c5 => ?_) (λ c5 => ?_)
 refine ov 2 [] (s := Vl A (l.take 2000).length c) (a := by exact cv (Ru.congr (Ru.lsliceTo (h := 2000) Tryz.underlying22 el5 rfl rfl t1 t1) (sl_congr t13)) rfl) (b := ?_)
 refine Bx 6 [] λ d0 a0 c0 b0 => ?_
 refine E1 3 [] (.pointer (ofs (bl a0) 0)) ?_
 exact ⟨a0, l.take 2000, (by first | rfl | exact sl_congr t8 | (simp; done)), (by first | exact .inl rfl | exact .inr rfl), t13, (b0.pk [0])⟩
 refine Bx 5 [] λ d0 a0 c0 b0 => ?_
 refine E1 3 [] (.pointer (ofs (bl a0) 0)) ?_
 exact ⟨a0, l, (by first | rfl | exact sl_congr t8 | (simp; done)), (.inl rfl), t1, (b0.pk [0])⟩
theorem lY (a : Int) (b : Int) (c : Int) (w : World) :
  aR Tryz.prog 47 [I a, I b, I c] w (λ v w1 => v = .bool (decide (b <= a) && decide (a <= c)) /\ Mem w w1 [] []) := by
 have hM : Mem w w [] [] := Mem.refl
 refine aR.n1 Tryz.func47 rfl Tryz.results47 Tryz.ntmps47 rfl ?_
 refine pp 10 [] 10 (λ g10 => ?_) (λ g10 => ?_)
 refine E1 7 [] (.bool (decide (a <= c))) ?_
 exact ⟨(by simp [g10]), (Mem.none hM)⟩
 refine E1 7 [] (.bool false) ?_
 exact ⟨(by simp [g10]), (Mem.none hM)⟩
theorem aEu (k : Int) (w : World) :
  aR Tryz.prog 72 [I k] w (λ v w1 => v = .bool (nD k) /\ Mem w w1 [] []) := by
 have hM : Mem w w [] [] := Mem.refl
 refine aR.n1 Tryz.func72 rfl Tryz.results72 Tryz.ntmps72 rfl ?_
 refine pp 9 [] 5 (λ g5 => ?_) (λ g5 => ?_)
 refine E1 6 [] (.bool (decide (k <= 99))) ?_
 exact ⟨(by simp [nD, g5]), (Mem.none hM)⟩
 refine E1 6 [] (.bool false) ?_
 exact ⟨(by simp [nD, g5]), (Mem.none hM)⟩
theorem pH (k : Int) (w : World) :
  aR Tryz.prog 73 [I k] w (λ v w1 => v = .bool (fA k) /\ Mem w w1 [] []) := by
 have hM : Mem w w [] [] := Mem.refl
 refine aR.n1 Tryz.func73 rfl Tryz.results73 Tryz.ntmps73 rfl ?_
 refine pp 9 [] 5 (λ g5 => ?_) (λ g5 => ?_)
 refine E1 6 [] (.bool (decide (k <= 1000))) ?_
 exact ⟨(by simp [fA, g5]), (Mem.none hM)⟩
 refine E1 6 [] (.bool false) ?_
 exact ⟨(by simp [fA, g5]), (Mem.none hM)⟩
theorem lP (A : Option Addr) (c : Nat) (l : List Int) (w : World) (hA : Rd w A (l.map I)) (hl : l.length <= 1048576) :
  aR Tryz.prog 97 [.slice A l.length c] w (λ v w1 => v = .bool (bR l) /\ Mem w w1 [] []) := by
 have hM : Mem w w [] [] := Mem.refl
 refine aR.n1 Tryz.func97 rfl Tryz.results97 Tryz.ntmps97 rfl ?_
 refine lp1 12 [] (λ (k : Nat) => ([(7, Vi ((k : Nat) : Int))] : List (Nat × SV))) (λ k => (k <= l.length) /\ ((l.take k).all nD = true) /\ (asc (l.take k) = true)) (λ k => []) (λ k => l.length - k) [0, 5, 6] [] [] 0 (λ k σ g0 hI c0 => ?_) (h0 := ⟨(bI _), t15, (by (try dsimp only); simp [asc])⟩)
 obtain ⟨i0, d0, e0⟩ := hI
 refine cd 5 [] (λ c8 => ?_) (λ c8 => ?_)
 have a0 : k < l.length := t3
 refine ov 6 [] (a := cG a0 (hA.at c0)) (b := ?_)
 refine ov 0 [] (a := eT a0 (hA.at c0)) (b := ?_)
 refine cp 7 [] (b := aEu _ g0 ) (c := λ j0 b0 => ?_)
 refine cn 2 [] (λ c14 => ?_) (λ c14 => ?_)
 refine E1 5 [] (.bool false) ?_
 exact ⟨(by rw [aIn a0 c14]), (Mem.none b0)⟩
 refine pp 6 [] 17 (λ g17 => ?_) (λ g17 => ?_)
 refine ov 2 [] (a := eV) (b := ?_)
 have f0 : k - 1 < l.length := t3
 refine ov 0 [] (a := cG f0 (hA.at b0)) (b := ?_)
 refine ov 0 [] (a := eT f0 (hA.at b0)) (b := ?_)
 refine cd 4 [] (λ c25 => ?_) (λ c25 => ?_)
 refine E1 5 [] (.bool false) ?_
 exact ⟨(by rw [zI t1 a0 t1]), (Mem.none b0)⟩
 refine ov 2 [] (a := bL (k + 1)) (b := ?_)
 exact le1 2 [] (k + 1) [] (h := by exact ⟨t7, (pW d0 a0 c14), (xK e0 a0 (λ h0 => by omega))⟩)
 refine ov 12 [] (a := bL (k + 1)) (b := ?_)
 exact le1 2 [] (k + 1) [] (h := by exact ⟨t7, (pW d0 a0 c14), (xK e0 a0 (λ h0 => by omega))⟩)
 refine E1 6 [] (.bool true) ?_
 exact ⟨(by rw [aIo d0 e0 t1]), (Mem.none c0)⟩
theorem oN (A : Option Addr) (c : Nat) (l : List Int) (lo : Int) (hi : Int) (w : World) (hA : Rd w A (l.map I)) (hl : l.length <= 1048576) :
  aR Tryz.prog 134 [.slice A l.length c, I lo, I hi] w (λ v w1 => v = .bool (l.all (λ a => decide (lo <= a) && decide (a <= hi))) /\ Mem w w1 [] []) := by
 have hM : Mem w w [] [] := Mem.refl
 refine aR.n1 Tryz.func134 rfl Tryz.results134 Tryz.ntmps134 rfl ?_
 refine lp1 10 [] (λ (k : Nat) => ([(7, Vi ((k : Nat) : Int))] : List (Nat × SV))) (λ k => (k <= l.length) /\ ((l.take k).all (λ a => decide (lo <= a) && decide (a <= hi)) = true)) (λ k => []) (λ k => l.length - k) [0, 1, 2] [] [] 0 (λ k σ e0 hI b0 => ?_) (h0 := ⟨(bI _), t15⟩)
 obtain ⟨f0, c0⟩ := hI
 refine cd 8 [] (λ c11 => ?_) (λ c11 => ?_)
 have a0 : k < l.length := t3
 refine ov 7 [] (a := cG a0 (hA.at b0)) (b := ?_)
 refine ov 0 [] (a := eT a0 (hA.at b0)) (b := ?_)
 refine cp 2 [] (b := lY _ _ _ e0 ) (c := λ g0 d0 => ?_)
 refine cn 2 [] (λ c21 => ?_) (λ c21 => ?_)
 refine E1 5 [] (.bool false) ?_
 exact ⟨(by rw [xI (p := λ a => decide (lo <= a) && decide (a <= hi)) a0 c21]), (Mem.none d0)⟩
 refine ov 3 [] (a := bL (k + 1)) (b := ?_)
 exact le1 2 [] (k + 1) [] (h := by exact ⟨t7, (pW c0 a0 c21)⟩)
 refine E1 6 [] (.bool true) ?_
 exact ⟨(by rw [wL c0 t1]), (Mem.none b0)⟩
theorem uM (A : Option Addr) (c : Nat) (l : List Int) (w : World) (hA : Rd w A (l.map I)) (hl : l.length <= 1048576) :
  aR Tryz.prog 123 [.slice A l.length c] w (λ v w1 => v = .bool (bR l) /\ Mem w w1 [] []) := by
 have hM : Mem w w [] [] := Mem.refl
 refine aR.n1 Tryz.func123 rfl Tryz.results123 Tryz.ntmps123 rfl ?_
 refine lp1 10 [] (λ (k : Nat) => ([(3, Vi ((k : Nat) : Int))] : List (Nat × SV))) (λ k => (1 <= k /\ k <= l.length + 1) /\ (asc (l.take k) = true)) (λ k => []) (λ k => l.length + 1 - k) [0] [] [] 1 (λ k σ g0 hI f0 => ?_) (h0 := ⟨t7, (by (try dsimp only); cases l with | nil => rfl | cons a l => simp [asc])⟩)
 obtain ⟨i0, b0⟩ := hI
 refine cd 8 [] (λ c7 => ?_) (λ c7 => ?_)
 refine dr 4 [] ?_
 have a0 : k < l.length := t3
 refine qv 2 [] (a := by exact λ _ hw2 => cG a0 (hA.at hw2)) (b := ?_)
 refine qv 0 [] (a := by exact λ _ hw2 => eT a0 (hA.at hw2)) (b := ?_)
 refine qv 2 [] (a := by exact λ _ hw2 => eV) (b := ?_)
 have c0 : k - 1 < l.length := t3
 refine qv 0 [] (a := by exact λ _ hw2 => cG c0 (hA.at hw2)) (b := ?_)
 refine qv 0 [] (a := by exact λ _ hw2 => eT c0 (hA.at hw2)) (b := ?_)
 refine qn 1 [] λ j0 d0 => ?_
 refine cd 0 [] (λ c19 => ?_) (λ c19 => ?_)
 refine E1 5 [] (.bool false) ?_
 exact ⟨(by rw [zI t1 a0 t1]), (Mem.none d0)⟩
 refine ov 3 [] (a := bL (k + 1)) (b := ?_)
 exact le1 2 [] (k + 1) [] (h := by exact ⟨t7, (xK b0 a0 (λ h0 => by omega))⟩)
 refine cp 4 [] (b := oN _ _ _ _ _ g0 (hA.at f0) q0) (c := λ k0 e0 => ?_)
 refine E1 3 [] (.bool (l.all (λ a => decide (0 <= a) && decide (a <= 99)))) ?_
 exact ⟨(by rw [bR, show asc l = true from by rwa [qO t1] at b0, Bool.and_true]; rfl), (Mem.none e0)⟩
theorem wQ (A : Option Addr) (c : Nat) (l : List Int) (n : Int) (w : World) (hA : Rd w A (l.map I)) (hl : l.length <= 1048576) :
  aR Tryz.prog 92 [.slice A l.length c, I n] w (λ v w1 => v = .bool (decide (n ∈ l)) /\ Mem w w1 [] []) := by
 have hM : Mem w w [] [] := Mem.refl
 refine aR.n1 Tryz.func92 rfl Tryz.results92 Tryz.ntmps92 rfl ?_
 refine lp1 10 [] (λ (k : Nat) => ([(5, Vi ((k : Nat) : Int))] : List (Nat × SV))) (λ k => (k <= l.length) /\ (∀ x ∈ l.take k, x ≠ n)) (λ k => []) (λ k => l.length - k) [0, 1] [] [] 0 (λ k σ e0 hI a0 => ?_) (h0 := ⟨(bI _), t15⟩)
 obtain ⟨d0, c0⟩ := hI
 refine cd 8 [] (λ c9 => ?_) (λ c9 => ?_)
 have b0 : k < l.length := t3
 refine ov 7 [] (a := cG b0 (hA.at a0)) (b := ?_)
 refine ov 0 [] (a := eT b0 (hA.at a0)) (b := ?_)
 refine cd 3 [] (λ c17 => ?_) (λ c17 => ?_)
 refine E1 5 [] (.bool true) ?_
 exact ⟨(by rw [decide_eq_true (by rw [<- c17]; exact aC b0)]), (Mem.none a0)⟩
 refine ov 3 [] (a := bL (k + 1)) (b := ?_)
 exact le1 2 [] (k + 1) [] (h := by exact ⟨t7, (yL c0 b0 c17)⟩)
 refine E1 6 [] (.bool false) ?_
 exact ⟨(by rw [mem_end c0 t1]), (Mem.none a0)⟩
theorem vN (A : Option Addr) (c : Nat) (l : List Int) (k : Int) (w : World) (hA : Rd w A (l.map I)) (hl : l.length <= 1048576) :
  aR Tryz.prog 160 [.slice A l.length c, I k] w (λ v w1 => v = I (fG l k : Int) /\ Mem w w1 [] []) := by
 have hM : Mem w w [] [] := Mem.refl
 refine aR.n1 Tryz.func160 rfl Tryz.results160 Tryz.ntmps160 rfl ?_
 refine lp1 10 [] (λ (n : Nat) => ([(5, Vi ((n : Nat) : Int))] : List (Nat × SV))) (λ n => (n <= fG l k)) (λ n => []) (λ n => l.length - n) [0, 1] [] [] 0 (λ n σ d0 hI b0 => ?_) (h0 := (bI _))
 have c0 := hI
 refine pp 8 [] 10 (λ g10 => ?_) (λ g10 => ?_)
 have a0 : n < l.length := t3
 refine ov 2 [] (a := cG a0 (hA.at b0)) (b := ?_)
 refine ov 0 [] (a := eT a0 (hA.at b0)) (b := ?_)
 refine cd 4 [] (λ c17 => ?_) (λ c17 => ?_)
 refine ov 4 [] (a := bL (n + 1)) (b := ?_)
 exact le1 2 [] (n + 1) [] (h := by exact (aHc c0 a0 c17))
 refine E1 7 [] (I ((n : Nat) : Int)) ?_
 exact ⟨(I_congr (by rw [aAe c0 (by first | exact .inl t1 | exact .inr ⟨a0, t1⟩)])), (Mem.none b0)⟩
 refine E1 16 [] (I ((n : Nat) : Int)) ?_
 exact ⟨(I_congr (by rw [aAe c0 (by first | exact .inl t1 | exact .inr ⟨a0, t1⟩)])), (Mem.none b0)⟩
theorem aGn (A : Option Addr) (c : Nat) (l : List Int) (k : Int) (w : World) (hA : Rd w A (l.map I)) (hl : l.length <= 1048576) :
  aR Tryz.prog 159 [.slice A l.length c, I k] w (λ v w1 => v = I (gW l k : Int) /\ Mem w w1 [] []) := by
 have hM : Mem w w [] [] := Mem.refl
 refine aR.n1 Tryz.func159 rfl Tryz.results159 Tryz.ntmps159 rfl ?_
 refine lp1 10 [] (λ (n : Nat) => ([(5, Vi ((n : Nat) : Int))] : List (Nat × SV))) (λ n => (n <= gW l k)) (λ n => []) (λ n => l.length - n) [0, 1] [] [] 0 (λ n σ d0 hI b0 => ?_) (h0 := (bI _))
 have c0 := hI
 refine pp 8 [] 10 (λ g10 => ?_) (λ g10 => ?_)
 have a0 : n < l.length := t3
 refine ov 2 [] (a := cG a0 (hA.at b0)) (b := ?_)
 refine ov 0 [] (a := eT a0 (hA.at b0)) (b := ?_)
 refine cd 4 [] (λ c17 => ?_) (λ c17 => ?_)
 refine ov 4 [] (a := bL (n + 1)) (b := ?_)
 exact le1 2 [] (n + 1) [] (h := by exact (aMe c0 a0 c17))
 refine E1 7 [] (I ((n : Nat) : Int)) ?_
 exact ⟨(I_congr (by rw [aGr c0 (by first | exact .inl t1 | exact .inr ⟨a0, t1⟩)])), (Mem.none b0)⟩
 refine E1 16 [] (I ((n : Nat) : Int)) ?_
 exact ⟨(I_congr (by rw [aGr c0 (by first | exact .inl t1 | exact .inr ⟨a0, t1⟩)])), (Mem.none b0)⟩
theorem kB (A : Option Addr) (c : Nat) (l : List PairT) (w : World) (hA : Rd w A (l.flatMap cY)) (hl : l.length <= 1048576) :
  aR Tryz.prog 106 [.slice A l.length c] w (λ v w1 => ∃ (A1 : Option Addr) (c1 : Nat), v = .slice A1 (bG l).length c1 /\ Mem w w1 [] [oI A1 c1 (bG l)]) := by
 have hM : Mem w w [] [] := Mem.refl
 refine aR.n1 Tryz.func106 rfl Tryz.results106 Tryz.ntmps106 rfl ?_
 refine Lt 6 [] (([]).map I) (λ t0 d0 o0 f0 => ?_)
 have k0 : ([] : List Int) = bG (l.take 0) := t2
 have m0 := f0.reM 0 k0 (f := I)
 refine lp3 8 [] (λ (k : Nat) (A2 : Option Addr) (c2 : Nat) => ([(3, Vl A2 (bG (l.take k)).length c2), (4, Vi ((k : Nat) : Int))] : List (Nat × SV))) (λ k A2 c2 => (k <= l.length)) (λ k A2 c2 => [oI A2 c2 (bG (l.take k))]) (λ k A2 c2 => l.length - k) [0] [0] [] 0 (bl d0) 0 (λ k A2 c2 σ w0 hI a0 => ?_) (h0 := (bI _))
 have s0 := hI
 have r0 := (a0.cap 0 rfl).1
 refine cd 8 [] (λ c9 => ?_) (λ c9 => ?_)
 have b0 : k < l.length := t3
 refine ov 7 [] (a := cJ b0 (hA.at a0)) (b := ?_)
 refine ov 0 [] (a := fZ b0 (hA.at a0)) (b := ?_)
 refine ov 0 [] (a := gF b0 (hA.at a0)) (b := ?_)
 refine Lt 0 [] (([(l[k]'b0).key]).map I) (λ u0 l0 p0 g0 => ?_)
 refine aM 0 [] 1 (g0.rd 0 rfl) (λ v0 c0 e0 q0 i0 => ?_)
 refine ov 4 [] (a := bL (k + 1)) (b := ?_)
 have n0 := i0.rM 1 (bG (l.take (k + 1)) : List Int) (e := (yK b0))
 exact le3 2 [] (k + 1) c0 e0 [1] (h := t9)
 refine E1 7 [] (.slice A2 (bG (l.take k)).length c2) ?_
 have j0 := a0.rM 0 (bG l : List Int) (e := by rw [qO t1])
 exact ⟨A2, c2, (by first | rfl | exact sl_congr t8 | (simp; done)), (j0.pk [0])⟩
theorem pI (A : Option Addr) (c : Nat) (l : List PairT) (w : World) (hA : Rd w A (l.flatMap cY)) (hl : l.length <= 1048576) :
  aR Tryz.prog 76 [.slice A l.length c] w (λ v w1 => ∃ (A1 : Option Addr) (c1 : Nat), v = .slice A1 (bG l).length c1 /\ Mem w w1 [] [oI A1 c1 (bG l)]) := by
 have hM : Mem w w [] [] := Mem.refl
 refine aR.n1 Tryz.func76 rfl Tryz.results76 Tryz.ntmps76 rfl ?_
 refine go 8 [] ?_
 refine O.mmake (k := l.length) (sz := 1) (xs := (List.replicate l.length (0 : Int)).map I) hM rfl Tryz.underlying30 el3 rfl rfl rfl rfl t1 t1 (aKl rfl) (λ n0 b0 s0 i0 => ?_)
 have d0 : (List.replicate l.length (0 : Int) : List Int) = bG (l.take 0) ++ List.replicate (l.length - 0) (0 : Int) := aAk
 have q0 : Mem w n0 [] [[⟨.slice (bl b0) l.length l.length, 3, 1, l.length, (bG (l.take 0) ++ List.replicate (l.length - 0) (0 : Int)).map I⟩]] := i0.relen 0 (n' := l.length) (xs' := (bG (l.take 0) ++ List.replicate (l.length - 0) (0 : Int)).map I) rfl (by first | rfl | exact congrArg List.length d0 | (have hqq := congrArg List.length d0; first | omega | (simp at hqq ⊢; omega)) | (simp; done) | (simp; omega)) (congrArg (λ z_ => z_.map I) d0) rfl
 refine lp1 10 [] (λ (k : Nat) => ([(3, Vl (bl b0) l.length l.length), (11, Vi ((k : Nat) : Int))] : List (Nat × SV))) (λ k => (k <= l.length)) (λ k => [[⟨.slice (bl b0) l.length l.length, 3, 1, l.length, (bG (l.take k) ++ List.replicate (l.length - k) (0 : Int)).map I⟩]]) (λ k => l.length - k) [9, 10] [0] [] 0 (λ k σ x0 hI c0 => ?_) (h0 := (bI _))
 have m0 := hI
 have u0 := (c0.cap 0 rfl).1
 refine cd 5 [] (λ c12 => ?_) (λ c12 => ?_)
 have a0 : k < l.length := t3
 refine ov 6 [] (a := cJ a0 (hA.at c0)) (b := ?_)
 refine ov 0 [] (a := gL a0 (hA.at c0)) (b := ?_)
 refine Al 0 [] λ v0 g0 t0 p0 => ?_
 refine Sb 1 [] 0 λ w0 j0 => ?_
 have f0 : k < (bG (l.take k) ++ List.replicate (l.length - k) (0 : Int)).length := (by rw [aEk m0]; exact a0)
 refine ov 6 [0] (a := cG f0 (j0.rd 1 rfl) (h0 := t1)) (b := ?_)
 refine sM 0 [] 1 f0 λ o0 k0 => ?_
 refine ov 2 [] (a := bL (k + 1)) (b := ?_)
 have e0 : ((bG (l.take k) ++ List.replicate (l.length - k) (0 : Int)).set k (l[k]'a0).key : List Int) = bG (l.take (k + 1)) ++ List.replicate (l.length - (k + 1)) (0 : Int) := (xW a0)
 have r0 : Mem w o0 [] [[⟨.slice (bl g0) 1 1, 27, 2, 1, [I (l[k]'a0).key, I (l[k]'a0).val]⟩], [⟨.slice (bl b0) l.length l.length, 3, 1, l.length, (bG (l.take (k + 1)) ++ List.replicate (l.length - (k + 1)) (0 : Int)).map I⟩]] := k0.relen 1 (n' := l.length) (xs' := (bG (l.take (k + 1)) ++ List.replicate (l.length - (k + 1)) (0 : Int)).map I) rfl (by first | rfl | exact congrArg List.length e0 | (have hqq := congrArg List.length e0; first | omega | (simp at hqq ⊢; omega)) | (simp; done) | (simp; omega)) (congrArg (λ z_ => z_.map I) e0) rfl
 exact le1 2 [] (k + 1) [1] (h := t9)
 refine E1 7 [] (.slice (bl b0) l.length l.length) ?_
 have l0 := c0.rM 0 (bG l : List Int) (e := (aEi t1))
 exact ⟨bl b0, l.length, (by first | rfl | exact sl_congr t8 | (simp; done)), (l0.pk [0])⟩
theorem mM (A : Option Addr) (c : Nat) (l : List PairT) (w : World) (hA : Rd w A (l.flatMap cY)) (hl : l.length <= 1048576) :
  aR Tryz.prog 161 [.slice A l.length c] w (λ v w1 => ∃ (A1 : Option Addr) (c1 : Nat), v = .slice A1 l.length c1 /\ Mem w w1 [] [oP A1 c1 l]) := by
 have hM : Mem w w [] [] := Mem.refl
 refine aR.n1 Tryz.func161 rfl Tryz.results161 Tryz.ntmps161 rfl ?_
 refine Lt 6 [] (([]).flatMap cY) (λ h0 e0 f0 c0 => ?_)
 refine aF0 1 [] 0 (hA.at c0) (λ i0 a0 b0 g0 d0 => ?_)
 refine E1 3 [] (.slice a0 l.length b0) ?_
 exact ⟨a0, b0, (by first | rfl | exact sl_congr t8 | (simp; done)), (d0.pk [0])⟩
theorem cM (A : Option Addr) (c : Nat) (l : List Int) (w : World) (hA : Rd w A (l.map I)) (hl : l.length <= 1048576) :
  aR Tryz.prog 115 [.slice A l.length c] w (λ v w1 => ∃ (A1 : Option Addr) (c1 : Nat), v = .slice A1 l.length c1 /\ Mem w w1 [] [oI A1 c1 l]) := by
 have hM : Mem w w [] [] := Mem.refl
 refine aR.n1 Tryz.func115 rfl Tryz.results115 Tryz.ntmps115 rfl ?_
 refine Lt 6 [] (([]).map I) (λ h0 e0 f0 c0 => ?_)
 refine aM0 1 [] 0 (hA.at c0) (λ i0 a0 b0 g0 d0 => ?_)
 refine E1 3 [] (.slice a0 l.length b0) ?_
 exact ⟨a0, b0, (by first | rfl | exact sl_congr t8 | (simp; done)), (d0.pk [0])⟩
theorem mS (A : Option Addr) (c : Nat) (l : List PairT) (w : World) (hA : Rd w A (l.flatMap cY)) (hl : l.length <= 1048576) :
  aR Tryz.prog 79 [.slice A l.length c] w (λ v w1 => ∃ (A1 : Option Addr) (c1 : Nat), v = .slice A1 l.length c1 /\ Mem w w1 [] [oP A1 c1 l]) := by
 have hM : Mem w w [] [] := Mem.refl
 refine aR.n1 Tryz.func79 rfl Tryz.results79 Tryz.ntmps79 rfl ?_
 refine ov 8 [] (s := Vb A.isNone) (a := by exact cv (Ru.slnil Tryz.underlying43 rfl rfl) rfl) (b := ?_)
 refine cb 1 [] (λ c4 => ?_) (λ c4 => ?_)
 refine E1 5 [] (.slice none 0 0) ?_
 have hl0 := aEv dI t19 hA c4
 have e0 := Mem.addNil (e := 27) (sz := 2) hM
 have g0 : ([] : List PairT) = l := hl0.symm
 have f0 := e0.reF 0 g0 (f := cY)
 exact ⟨none, 0, (sl_congr (by rw [hl0]; rfl)), (f0.pk [0])⟩
 refine Lt 3 [] (([]).flatMap cY) (λ k0 h0 i0 c0 => ?_)
 refine aF0 1 [] 0 (hA.at c0) (λ l0 a0 b0 j0 d0 => ?_)
 refine E1 3 [] (.slice a0 l.length b0) ?_
 exact ⟨a0, b0, (by first | rfl | exact sl_congr t8 | (simp; done)), (d0.pk [0])⟩
theorem zO (A : Option Addr) (c : Nat) (l : List PairT) (i : Nat) (V : Option Addr) (vc : Nat) (vs : List PairT) (w : World) (hM : Mem w w [(Value.slice A l.length c).ownBlock, (Value.slice V vs.length vc).ownBlock] [oP A c l, oP V vc vs]) (hin : i <= l.length) (hl : l.length <= 1048576) (hm : 0 < vs.length) (hv : vs.length <= 1000) :
  aR Tryz.prog 80 [.slice A l.length c, I ((i : Nat) : Int), .slice V vs.length vc] w (λ v w1 => ∃ (A1 : Option Addr) (c1 : Nat), v = .slice A1 (l.take i ++ (vs ++ l.drop i)).length c1 /\ Mem w w1 [(Value.slice A l.length c).ownBlock, (Value.slice V vs.length vc).ownBlock] [oP A1 c1 (l.take i ++ (vs ++ l.drop i))]) := by
 have hXl : (l.flatMap cY).length = l.length * 2 := (kX dI l)
 have hVl : (vs.flatMap cY).length = vs.length * 2 := (kX dI vs)
 have hXt : (l.take i).flatMap cY = (l.flatMap cY).take (i * 2) := (oQ dI l i)
 have hXd : (l.drop i).flatMap cY = (l.flatMap cY).drop (i * 2) := (qV dI l i)
 have hXdl : ((l.drop i).flatMap cY).length = (l.length - i) * 2 := by rw [hXd, aI, hXl, Nat.sub_mul]
 have hXtl : ((l.take i).flatMap cY).length = i * 2 := by rw [hXt, aB, hXl]; omega
 have hres : (l.take i ++ (vs ++ l.drop i)).flatMap cY = (l.flatMap cY).take (i * 2) ++ (vs.flatMap cY ++ (l.flatMap cY).drop (i * 2)) := by rw [bD, bD, hXt, hXd]
 have hZl : (zer [.int .i64 0, .int .i64 0] (vs.length + l.length - i)).length = (vs.length + l.length - i) * 2 := by rw [kE]; rfl
 refine aR.n1 Tryz.func80 rfl Tryz.results80 Tryz.ntmps80 rfl ?_
 have C0 := hM.cap 0 rfl
 refine ov 8 [] (s := Vl (if c = i then A else ofs A (i * 2)) (l.drop i).length (c - i)) (a := by exact cv (Ru.congr (Ru.lsliceFrom (l := i) Tryz.underlying43 jA rfl rfl t1 t1) (sl_congr t6)) rfl) (b := ?_)
 refine cd 13 [] (λ c16 => ?_) (λ c16 => ?_)
 exfalso; omega
 refine cd 14 [] (λ c22 => ?_) (λ c22 => ?_)
 refine aF 4 [] 0 (hM.rd 1 rfl) (λ q0 f0 g0 t0 n0 => ?_)
 refine E1 3 [] (.slice f0 (l ++ vs).length g0) ?_
 have hMe : Mem w q0 [(Value.slice A l.length c).ownBlock, (Value.slice V vs.length vc).ownBlock] [oP f0 g0 (l.take i ++ (vs ++ l.drop i)), oP V vc vs] := n0.relen 0 (n' := (l.take i ++ (vs ++ l.drop i)).length) (xs' := (l.take i ++ (vs ++ l.drop i)).flatMap cY) rfl t13 (by congr 1; rw [aE t1, dK t1, cS]) rfl
 exact ⟨f0, g0, sl_congr t13, hMe.pick [0] t19 rfl⟩
 refine ov 6 [] (a := bL (l.length + vs.length)) (b := ?_)
 refine ov 1 [] (s := Vi ((c : Nat) : Int)) (a := by exact cv (Ru.bcap Tryz.underlying43 rfl) rfl) (b := ?_)
 refine cd 2 [] (λ c31 => ?_) (λ c31 => ?_)
 have D0 := hM.cap 0 rfl
 refine ov 4 [] (s := Vl A i c) (a := by exact cv (Ru.congr (v := .slice A i c) (v' := .slice A i c) (Ru.lsliceTo (h := i) Tryz.underlying43 jA rfl rfl t1 t1) (rfl)) rfl) (b := ?_)
 refine ov 2 [] (a := bL (l.length + vs.length)) (b := ?_)
 refine ov 1 [] (a := eV) (b := ?_)
 have hXt' := (nK (k := i) dI (hM.rd 0 rfl))
 refine O.mgrow (A := A) (c := c) (k := i) (m := vs.length + l.length - i) (sz := 2) (olds := (l.take i).flatMap cY) (k1 := l.length + vs.length) (xs1 := (l.take i).flatMap cY ++ zer [.int .i64 0, .int .i64 0] (vs.length + l.length - i)) (M' := λ a0 b0 => [[⟨.slice (bl a0) (l.length + vs.length) b0, 27, 2, l.length + vs.length, (l.take i).flatMap cY ++ zer [.int .i64 0, .int .i64 0] (vs.length + l.length - i)⟩], oP A c l, oP V vc vs]) hM rfl Tryz.underlying43 Tryz.underlying3 jA ⟨rfl, t19⟩ rfl rfl t1 rfl hXt' hXtl t1 t1 t1 t1 t1 rfl (λ _ _ => rfl) (λ G0 a0 b0 s0 u0 e0 => ?_)
 try dsimp only at e0
 have v0 := e0.cap 0 rfl
 refine ov 6 [] (s := Vl (if b0 = i then bl a0 else ofs (bl a0) (i * 2)) ((l.length + vs.length) - i) (b0 - i)) (a := by exact cv (Ru.lsliceFrom (l := i) Tryz.underlying43 jA rfl rfl t1 t1) rfl) (b := ?_)
 refine go 1 [] ?_
 refine O.mcopy (i := 0) (k := i * 2) (news := vs.flatMap cY) (xs' := spl ((l.take i).flatMap cY ++ zer [.int .i64 0, .int .i64 0] (vs.length + l.length - i)) (i * 2) (vs.flatMap cY)) e0 rfl rfl Tryz.underlying43 jA rfl rfl rfl rfl (λ h0 => if_neg t1) (e0.rd 2 rfl) (by rw [hVl]; congr 1; first | omega | (simp only [aI, aB]; omega)) (by rw [aA, hXtl, hZl, hVl, <- bM, <- bM]; exact bK _ t1) (jG (λ _ => rfl) _) rfl rfl (λ o0 (r0 : Mem w o0 [(Value.slice A l.length c).ownBlock, (Value.slice V vs.length vc).ownBlock] [[⟨.slice (bl a0) (l.length + vs.length) b0, 27, 2, l.length + vs.length, spl ((l.take i).flatMap cY ++ zer [.int .i64 0, .int .i64 0] (vs.length + l.length - i)) (i * 2) (vs.flatMap cY)⟩], oP A c l, oP V vc vs]) => ?_)
 refine any 2 [] 9 [1, 2] λ E0 c0 => ?_
 refine av [0, 1, 2] [] 3 (a := by exact λ _ hw2 => bL (i + vs.length)) (b := ?_)
 have w0 := c0.cap 0 rfl
 refine av [] [] 4 (s := Vl (if b0 = (i + vs.length) then bl a0 else ofs (bl a0) ((i + vs.length) * 2)) ((l.length + vs.length) - (i + vs.length)) (b0 - (i + vs.length))) (a := by exact λ w2 hw2 => cv (Ru.lsliceFrom (l := (i + vs.length)) Tryz.underlying43 jA rfl rfl t1 t1) rfl) (b := ?_)
 have x0 := c0.cap 1 rfl
 refine av [5, 6] [] 7 (s := Vl (if c = i then A else ofs A (i * 2)) (l.drop i).length (c - i)) (a := by exact λ w2 hw2 => cv (Ru.congr (Ru.lsliceFrom (l := i) Tryz.underlying43 jA rfl rfl t1 t1) (sl_congr t6)) rfl) (b := ?_)
 refine aO [] [] 8 ?_
 have hsl : (spl ((l.take i).flatMap cY ++ zer [.int .i64 0, .int .i64 0] (vs.length + l.length - i)) (i * 2) (vs.flatMap cY)).length = (l.length + vs.length) * 2 := by rw [kC (by rw [aA, hXtl, hZl, hVl, <- bM, <- bM]; exact bK _ t1), aA, hXtl, hZl, <- bM]; congr 1; omega
 have hcp := c0.cap 1 rfl
 refine O.mcopy (i := 0) (k := (i + vs.length) * 2) (news := (l.drop i).flatMap cY) (xs' := (l.take i ++ (vs ++ l.drop i)).flatMap cY) c0 rfl rfl Tryz.underlying43 jA rfl rfl rfl rfl (λ h0 => if_neg t1) (kY dI (c0.rd 1 rfl) hin t1) (by rw [hXdl]; congr 1; first | omega | (simp only [aI, aB]; omega)) (by rw [hXdl, hsl, <- bM]; exact bK _ t1) (jG (λ _ => rfl) _) (by rw [hres, hXd, hXt, bM, <- hVl]; exact xZ (by rw [hXl]; exact bK _ hin) (by rw [hZl, hVl, hXl, <- Nat.sub_mul, <- bM]; congr 1; omega)) rfl (λ j0 (l0 : Mem w j0 [(Value.slice A l.length c).ownBlock, (Value.slice V vs.length vc).ownBlock] [[⟨.slice (bl a0) (l.length + vs.length) b0, 27, 2, (l.length + vs.length), (l.take i ++ (vs ++ l.drop i)).flatMap cY⟩], oP A c l, oP V vc vs]) => ?_)
 refine os 0 [] [1, 2] ?_
 refine an [] [] ?_
 refine E1 6 [] (.slice (bl a0) (l.length + vs.length) b0) ?_
 have hMe : Mem w j0 [(Value.slice A l.length c).ownBlock, (Value.slice V vs.length vc).ownBlock] [oP (bl a0) b0 (l.take i ++ (vs ++ l.drop i)), oP A c l, oP V vc vs] := l0.relen 0 (n' := (l.take i ++ (vs ++ l.drop i)).length) (xs' := (l.take i ++ (vs ++ l.drop i)).flatMap cY) rfl t13 rfl rfl
 exact ⟨bl a0, b0, sl_congr t13, hMe.pick [0] t19 rfl⟩
 refine ov 6 [] (a := bL (l.length + vs.length)) (b := ?_)
 have hcp := hM.cap 0 rfl
 have hAs : A.isSome = true := (by cases l with | nil => exfalso; simp only [bA] at *; omega | cons a l => exact (smf (k := 0) dI (hM.rd 0 rfl) t11 rfl))
 obtain ⟨ys, hys, hMx⟩ := Mem.extend (k := vs.length) hM (i := 0) rfl t1 (λ _ => hAs)
 replace hMx : Mem w w [(Value.slice A l.length c).ownBlock, (Value.slice V vs.length vc).ownBlock] [[⟨.slice A (l.length + vs.length) c, 27, 2, l.length + vs.length, l.flatMap cY ++ ys⟩], oP V vc vs] := hMx
 refine ov 0 [] (s := Vl A (l.length + vs.length) c) (a := by exact cv (Ru.congr (Ru.lsliceTo (h := l.length + vs.length) Tryz.underlying43 jA rfl rfl t1 t1) rfl) rfl) (b := ?_)
 refine ov 9 [] (a := bL (i + vs.length)) (b := ?_)
 have y0 := hMx.cap 0 rfl
 refine ov 0 [] (s := Vl (if c = (i + vs.length) then A else ofs A ((i + vs.length) * 2)) ((l.length + vs.length) - (i + vs.length)) (c - (i + vs.length))) (a := by exact cv (Ru.lsliceFrom (l := (i + vs.length)) Tryz.underlying43 jA rfl rfl t1 t1) rfl) (b := ?_)
 refine ov 0 [] (s := Vb false) (a := by exact cv (Ru.extern (vs := [.slice V vs.length vc, .slice (if c = i + vs.length then A else ofs A ((i + vs.length) * 2)) (l.length + vs.length - (i + vs.length)) (c - (i + vs.length))]) rfl ((run_callFunc_extern Tryz.func119 (by kernel_rfl) (by kernel_rfl) (by kernel_rfl) (e := Extern.SlicesOverlaps.overlaps #[43, 43] #[4]) (by kernel_rfl) _ _).trans (by rw [uA (i := 1) (j := 0) (k := (i + vs.length) * 2) hMx t19 rfl rfl Tryz.underlying43 jA t1 t19 _ (if_neg t1)]; rfl))) rfl) (b := ?_)
 refine any 4 [] 9 [1] λ F0 d0 => ?_
 refine av [0, 1, 2] [] 3 (a := by exact λ _ hw2 => bL (i + vs.length)) (b := ?_)
 have z0 := d0.cap 0 rfl
 refine av [] [] 4 (s := Vl (if c = (i + vs.length) then A else ofs A ((i + vs.length) * 2)) ((l.length + vs.length) - (i + vs.length)) (c - (i + vs.length))) (a := by exact λ w2 hw2 => cv (Ru.lsliceFrom (l := (i + vs.length)) Tryz.underlying43 jA rfl rfl t1 t1) rfl) (b := ?_)
 have A0 := d0.cap 0 rfl
 refine av [5, 6] [] 7 (s := Vl (if c = i then A else ofs A (i * 2)) ((l.length + vs.length) - i) (c - i)) (a := by exact λ w2 hw2 => cv (Ru.lsliceFrom (l := i) Tryz.underlying43 jA rfl rfl t1 t1) rfl) (b := ?_)
 refine aO [] [] 8 ?_
 have hRl := Rd.left (d0.rd 0 rfl)
 refine O.mcopy (i := 0) (k := i * 2 + (vs.flatMap cY).length) (news := (l.drop i).flatMap cY) (xs' := spl (l.flatMap cY ++ ys) (i * 2 + (vs.flatMap cY).length) ((l.drop i).flatMap cY)) d0 rfl rfl Tryz.underlying43 jA rfl rfl rfl rfl (λ h0 => (by rw [if_neg t1, hVl, <- bM])) (kY dI hRl hin t1) (by rw [hXdl]; congr 1; first | omega | (simp only [aI, aB]; omega)) (by rw [hXdl, aA, hXl, hVl, hys, <- bM, <- bM, <- bM]; exact bK _ t1) (jG (λ _ => rfl) _) rfl rfl (λ p0 (i0 : Mem w p0 [(Value.slice A l.length c).ownBlock, (Value.slice V vs.length vc).ownBlock] [[⟨.slice A (l.length + vs.length) c, 27, 2, l.length + vs.length, spl (l.flatMap cY ++ ys) (i * 2 + (vs.flatMap cY).length) ((l.drop i).flatMap cY)⟩], oP V vc vs]) => ?_)
 refine os 0 [] [1] ?_
 refine an [] [] ?_
 have B0 := i0.cap 0 rfl
 refine ov 4 [] (s := Vl (if c = i then A else ofs A (i * 2)) ((l.length + vs.length) - i) (c - i)) (a := by exact cv (Ru.lsliceFrom (l := i) Tryz.underlying43 jA rfl rfl t1 t1) rfl) (b := ?_)
 refine go 1 [] ?_
 refine O.mcopy (i := 0) (k := i * 2) (news := vs.flatMap cY) (xs' := (l.take i ++ (vs ++ l.drop i)).flatMap cY) i0 rfl rfl Tryz.underlying43 jA rfl rfl rfl rfl (λ h0 => if_neg t1) (i0.rd 1 rfl) (by rw [hVl]; congr 1; first | omega | (simp only [aI, aB]; omega)) (by rw [kC (by rw [hXdl, aA, hXl, hVl, hys, <- bM, <- bM, <- bM]; exact bK _ t1), aA, hXl, hVl, hys, <- bM, <- bM]; exact bK _ t1) (jG (λ _ => rfl) _) (by rw [hres, hXd]; exact aAm (by rw [hXl]; exact bK _ hin) (by rw [hys, hVl])) rfl (λ k0 (m0 : Mem w k0 [(Value.slice A l.length c).ownBlock, (Value.slice V vs.length vc).ownBlock] [[⟨.slice A (l.length + vs.length) c, 27, 2, (l.length + vs.length), (l.take i ++ (vs ++ l.drop i)).flatMap cY⟩], oP V vc vs]) => ?_)
 refine E1 7 [] (.slice A (l.length + vs.length) c) ?_
 have hMe : Mem w k0 [(Value.slice A l.length c).ownBlock, (Value.slice V vs.length vc).ownBlock] [oP A c (l.take i ++ (vs ++ l.drop i)), oP V vc vs] := m0.relen 0 (n' := (l.take i ++ (vs ++ l.drop i)).length) (xs' := (l.take i ++ (vs ++ l.drop i)).flatMap cY) rfl t13 rfl rfl
 exact ⟨A, c, sl_congr t13, hMe.pick [0] t19 rfl⟩
theorem zM (A : Option Addr) (c : Nat) (l : List PairT) (i : Nat) (j : Nat) (w : World) (hM : Mem w w [(Value.slice A l.length c).ownBlock] [oP A c l]) (hij : i < j) (hj : j <= l.length) (hl : l.length <= 1048576) :
  aR Tryz.prog 214 [.slice A l.length c, I ((i : Nat) : Int), I ((j : Nat) : Int)] w (λ v w1 => ∃ (A1 : Option Addr) (c1 : Nat), v = .slice A1 (l.take i ++ l.drop j).length c1 /\ Mem w w1 [(Value.slice A l.length c).ownBlock] [oP A1 c1 (l.take i ++ l.drop j)]) := by
 refine aR.n1 Tryz.func214 rfl Tryz.results214 Tryz.ntmps214 rfl ?_
 have hcp := hM.cap 0 rfl
 refine go 11 [] ?_
 refine O.val rfl (Ru.lslice3 Tryz.underlying43 jA rfl rfl rfl rfl t1 rfl) rfl ?_
 refine cd 8 [] (λ c16 => ?_) (λ c16 => ?_)
 exfalso; omega
 refine any 8 [] 8 [] λ f0 a0 => ?_
 have i0 := a0.cap 0 rfl
 refine av [0, 1] [] 2 (s := Vl A i c) (a := by exact λ w2 hw2 => cv (Ru.congr (v := .slice A i c) (v' := .slice A i c) (Ru.lsliceTo (h := i) Tryz.underlying43 jA rfl rfl t1 t1) (rfl)) rfl) (b := ?_)
 have j0 := a0.cap 0 rfl
 refine av [3, 4] [] 5 (s := Vl (if c = j then A else ofs A (j * 2)) (l.length - j) (c - j)) (a := by exact λ w2 hw2 => cv (Ru.congr (v := .slice (if c = j then A else ofs A (j * 2)) (l.length - j) (c - j)) (v' := .slice (if c = j then A else ofs A (j * 2)) (l.length - j) (c - j)) (Ru.lsliceFrom (l := j) Tryz.underlying43 jA rfl rfl t1 t1) (rfl)) rfl) (b := ?_)
 refine aO [] [] 6 ?_
 have hcq := a0.cap 0 rfl
 have hRj := (kY (k := j) (c := c) dI (a0.rd 0 rfl) t1 t1)
 have hMs : Mem w f0 [(Value.slice A l.length c).ownBlock] [[⟨.slice A i c, 27, 2, i, (l.take i).flatMap cY⟩]] := Mem.shrink (i := 0) (k := i) a0 rfl t1 (by rw [show (l.take i).flatMap cY = (l.flatMap cY).take (i * 2) from (oQ dI l i)]; rfl)
 refine O.mappendIn (i := 0) (A := A) (m := i) (k := l.length - j) (c := c) (news := (l.drop j).flatMap cY) (m1 := i + (l.length - j)) (xs1 := (l.take i ++ l.drop j).flatMap cY) hMs rfl rfl Tryz.underlying43 jA rfl rfl rfl rfl hRj (by rw [kX dI]; try simp) (jG (λ _ => rfl) _) t1 (λ h0 => (by cases l with | nil => exfalso; simp only [bA] at *; omega | cons a l => exact (smf (k := 0) dI (a0.rd 0 rfl) t11 rfl))) rfl (by rw [bD]) rfl (λ e0 (b0 : Mem w e0 [(Value.slice A l.length c).ownBlock] [[⟨.slice A (i + (l.length - j)) c, 27, 2, (i + (l.length - j)), (l.take i ++ l.drop j).flatMap cY⟩]]) => ?_)
 refine os 0 [] [] ?_
 refine an [7] [] ?_
 have k0 := b0.cap 0 rfl
 refine ov 6 [] (s := Vl (if c = (i + (l.length - j)) then A else ofs A ((i + (l.length - j)) * 2)) (l.length - (i + (l.length - j))) (c - (i + (l.length - j)))) (a := by exact cv (Ru.congr (v := .slice (if c = i + (l.length - j) then A else ofs A ((i + (l.length - j)) * 2)) (l.length - (i + (l.length - j))) (c - (i + (l.length - j)))) (v' := .slice (if c = (i + (l.length - j)) then A else ofs A ((i + (l.length - j)) * 2)) (l.length - (i + (l.length - j))) (c - (i + (l.length - j)))) (Ru.lslice (l := i + (l.length - j)) (h := l.length) Tryz.underlying43 jA rfl rfl rfl t1 t1 t1) (rfl)) rfl) (b := ?_)
 refine O.mclear0 (i := 0) (j := l.length - (i + (l.length - j))) b0 rfl rfl Tryz.underlying43 jA rfl rfl (λ h0 => if_neg t1) t1 rfl (λ g0 (c0 : Mem w g0 [(Value.slice A l.length c).ownBlock] [[⟨.slice A (i + (l.length - j)) c, 27, 2, (i + (l.length - j)), (l.take i ++ l.drop j).flatMap cY⟩]]) => ?_)
 refine E1 7 [] (.slice A (i + (l.length - j)) c) ?_
 have d0 := c0.rF 0 (l.take i ++ l.drop j : List PairT) (e := rfl)
 exact ⟨A, c, (sl_congr t13), (d0.pk [0])⟩
theorem cD (A : Option Addr) (c : Nat) (l : List Int) (w : World) (hA : Rd w A (l.map I)) (hl : l.length <= 1048576) :
  aR Tryz.prog 75 [.slice A l.length c] w (λ v w1 => ∃ (A1 : Option Addr) (c1 : Nat), v = .slice A1 l.length c1 /\ Mem w w1 [] [oI A1 c1 l]) := by
 have hM : Mem w w [] [] := Mem.refl
 refine aR.n1 Tryz.func75 rfl Tryz.results75 Tryz.ntmps75 rfl ?_
 refine ov 8 [] (s := Vb A.isNone) (a := by exact cv (Ru.slnil Tryz.underlying30 rfl rfl) rfl) (b := ?_)
 refine cb 1 [] (λ c4 => ?_) (λ c4 => ?_)
 refine E1 5 [] (.slice none 0 0) ?_
 have hl0 := aHn hA c4
 have e0 := Mem.addNil (e := 3) (sz := 1) hM
 have g0 : ([] : List Int) = l := hl0.symm
 have f0 := e0.reM 0 g0 (f := I)
 exact ⟨none, 0, (sl_congr (by rw [hl0]; rfl)), (f0.pk [0])⟩
 refine Lt 3 [] (([]).map I) (λ k0 h0 i0 c0 => ?_)
 refine aM0 1 [] 0 (hA.at c0) (λ l0 a0 b0 j0 d0 => ?_)
 refine E1 3 [] (.slice a0 l.length b0) ?_
 exact ⟨a0, b0, (by first | rfl | exact sl_congr t8 | (simp; done)), (d0.pk [0])⟩
theorem kG (A : Option Addr) (c : Nat) (l : List Int) (i : Nat) (V : Option Addr) (vc : Nat) (vs : List Int) (w : World) (hM : Mem w w [(Value.slice A l.length c).ownBlock, (Value.slice V vs.length vc).ownBlock] [oI A c l, oI V vc vs]) (hin : i <= l.length) (hl : l.length <= 1048576) (hm : 0 < vs.length) (hv : vs.length <= 1000) :
  aR Tryz.prog 84 [.slice A l.length c, I ((i : Nat) : Int), .slice V vs.length vc] w (λ v w1 => ∃ (A1 : Option Addr) (c1 : Nat), v = .slice A1 (l.take i ++ (vs ++ l.drop i)).length c1 /\ Mem w w1 [(Value.slice A l.length c).ownBlock, (Value.slice V vs.length vc).ownBlock] [oI A1 c1 (l.take i ++ (vs ++ l.drop i))]) := by
 have hXl : (l.map I).length = l.length * 1 := t11
 have hVl : (vs.map I).length = vs.length * 1 := t11
 have hXt : (l.take i).map I = (l.map I).take (i * 1) := (by rw [List.map_take, Nat.mul_one])
 have hXd : (l.drop i).map I = (l.map I).drop (i * 1) := (by rw [List.map_drop, Nat.mul_one])
 have hXdl : ((l.drop i).map I).length = (l.length - i) * 1 := by rw [hXd, aI, hXl, Nat.sub_mul]
 have hXtl : ((l.take i).map I).length = i * 1 := by rw [hXt, aB, hXl]; omega
 have hres : (l.take i ++ (vs ++ l.drop i)).map I = (l.map I).take (i * 1) ++ (vs.map I ++ (l.map I).drop (i * 1)) := by rw [dW, dW, hXt, hXd]
 have hZl : (zer [.int .i64 0] (vs.length + l.length - i)).length = (vs.length + l.length - i) * 1 := by rw [kE]; rfl
 refine aR.n1 Tryz.func84 rfl Tryz.results84 Tryz.ntmps84 rfl ?_
 have C0 := hM.cap 0 rfl
 refine ov 8 [] (s := Vl (if c = i then A else ofs A (i * 1)) (l.drop i).length (c - i)) (a := by exact cv (Ru.congr (Ru.lsliceFrom (l := i) Tryz.underlying30 el3 rfl rfl t1 t1) (sl_congr t6)) rfl) (b := ?_)
 refine cd 13 [] (λ c16 => ?_) (λ c16 => ?_)
 exfalso; omega
 refine cd 14 [] (λ c22 => ?_) (λ c22 => ?_)
 refine aM 4 [] 0 (hM.rd 1 rfl) (λ q0 f0 g0 t0 n0 => ?_)
 refine E1 3 [] (.slice f0 (l ++ vs).length g0) ?_
 have hMe : Mem w q0 [(Value.slice A l.length c).ownBlock, (Value.slice V vs.length vc).ownBlock] [oI f0 g0 (l.take i ++ (vs ++ l.drop i)), oI V vc vs] := n0.relen 0 (n' := (l.take i ++ (vs ++ l.drop i)).length) (xs' := (l.take i ++ (vs ++ l.drop i)).map I) rfl t13 (by congr 1; rw [aE t1, dK t1, cS]) rfl
 exact ⟨f0, g0, sl_congr t13, hMe.pick [0] t19 rfl⟩
 refine ov 6 [] (a := bL (l.length + vs.length)) (b := ?_)
 refine ov 1 [] (s := Vi ((c : Nat) : Int)) (a := by exact cv (Ru.bcap Tryz.underlying30 rfl) rfl) (b := ?_)
 refine cd 2 [] (λ c31 => ?_) (λ c31 => ?_)
 have D0 := hM.cap 0 rfl
 refine ov 4 [] (s := Vl A i c) (a := by exact cv (Ru.congr (v := .slice A i c) (v' := .slice A i c) (Ru.lsliceTo (h := i) Tryz.underlying30 el3 rfl rfl t1 t1) (rfl)) rfl) (b := ?_)
 refine ov 2 [] (a := bL (l.length + vs.length)) (b := ?_)
 refine ov 1 [] (a := eV) (b := ?_)
 have hXt' := (fE (k := i) (hM.rd 0 rfl))
 refine O.mgrow (A := A) (c := c) (k := i) (m := vs.length + l.length - i) (sz := 1) (olds := (l.take i).map I) (k1 := l.length + vs.length) (xs1 := (l.take i).map I ++ zer [.int .i64 0] (vs.length + l.length - i)) (M' := λ a0 b0 => [[⟨.slice (bl a0) (l.length + vs.length) b0, 3, 1, l.length + vs.length, (l.take i).map I ++ zer [.int .i64 0] (vs.length + l.length - i)⟩], oI A c l, oI V vc vs]) hM rfl Tryz.underlying30 Tryz.underlying3 el3 ⟨rfl, t19⟩ rfl rfl t1 rfl hXt' hXtl t1 t1 t1 t1 t1 rfl (λ _ _ => rfl) (λ G0 a0 b0 s0 u0 e0 => ?_)
 try dsimp only at e0
 have v0 := e0.cap 0 rfl
 refine ov 6 [] (s := Vl (if b0 = i then bl a0 else ofs (bl a0) (i * 1)) ((l.length + vs.length) - i) (b0 - i)) (a := by exact cv (Ru.lsliceFrom (l := i) Tryz.underlying30 el3 rfl rfl t1 t1) rfl) (b := ?_)
 refine go 1 [] ?_
 refine O.mcopy (i := 0) (k := i * 1) (news := vs.map I) (xs' := spl ((l.take i).map I ++ zer [.int .i64 0] (vs.length + l.length - i)) (i * 1) (vs.map I)) e0 rfl rfl Tryz.underlying30 el3 rfl rfl rfl rfl (λ h0 => if_neg t1) (e0.rd 2 rfl) (by rw [hVl]; congr 1; first | omega | (simp only [aI, aB]; omega)) (by rw [aA, hXtl, hZl, hVl, <- bM, <- bM]; exact bK _ t1) (jU (λ _ => rfl) _) rfl rfl (λ o0 (r0 : Mem w o0 [(Value.slice A l.length c).ownBlock, (Value.slice V vs.length vc).ownBlock] [[⟨.slice (bl a0) (l.length + vs.length) b0, 3, 1, l.length + vs.length, spl ((l.take i).map I ++ zer [.int .i64 0] (vs.length + l.length - i)) (i * 1) (vs.map I)⟩], oI A c l, oI V vc vs]) => ?_)
 refine any 2 [] 9 [1, 2] λ E0 c0 => ?_
 refine av [0, 1, 2] [] 3 (a := by exact λ _ hw2 => bL (i + vs.length)) (b := ?_)
 have w0 := c0.cap 0 rfl
 refine av [] [] 4 (s := Vl (if b0 = (i + vs.length) then bl a0 else ofs (bl a0) ((i + vs.length) * 1)) ((l.length + vs.length) - (i + vs.length)) (b0 - (i + vs.length))) (a := by exact λ w2 hw2 => cv (Ru.lsliceFrom (l := (i + vs.length)) Tryz.underlying30 el3 rfl rfl t1 t1) rfl) (b := ?_)
 have x0 := c0.cap 1 rfl
 refine av [5, 6] [] 7 (s := Vl (if c = i then A else ofs A (i * 1)) (l.drop i).length (c - i)) (a := by exact λ w2 hw2 => cv (Ru.congr (Ru.lsliceFrom (l := i) Tryz.underlying30 el3 rfl rfl t1 t1) (sl_congr t6)) rfl) (b := ?_)
 refine aO [] [] 8 ?_
 have hsl : (spl ((l.take i).map I ++ zer [.int .i64 0] (vs.length + l.length - i)) (i * 1) (vs.map I)).length = (l.length + vs.length) * 1 := by rw [kC (by rw [aA, hXtl, hZl, hVl, <- bM, <- bM]; exact bK _ t1), aA, hXtl, hZl, <- bM]; congr 1; omega
 have hcp := c0.cap 1 rfl
 refine O.mcopy (i := 0) (k := (i + vs.length) * 1) (news := (l.drop i).map I) (xs' := (l.take i ++ (vs ++ l.drop i)).map I) c0 rfl rfl Tryz.underlying30 el3 rfl rfl rfl rfl (λ h0 => if_neg t1) (fK (c0.rd 1 rfl) hin t1) (by rw [hXdl]; congr 1; first | omega | (simp only [aI, aB]; omega)) (by rw [hXdl, hsl, <- bM]; exact bK _ t1) (jU (λ _ => rfl) _) (by rw [hres, hXd, hXt, bM, <- hVl]; exact xZ (by rw [hXl]; exact bK _ hin) (by rw [hZl, hVl, hXl, <- Nat.sub_mul, <- bM]; congr 1; omega)) rfl (λ j0 (l0 : Mem w j0 [(Value.slice A l.length c).ownBlock, (Value.slice V vs.length vc).ownBlock] [[⟨.slice (bl a0) (l.length + vs.length) b0, 3, 1, (l.length + vs.length), (l.take i ++ (vs ++ l.drop i)).map I⟩], oI A c l, oI V vc vs]) => ?_)
 refine os 0 [] [1, 2] ?_
 refine an [] [] ?_
 refine E1 6 [] (.slice (bl a0) (l.length + vs.length) b0) ?_
 have hMe : Mem w j0 [(Value.slice A l.length c).ownBlock, (Value.slice V vs.length vc).ownBlock] [oI (bl a0) b0 (l.take i ++ (vs ++ l.drop i)), oI A c l, oI V vc vs] := l0.relen 0 (n' := (l.take i ++ (vs ++ l.drop i)).length) (xs' := (l.take i ++ (vs ++ l.drop i)).map I) rfl t13 rfl rfl
 exact ⟨bl a0, b0, sl_congr t13, hMe.pick [0] t19 rfl⟩
 refine ov 6 [] (a := bL (l.length + vs.length)) (b := ?_)
 have hcp := hM.cap 0 rfl
 have hAs : A.isSome = true := (by cases l with | nil => exfalso; simp only [bA] at *; omega | cons a l => exact (smm (k := 0) (hM.rd 0 rfl) t11))
 obtain ⟨ys, hys, hMx⟩ := Mem.extend (k := vs.length) hM (i := 0) rfl t1 (λ _ => hAs)
 replace hMx : Mem w w [(Value.slice A l.length c).ownBlock, (Value.slice V vs.length vc).ownBlock] [[⟨.slice A (l.length + vs.length) c, 3, 1, l.length + vs.length, l.map I ++ ys⟩], oI V vc vs] := hMx
 refine ov 0 [] (s := Vl A (l.length + vs.length) c) (a := by exact cv (Ru.congr (Ru.lsliceTo (h := l.length + vs.length) Tryz.underlying30 el3 rfl rfl t1 t1) rfl) rfl) (b := ?_)
 refine ov 9 [] (a := bL (i + vs.length)) (b := ?_)
 have y0 := hMx.cap 0 rfl
 refine ov 0 [] (s := Vl (if c = (i + vs.length) then A else ofs A ((i + vs.length) * 1)) ((l.length + vs.length) - (i + vs.length)) (c - (i + vs.length))) (a := by exact cv (Ru.lsliceFrom (l := (i + vs.length)) Tryz.underlying30 el3 rfl rfl t1 t1) rfl) (b := ?_)
 refine ov 0 [] (s := Vb false) (a := by exact cv (Ru.extern (vs := [.slice V vs.length vc, .slice (if c = i + vs.length then A else ofs A ((i + vs.length) * 1)) (l.length + vs.length - (i + vs.length)) (c - (i + vs.length))]) rfl ((run_callFunc_extern Tryz.func121 (by kernel_rfl) (by kernel_rfl) (by kernel_rfl) (e := Extern.SlicesOverlaps.overlaps #[30, 30] #[4]) (by kernel_rfl) _ _).trans (by rw [uA (i := 1) (j := 0) (k := (i + vs.length) * 1) hMx t19 rfl rfl Tryz.underlying30 el3 t1 t19 _ (if_neg t1)]; rfl))) rfl) (b := ?_)
 refine any 4 [] 9 [1] λ F0 d0 => ?_
 refine av [0, 1, 2] [] 3 (a := by exact λ _ hw2 => bL (i + vs.length)) (b := ?_)
 have z0 := d0.cap 0 rfl
 refine av [] [] 4 (s := Vl (if c = (i + vs.length) then A else ofs A ((i + vs.length) * 1)) ((l.length + vs.length) - (i + vs.length)) (c - (i + vs.length))) (a := by exact λ w2 hw2 => cv (Ru.lsliceFrom (l := (i + vs.length)) Tryz.underlying30 el3 rfl rfl t1 t1) rfl) (b := ?_)
 have A0 := d0.cap 0 rfl
 refine av [5, 6] [] 7 (s := Vl (if c = i then A else ofs A (i * 1)) ((l.length + vs.length) - i) (c - i)) (a := by exact λ w2 hw2 => cv (Ru.lsliceFrom (l := i) Tryz.underlying30 el3 rfl rfl t1 t1) rfl) (b := ?_)
 refine aO [] [] 8 ?_
 have hRl := Rd.left (d0.rd 0 rfl)
 refine O.mcopy (i := 0) (k := i * 1 + (vs.map I).length) (news := (l.drop i).map I) (xs' := spl (l.map I ++ ys) (i * 1 + (vs.map I).length) ((l.drop i).map I)) d0 rfl rfl Tryz.underlying30 el3 rfl rfl rfl rfl (λ h0 => (by rw [if_neg t1, hVl, <- bM])) (fK hRl hin t1) (by rw [hXdl]; congr 1; first | omega | (simp only [aI, aB]; omega)) (by rw [hXdl, aA, hXl, hVl, hys, <- bM, <- bM, <- bM]; exact bK _ t1) (jU (λ _ => rfl) _) rfl rfl (λ p0 (i0 : Mem w p0 [(Value.slice A l.length c).ownBlock, (Value.slice V vs.length vc).ownBlock] [[⟨.slice A (l.length + vs.length) c, 3, 1, l.length + vs.length, spl (l.map I ++ ys) (i * 1 + (vs.map I).length) ((l.drop i).map I)⟩], oI V vc vs]) => ?_)
 refine os 0 [] [1] ?_
 refine an [] [] ?_
 have B0 := i0.cap 0 rfl
 refine ov 4 [] (s := Vl (if c = i then A else ofs A (i * 1)) ((l.length + vs.length) - i) (c - i)) (a := by exact cv (Ru.lsliceFrom (l := i) Tryz.underlying30 el3 rfl rfl t1 t1) rfl) (b := ?_)
 refine go 1 [] ?_
 refine O.mcopy (i := 0) (k := i * 1) (news := vs.map I) (xs' := (l.take i ++ (vs ++ l.drop i)).map I) i0 rfl rfl Tryz.underlying30 el3 rfl rfl rfl rfl (λ h0 => if_neg t1) (i0.rd 1 rfl) (by rw [hVl]; congr 1; first | omega | (simp only [aI, aB]; omega)) (by rw [kC (by rw [hXdl, aA, hXl, hVl, hys, <- bM, <- bM, <- bM]; exact bK _ t1), aA, hXl, hVl, hys, <- bM, <- bM]; exact bK _ t1) (jU (λ _ => rfl) _) (by rw [hres, hXd]; exact aAm (by rw [hXl]; exact bK _ hin) (by rw [hys, hVl])) rfl (λ k0 (m0 : Mem w k0 [(Value.slice A l.length c).ownBlock, (Value.slice V vs.length vc).ownBlock] [[⟨.slice A (l.length + vs.length) c, 3, 1, (l.length + vs.length), (l.take i ++ (vs ++ l.drop i)).map I⟩], oI V vc vs]) => ?_)
 refine E1 7 [] (.slice A (l.length + vs.length) c) ?_
 have hMe : Mem w k0 [(Value.slice A l.length c).ownBlock, (Value.slice V vs.length vc).ownBlock] [oI A c (l.take i ++ (vs ++ l.drop i)), oI V vc vs] := m0.relen 0 (n' := (l.take i ++ (vs ++ l.drop i)).length) (xs' := (l.take i ++ (vs ++ l.drop i)).map I) rfl t13 rfl rfl
 exact ⟨A, c, sl_congr t13, hMe.pick [0] t19 rfl⟩
theorem sZ (A : Option Addr) (c : Nat) (l : List Int) (i : Nat) (j : Nat) (w : World) (hM : Mem w w [(Value.slice A l.length c).ownBlock] [oI A c l]) (hij : i < j) (hj : j <= l.length) (hl : l.length <= 1048576) :
  aR Tryz.prog 217 [.slice A l.length c, I ((i : Nat) : Int), I ((j : Nat) : Int)] w (λ v w1 => ∃ (A1 : Option Addr) (c1 : Nat), v = .slice A1 (l.take i ++ l.drop j).length c1 /\ Mem w w1 [(Value.slice A l.length c).ownBlock] [oI A1 c1 (l.take i ++ l.drop j)]) := by
 refine aR.n1 Tryz.func217 rfl Tryz.results217 Tryz.ntmps217 rfl ?_
 have hcp := hM.cap 0 rfl
 refine go 11 [] ?_
 refine O.val rfl (Ru.lslice3 Tryz.underlying30 el3 rfl rfl rfl rfl t1 rfl) rfl ?_
 refine cd 8 [] (λ c16 => ?_) (λ c16 => ?_)
 exfalso; omega
 refine any 8 [] 8 [] λ f0 a0 => ?_
 have i0 := a0.cap 0 rfl
 refine av [0, 1] [] 2 (s := Vl A i c) (a := by exact λ w2 hw2 => cv (Ru.congr (v := .slice A i c) (v' := .slice A i c) (Ru.lsliceTo (h := i) Tryz.underlying30 el3 rfl rfl t1 t1) (rfl)) rfl) (b := ?_)
 have j0 := a0.cap 0 rfl
 refine av [3, 4] [] 5 (s := Vl (if c = j then A else ofs A (j * 1)) (l.length - j) (c - j)) (a := by exact λ w2 hw2 => cv (Ru.congr (v := .slice (if c = j then A else ofs A (j * 1)) (l.length - j) (c - j)) (v' := .slice (if c = j then A else ofs A (j * 1)) (l.length - j) (c - j)) (Ru.lsliceFrom (l := j) Tryz.underlying30 el3 rfl rfl t1 t1) (rfl)) rfl) (b := ?_)
 refine aO [] [] 6 ?_
 have hcq := a0.cap 0 rfl
 have hRj := (fK (k := j) (c := c) (a0.rd 0 rfl) t1 t1)
 have hMs : Mem w f0 [(Value.slice A l.length c).ownBlock] [[⟨.slice A i c, 3, 1, i, (l.take i).map I⟩]] := Mem.shrink (i := 0) (k := i) a0 rfl t1 (by rw [show (l.take i).map I = (l.map I).take (i * 1) from (by rw [List.map_take, Nat.mul_one])]; rfl)
 refine O.mappendIn (i := 0) (A := A) (m := i) (k := l.length - j) (c := c) (news := (l.drop j).map I) (m1 := i + (l.length - j)) (xs1 := (l.take i ++ l.drop j).map I) hMs rfl rfl Tryz.underlying30 el3 rfl rfl rfl rfl hRj t11 (jU (λ _ => rfl) _) t1 (λ h0 => (by cases l with | nil => exfalso; simp only [bA] at *; omega | cons a l => exact (smm (k := 0) (a0.rd 0 rfl) t11))) rfl (by rw [dW]) rfl (λ e0 (b0 : Mem w e0 [(Value.slice A l.length c).ownBlock] [[⟨.slice A (i + (l.length - j)) c, 3, 1, (i + (l.length - j)), (l.take i ++ l.drop j).map I⟩]]) => ?_)
 refine os 0 [] [] ?_
 refine an [7] [] ?_
 have k0 := b0.cap 0 rfl
 refine ov 6 [] (s := Vl (if c = (i + (l.length - j)) then A else ofs A ((i + (l.length - j)) * 1)) (l.length - (i + (l.length - j))) (c - (i + (l.length - j)))) (a := by exact cv (Ru.congr (v := .slice (if c = i + (l.length - j) then A else ofs A ((i + (l.length - j)) * 1)) (l.length - (i + (l.length - j))) (c - (i + (l.length - j)))) (v' := .slice (if c = (i + (l.length - j)) then A else ofs A ((i + (l.length - j)) * 1)) (l.length - (i + (l.length - j))) (c - (i + (l.length - j)))) (Ru.lslice (l := i + (l.length - j)) (h := l.length) Tryz.underlying30 el3 rfl rfl rfl t1 t1 t1) (rfl)) rfl) (b := ?_)
 refine O.mclear0 (i := 0) (j := l.length - (i + (l.length - j))) b0 rfl rfl Tryz.underlying30 el3 rfl rfl (λ h0 => if_neg t1) t1 rfl (λ g0 (c0 : Mem w g0 [(Value.slice A l.length c).ownBlock] [[⟨.slice A (i + (l.length - j)) c, 3, 1, (i + (l.length - j)), (l.take i ++ l.drop j).map I⟩]]) => ?_)
 refine E1 7 [] (.slice A (i + (l.length - j)) c) ?_
 have d0 := c0.rM 0 (l.take i ++ l.drop j : List Int) (e := rfl)
 exact ⟨A, c, (sl_congr t13), (d0.pk [0])⟩
theorem aBe (n : Nat) (F : FuncId) (caps : List Value) (p : Nat -> Bool) (w : World) (hen : bB Tryz.prog F) (hf : ∀ t, t < n -> ∀ w1, Mem w w1 [] [] -> aR Tryz.prog F (I (t : Nat) :: caps) w1 (λ v w2 => v = .bool (p t) /\ Mem w1 w2 [] [])) (hm : ∀ a b, a <= b -> b < n -> p a = true -> p b = true) (hn : n <= 1048576) :
  aR Tryz.prog 153 [I ((n : Nat) : Int), (.func (.func F) #[] caps.toArray)] w (λ v w1 => ∃ (k : Nat), v = I ((k : Nat) : Int) /\ (k <= n) /\ (∀ t, t < k -> p t = false) /\ (∀ t, k <= t -> t < n -> p t = true) /\ Mem w w1 [] []) := by
 have hM : Mem w w [] [] := Mem.refl
 refine aR.n1 Tryz.func153 rfl Tryz.results153 Tryz.ntmps153 rfl ?_
 refine lp2 12 [] (λ (i : Nat) (j : Nat) => ([(5, Vi ((i : Nat) : Int)), (6, Vi ((j : Nat) : Int))] : List (Nat × SV))) (λ i j => (i <= j /\ j <= n) /\ (∀ t, t < i -> p t = false) /\ (∀ t, j <= t -> t < n -> p t = true)) (λ i j => []) (λ i j => j - i) [1] [] [] 0 n (λ i j σ f0 hI a0 => ?_) (h0 := ⟨t7, t7, t7⟩)
 obtain ⟨i0, b0, c0⟩ := hI
 refine cd 7 [] (λ c11 => ?_) (λ c11 => ?_)
 refine ov 6 [] (a := bL (i + j)) (b := ?_)
 refine ov 0 [] (s := Vn .u64 (((i + j) : Nat) : Int)) (a := by exact cv (Ru.conv64 Tryz.underlying3 Tryz.underlying176 rfl t1) rfl) (b := ?_)
 refine ov 0 [] (s := Vn .u64 (((i + j) / 2 : Nat) : Int)) (a := by exact cv (Ru.congr (v := .int .u64 ((((i + j) : Nat) : Int) / 2)) (v' := .int .u64 (((i + j) / 2 : Nat) : Int)) (Ru.half rfl rfl t1) (by first | rfl | (congr 1; done) | (congr 1; omega))) rfl) (b := ?_)
 refine ov 0 [] (s := Vi (((i + j) / 2 : Nat) : Int)) (a := by exact cv (Ru.conv64i Tryz.underlying176 Tryz.underlying3 rfl t1) rfl) (b := ?_)
 refine go 6 [] ?_
 refine O.callv [I (((i + j) / 2 : Nat) : Int)] rfl rfl hen rfl rfl (hf ((i + j) / 2) t1 f0 a0) ?_
 rintro _ e0 ⟨rfl, d0⟩
 have g0 : Mem w e0 [] [] := Mem.call0 a0 d0
 refine cn 2 [] (λ c21 => ?_) (λ c21 => ?_)
 refine ov 2 [] (a := bL ((i + j) / 2 + 1)) (b := ?_)
 exact le2 2 [] ((i + j) / 2 + 1) j [] (h := by exact ⟨t7, (aHt hm t1 t1 (by simpa using c21) b0), c0⟩)
 exact le2 4 [] i ((i + j) / 2) [] (h := by exact ⟨t7, b0, (aFf hm (by simpa using c21))⟩)
 refine E1 7 [] (I ((i : Nat) : Int)) ?_
 exact ⟨i, (by first | rfl | exact sl_congr t8 | (simp; done)), t1, b0, (λ t h1 h2 => c0 t t1 h2), (Mem.none a0)⟩
theorem zP (i : Nat) (b1 : Nat) (b2 : Nat) (A : Option Addr) (c : Nat) (l : List Int) (key : Int) (w : World) (h1 : Rd w (bl b1) [.slice A l.length c]) (h2 : Rd w (bl b2) [I key]) (hA : Rd w A (l.map I)) (hi : i < l.length) :
  aR Tryz.prog 155 [I ((i : Nat) : Int), .pointer (ofs (bl b1) 0), .pointer (ofs (bl b2) 0)] w (λ v w1 => v = .bool (decide (key <= l.getD i 0)) /\ Mem w w1 [] []) := by
 have hM : Mem w w [] [] := Mem.refl
 refine aR.n1 Tryz.func155 rfl Tryz.results155 Tryz.ntmps155 rfl ?_
 refine dr 5 [] ?_
 refine qv 0 [] (s := Vl A l.length c) (a := by exact λ w2 hw2 => cv (Ru.load1 el30 rfl ((h1.at hw2).ld rfl)) rfl) (b := ?_)
 have a0 : i < l.length := t3
 refine qv 1 [] (a := by exact λ _ hw2 => cG a0 (hA.at hw2)) (b := ?_)
 refine qv 0 [] (a := by exact λ _ hw2 => eT a0 (hA.at hw2)) (b := ?_)
 refine qv 0 [] (s := Vi key) (a := by exact λ w2 hw2 => cv (Ru.load1 el3 rfl ((h2.at hw2).ld rfl)) rfl) (b := ?_)
 refine qn 2 [] λ c0 b0 => ?_
 refine E1 1 [] (.bool (decide (l[i]'a0 >= key))) ?_
 exact ⟨(by rw [nX hi]), (Mem.none b0)⟩
theorem aBl (A : Option Addr) (c : Nat) (l : List Int) (key : Int) (w : World) (hA : Rd w A (l.map I)) (hl : l.length <= 1048576) :
  aR Tryz.prog 118 [.slice A l.length c, I key] w (λ v w1 => v = I (if bR l then (fG l key : Int) else -1) /\ Mem w w1 [] []) := by
 have hM : Mem w w [] [] := Mem.refl
 refine aR.n1 Tryz.func118 rfl Tryz.results118 Tryz.ntmps118 rfl ?_
 refine Bx 2 [] λ r0 a0 o0 n0 => ?_
 refine Bx 0 [] λ k0 b0 p0 d0 => ?_
 refine cp 6 [1] (b := lP _ _ _ k0 (hA.at d0) q0) (c := λ l0 c0 => ?_)
 refine cn 2 [] (λ c7 => ?_) (λ c7 => ?_)
 refine E1 5 [] (I (-1)) ?_
 exact ⟨(by rw [if_neg (by simp [c7])]), (Mem.none c0)⟩
 refine ov 5 [1] (s := Vr (.func (.func 155) #[] #[.pointer (ofs (bl a0) 0), .pointer (ofs (bl b0) 0)])) (a := by exact cv (Ru.mkfun (vs := [.pointer (ofs (bl a0) 0), .pointer (ofs (bl b0) 0)]) rfl) rfl) (b := ?_)
 have hbx1 := c0.rd 1 rfl
 have hbx2 := c0.rd 0 rfl
 have hv : bR l = true := by simpa using c7
 have hAn := hA.at c0
 refine O.callg [I (l.length : Int), .func (.func 155) #[] #[.pointer (ofs (bl a0) 0), .pointer (ofs (bl b0) 0)]] rfl en153 rfl rfl (aBe l.length 155 [.pointer (ofs (bl a0) 0), .pointer (ofs (bl b0) 0)] (λ t => decide (key <= l.getD t 0)) l0 en155 (λ t ht w1 hw1 => zP t a0 b0 A c l key w1 (hbx1.at hw1) (hbx2.at hw1) (hAn.at hw1) ht) (λ a b hab hb hp => ?_) hl) ?_
 have h2 := iG (bQ.1 hv).2; simp only [decide_eq_true_eq] at hp ⊢; rw [nX t1] at hp ⊢; rcases kT hab with h3 | h3 <;> first | (subst h3; exact hp) | (have := h2 a b h3 hb; omega)
 rintro _ m0 ⟨j0, rfl, h0, i0, g0, f0⟩
 have e0 : Mem w m0 [] [[⟨.slice (bl b0) 1 1, 3, 1, 1, [I key]⟩], [⟨.slice (bl a0) 1 1, 30, 1, 1, [.slice A l.length c]⟩]] := Mem.call0 c0 f0
 refine E1 3 [] (I ((j0 : Nat) : Int)) ?_
 exact ⟨(by rw [if_pos hv, aCz h0 (λ t ht => by have := i0 t ht; rw [nX (show t < l.length by omega)] at this; simpa using this) (λ t h1 h2 => by have := g0 t h1 h2; rw [nX h2] at this; simpa using this)]), (Mem.none e0)⟩
theorem aBm (i : Nat) (b1 : Nat) (b2 : Nat) (A : Option Addr) (c : Nat) (l : List Int) (key : Int) (w : World) (h1 : Rd w (bl b1) [.slice A l.length c]) (h2 : Rd w (bl b2) [I key]) (hA : Rd w A (l.map I)) (hi : i < l.length) :
  aR Tryz.prog 154 [I ((i : Nat) : Int), .pointer (ofs (bl b1) 0), .pointer (ofs (bl b2) 0)] w (λ v w1 => v = .bool (decide (key < l.getD i 0)) /\ Mem w w1 [] []) := by
 have hM : Mem w w [] [] := Mem.refl
 refine aR.n1 Tryz.func154 rfl Tryz.results154 Tryz.ntmps154 rfl ?_
 refine dr 5 [] ?_
 refine qv 0 [] (s := Vl A l.length c) (a := by exact λ w2 hw2 => cv (Ru.load1 el30 rfl ((h1.at hw2).ld rfl)) rfl) (b := ?_)
 have a0 : i < l.length := t3
 refine qv 1 [] (a := by exact λ _ hw2 => cG a0 (hA.at hw2)) (b := ?_)
 refine qv 0 [] (a := by exact λ _ hw2 => eT a0 (hA.at hw2)) (b := ?_)
 refine qv 0 [] (s := Vi key) (a := by exact λ w2 hw2 => cv (Ru.load1 el3 rfl ((h2.at hw2).ld rfl)) rfl) (b := ?_)
 refine qn 2 [] λ c0 b0 => ?_
 refine E1 1 [] (.bool (decide (l[i]'a0 > key))) ?_
 exact ⟨(by rw [nX hi]), (Mem.none b0)⟩
theorem aDs (A : Option Addr) (c : Nat) (l : List Int) (key : Int) (w : World) (hA : Rd w A (l.map I)) (hl : l.length <= 1048576) :
  aR Tryz.prog 117 [.slice A l.length c, I key] w (λ v w1 => v = I (if bR l then (gW l key : Int) else -1) /\ Mem w w1 [] []) := by
 have hM : Mem w w [] [] := Mem.refl
 refine aR.n1 Tryz.func117 rfl Tryz.results117 Tryz.ntmps117 rfl ?_
 refine Bx 2 [] λ r0 a0 o0 n0 => ?_
 refine Bx 0 [] λ k0 b0 p0 d0 => ?_
 refine cp 6 [1] (b := lP _ _ _ k0 (hA.at d0) q0) (c := λ l0 c0 => ?_)
 refine cn 2 [] (λ c7 => ?_) (λ c7 => ?_)
 refine E1 5 [] (I (-1)) ?_
 exact ⟨(by rw [if_neg (by simp [c7])]), (Mem.none c0)⟩
 refine ov 5 [1] (s := Vr (.func (.func 154) #[] #[.pointer (ofs (bl a0) 0), .pointer (ofs (bl b0) 0)])) (a := by exact cv (Ru.mkfun (vs := [.pointer (ofs (bl a0) 0), .pointer (ofs (bl b0) 0)]) rfl) rfl) (b := ?_)
 have hbx1 := c0.rd 1 rfl
 have hbx2 := c0.rd 0 rfl
 have hv : bR l = true := by simpa using c7
 have hAn := hA.at c0
 refine O.callg [I (l.length : Int), .func (.func 154) #[] #[.pointer (ofs (bl a0) 0), .pointer (ofs (bl b0) 0)]] rfl en153 rfl rfl (aBe l.length 154 [.pointer (ofs (bl a0) 0), .pointer (ofs (bl b0) 0)] (λ t => decide (key < l.getD t 0)) l0 en154 (λ t ht w1 hw1 => aBm t a0 b0 A c l key w1 (hbx1.at hw1) (hbx2.at hw1) (hAn.at hw1) ht) (λ a b hab hb hp => ?_) hl) ?_
 have h2 := iG (bQ.1 hv).2; simp only [decide_eq_true_eq] at hp ⊢; rw [nX t1] at hp ⊢; rcases kT hab with h3 | h3 <;> first | (subst h3; exact hp) | (have := h2 a b h3 hb; omega)
 rintro _ m0 ⟨j0, rfl, h0, i0, g0, f0⟩
 have e0 : Mem w m0 [] [[⟨.slice (bl b0) 1 1, 3, 1, 1, [I key]⟩], [⟨.slice (bl a0) 1 1, 30, 1, 1, [.slice A l.length c]⟩]] := Mem.call0 c0 f0
 refine E1 3 [] (I ((j0 : Nat) : Int)) ?_
 exact ⟨(by rw [if_pos hv, aFx h0 (λ t ht => by have := i0 t ht; rw [nX (show t < l.length by omega)] at this; simpa using this) (λ t h1 h2 => by have := g0 t h1 h2; rw [nX h2] at this; simpa using this)]), (Mem.none e0)⟩
theorem nT (A : Option Addr) (c : Nat) (l : List PairT) (w : World) (hA : Rd w A (l.flatMap cY)) (hl : l.length <= 1048576) :
  aR Tryz.prog 54 [.slice A l.length c] w (λ v w1 => v = .bool (bW l) /\ Mem w w1 [] []) := by
 have hM : Mem w w [] [] := Mem.refl
 refine aR.n1 Tryz.func54 rfl Tryz.results54 Tryz.ntmps54 rfl ?_
 refine cd 11 [] (λ c7 => ?_) (λ c7 => ?_)
 refine E1 5 [] (.bool false) ?_
 exact ⟨(by simp [bW]; omega), (Mem.none hM)⟩
 refine lp1 9 [] (λ (k : Nat) => ([(10, Vi ((k : Nat) : Int))] : List (Nat × SV))) (λ k => (k <= l.length) /\ ((l.take k).all (λ p => fA p.val) = true)) (λ k => []) (λ k => l.length - k) [0, 8, 9] [] [] 0 (λ k σ k0 hI a0 => ?_) (h0 := ⟨(bI _), t15⟩)
 obtain ⟨t0, d0⟩ := hI
 refine cd 5 [] (λ c11 => ?_) (λ c11 => ?_)
 have b0 : k < l.length := t3
 refine ov 5 [] (a := cJ b0 (hA.at a0)) (b := ?_)
 refine ov 0 [] (a := gL b0 (hA.at a0)) (b := ?_)
 refine Al 0 [] λ u0 m0 r0 o0 => ?_
 refine Sb 0 [] 0 λ i0 p0 => ?_
 refine cp 5 [0] (b := pH _ i0 ) (c := λ v0 e0 => ?_)
 refine cn 2 [] (λ c17 => ?_) (λ c17 => ?_)
 refine E1 5 [] (.bool false) ?_
 exact ⟨(by rw [aBh b0 c17]), (Mem.none e0)⟩
 refine ov 2 [] (a := bL (k + 1)) (b := ?_)
 exact le1 2 [] (k + 1) [] (h := by exact ⟨t7, (pW d0 b0 c17)⟩)
 refine cq 4 [] (b := pI _ _ _ k0 (hA.at a0) q0) (c := ?_)
 rintro _ j0 ⟨l0, n0, rfl, g0⟩
 have c0 := a0.cl 0 g0
 have s0 := (c0.cap 0 rfl).1
 refine cp 0 [] (b := lP _ _ _ j0 (c0.rd 0 rfl) q0) (c := λ w0 f0 => ?_)
 refine E1 3 [] (.bool (bR (bG l))) ?_
 exact ⟨(by rw [bW, wL d0 t1, decide_eq_true t1]; simp), (Mem.none f0)⟩
theorem oA (A : Option Addr) (c : Nat) (l : List PairT) (w : World) (hA : Rd w A (l.flatMap cY)) (hl : l.length <= 1048576) :
  aR Tryz.prog 85 [.slice A l.length c] w (λ v w1 => v = .bool (bW l) /\ Mem w w1 [] []) := by
 have hM : Mem w w [] [] := Mem.refl
 refine aR.n1 Tryz.func85 rfl Tryz.results85 Tryz.ntmps85 rfl ?_
 refine lp1 10 [] (λ (k : Nat) => ([(3, Vi ((k : Nat) : Int))] : List (Nat × SV))) (λ k => (k <= l.length) /\ ((l.take k).all (λ p => fA p.val) = true)) (λ k => []) (λ k => l.length - k) [0] [] [] 0 (λ k σ e0 hI a0 => ?_) (h0 := ⟨(bI _), t15⟩)
 obtain ⟨n0, c0⟩ := hI
 refine cd 8 [] (λ c7 => ?_) (λ c7 => ?_)
 have b0 : k < l.length := t3
 refine ov 7 [] (a := cJ b0 (hA.at a0)) (b := ?_)
 refine ov 0 [] (a := fZ b0 (hA.at a0)) (b := ?_)
 refine ov 0 [] (a := gF b0 (hA.at a0)) (b := ?_)
 refine cp 0 [] (b := lY _ _ _ e0 ) (c := λ o0 f0 => ?_)
 refine cn 2 [] (λ c16 => ?_) (λ c16 => ?_)
 refine E1 5 [] (.bool false) ?_
 exact ⟨(by rw [aBh b0 c16]), (Mem.none f0)⟩
 refine ov 3 [] (a := bL (k + 1)) (b := ?_)
 exact le1 2 [] (k + 1) [] (h := by exact ⟨t7, (pW c0 b0 c16)⟩)
 refine pp 7 [] 20 (λ g20 => ?_) (λ g20 => ?_)
 refine cq 1 [] (b := kB _ _ _ e0 (hA.at a0) q0) (c := ?_)
 rintro _ j0 ⟨k0, l0, rfl, i0⟩
 have d0 := a0.cl 0 i0
 have m0 := (d0.cap 0 rfl).1
 refine cp 0 [] (b := uM _ _ _ j0 (d0.rd 0 rfl) q0) (c := λ p0 g0 => ?_)
 refine E1 4 [] (.bool (bR (bG l))) ?_
 exact ⟨(by first | (rw [bW, wL c0 t1, decide_eq_true t1]; simp; done) | (rw [bW, decide_eq_false t1]; simp)), (Mem.none g0)⟩
 refine E1 7 [] (.bool false) ?_
 exact ⟨(by first | (rw [bW, wL c0 t1, decide_eq_true t1]; simp; done) | (rw [bW, decide_eq_false t1]; simp)), (Mem.none a0)⟩
theorem oH (A : Option Addr) (c : Nat) (l : List PairT) (k : Int) (w : World) (hA : Rd w A (l.flatMap cY)) (hl : l.length <= 1048576) (hv : bR (bG l) = true) :
  aR Tryz.prog 78 [.slice A l.length c, I k] w (λ v w1 => v = .tuple #[I (plc l k : Int), .bool (cT l k)] /\ Mem w w1 [] []) := by
 have hM : Mem w w [] [] := Mem.refl
 refine aR.n2 Tryz.func78 rfl Tryz.results78 Tryz.ntmps78 rfl ?_
 refine cq 8 [] (b := pI _ _ _ w (hA.at hM) q0) (c := ?_)
 rintro _ f0 ⟨g0, h0, rfl, e0⟩
 have c0 := hM.cl 0 e0
 have j0 := (c0.cap 0 rfl).1
 refine cp 1 [] (b := aBl _ _ _ _ f0 (c0.rd 0 rfl) q0) (c := λ k0 i0 => ?_)
 have hpl := yW l k
 have hifv : (if bR (bG l) then (fG (bG l) k : Int) else -1) = (plc l k : Int) := by rw [if_pos hv]; rfl
 have hasc := (bQ.1 hv).2
 refine ov 0 [] (s := Vi (plc l k : Int)) (a := by exact cv (Ru.congr (v := I (if bR (bG l) then (fG (bG l) k : Int) else -1)) (v' := I (plc l k : Int)) (Ru.assign rfl) (congrArg _ hifv)) rfl) (b := ?_)
 refine dr 2 [] ?_
 refine qp 4 [] 14 (λ g14 => ?_) (λ g14 => ?_)
 refine qp 6 [] 20 (λ g20 => ?_) (λ g20 => ?_)
 have a0 : plc l k < l.length := t3
 refine qv 2 [] (a := by exact λ _ hw2 => cJ a0 (hA.at hw2)) (b := ?_)
 refine qv 0 [] (a := by exact λ _ hw2 => fZ a0 (hA.at hw2)) (b := ?_)
 refine qv 0 [] (a := by exact λ _ hw2 => gF a0 (hA.at hw2)) (b := ?_)
 refine qn 5 [] λ d0 b0 => ?_
 refine E2 1 [] (I (plc l k : Int)) (.bool (decide ((l[plc l k]'a0).key = k))) ?_
 exact ⟨(by first | (rw [<- yB hasc a0]; done) | (rw [yC hasc t1]; done) | (exfalso; omega)), (Mem.none b0)⟩
 refine qn 10 [] λ d0 b0 => ?_
 refine E2 1 [] (I (plc l k : Int)) (.bool false) ?_
 exact ⟨(by first | (rw [<- yB hasc a0]; done) | (rw [yC hasc t1]; done) | (exfalso; omega)), (Mem.none b0)⟩
 refine qn 16 [] λ d0 b0 => ?_
 refine E2 1 [] (I (plc l k : Int)) (.bool false) ?_
 exact ⟨(by first | (rw [<- yB hasc a0]; done) | (rw [yC hasc t1]; done) | (exfalso; omega)), (Mem.none b0)⟩
theorem aFr (A : Option Addr) (c : Nat) (l : List PairT) (x : PairT) (w : World) (hA : Rd w A (l.flatMap cY)) (hl : l.length <= 1048576) (hv : bR (bG l) = true) :
  aR Tryz.prog 34 [.slice A l.length c, .agg #[I x.key, I x.val]] w (λ v w1 => ∃ (A1 : Option Addr) (c1 : Nat), v = .slice A1 (hH l x).length c1 /\ Mem w w1 [] [oP A1 c1 (hH l x)]) := by
 have hM : Mem w w [] [] := Mem.refl
 refine aR.n1 Tryz.func34 rfl Tryz.results34 Tryz.ntmps34 rfl ?_
 refine Bx 2 [] λ s0 v0 w0 k0 => ?_
 refine cp 7 [0] (b := oH _ _ _ _ s0 (hA.at k0) q0 q0) (c := λ t0 f0 => ?_)
 have hasc := (bQ.1 hv).2
 have hpl := yW l x.key
 refine cq 9 [] (b := mS _ _ _ t0 (hA.at f0) q0) (c := ?_)
 rintro _ A0 ⟨a0, b0, rfl, p0⟩
 have g0 := f0.cl 0 p0
 have y0 := (g0.cap 0 rfl).1
 refine cb 7 [] (λ c17 => ?_) (λ c17 => ?_)
 obtain ⟨hpb, hpk⟩ := (mE hasc).1 c17
 have j0 : plc l x.key < l.length := t3
 refine ov 5 [1] (a := cJ j0 (g0.rd 0 rfl)) (b := ?_)
 refine sF 0 [] 0 x j0 λ B0 l0 => ?_
 refine E1 7 [] (.slice a0 l.length b0) ?_
 have n0 := l0.rF 0 (hH l x : List PairT) (e := (aOx c17 hpb))
 exact ⟨a0, b0, (sl_congr (by rw [<- aOx c17 hpb]; simp)), (n0.pk [0])⟩
 refine Lt 6 [1] (([x]).flatMap cY) (λ u0 d0 x0 m0 => ?_)
 have i0 := m0.pk [1, 0, 2]
 refine cq 0 [] (vs := [.slice a0 l.length b0, I (plc l x.key : Int), .slice (bl d0) ([x]).length 1]) (hvs := (by first | rfl | (rw [show ([x]).length = 1 from t6]; rfl))) (b := zO _ _ _ (plc l x.key) (bl d0) 1 [x] u0 (i0.fp [0, 1] rfl rfl) t8 t8 t8 t8) (c := ?_)
 rintro _ C0 ⟨c0, e0, rfl, r0⟩
 have h0 := i0.cl 2 r0
 have z0 := (h0.cap 0 rfl).1
 refine E1 3 [] (.slice c0 (l.take (plc l x.key) ++ ([x] ++ l.drop (plc l x.key))).length e0) ?_
 have o0 := h0.rF 0 (hH l x : List PairT) (e := (aJu c17))
 exact ⟨c0, e0, (sl_congr (by rw [<- aJu c17])), (o0.pk [0])⟩
theorem xU (A : Option Addr) (c : Nat) (l : List PairT) (k : Int) (w : World) (hA : Rd w A (l.flatMap cY)) (hl : l.length <= 1048576) (hv : bR (bG l) = true) :
  aR Tryz.prog 195 [.slice A l.length c, I k] w (λ v w1 => ∃ (A1 : Option Addr) (c1 : Nat), v = .tuple #[.slice A1 (nW l k).length c1, .bool (cT l k)] /\ Mem w w1 [] [oP A1 c1 (nW l k)]) := by
 have hM : Mem w w [] [] := Mem.refl
 refine aR.n2 Tryz.func195 rfl Tryz.results195 Tryz.ntmps195 rfl ?_
 refine cp 9 [] (b := oH _ _ _ _ w (hA.at hM) q0 q0) (c := λ l0 f0 => ?_)
 have hasc := (bQ.1 hv).2
 have hpl := yW l k
 refine cq 9 [] (b := mS _ _ _ l0 (hA.at f0) q0) (c := ?_)
 rintro _ m0 ⟨b0, d0, rfl, j0⟩
 have a0 := f0.cl 0 j0
 have n0 := (a0.cap 0 rfl).1
 refine cn 8 [] (λ c18 => ?_) (λ c18 => ?_)
 have c19 : cT l k = false := by simpa using c18
 refine E2 7 [] (.slice b0 l.length d0) (.bool false) ?_
 have h0 := a0.rF 0 (nW l k : List PairT) (e := (aEg c19).symm)
 exact ⟨b0, d0, (by rw [c19, aEg c19]), (h0.pk [0])⟩
 have c19 : cT l k = true := by simpa using c18
 obtain ⟨hpb, hpk⟩ := (mE hasc).1 c19
 refine ov 6 [] (a := bL (plc l k + 1)) (b := ?_)
 refine cq 0 [] (b := zM _ _ _ (plc l k) _ m0 (a0.fp [0] rfl rfl) qo qo qo) (c := ?_)
 rintro _ p0 ⟨c0, e0, rfl, k0⟩
 have g0 := a0.cl 1 k0
 have o0 := (g0.cap 0 rfl).1
 refine E2 4 [] (.slice c0 (l.take (plc l k) ++ l.drop (plc l k + 1)).length e0) (.bool true) ?_
 have i0 := g0.rF 0 (nW l k : List PairT) (e := (aBz c19))
 exact ⟨c0, e0, (by rw [c19, aBz c19]), (i0.pk [0])⟩
theorem sput_fn (A : Option Addr) (c : Nat) (l : List PairT) (x : PairT) (w : World) (hA : Rd w A (l.flatMap cY)) (hl : l.length <= 1048576) (ha : asc (bG l) = true) (hc : l.length <= c) :
  aR Tryz.prog 126 [.slice A l.length c, .agg #[I x.key, I x.val]] w (λ v w1 => ∃ (A1 : Option Addr) (c1 : Nat), v = .slice A1 (hH l x).length c1 /\ Mem w w1 [] [oP A1 c1 (hH l x)]) := by
 have hM : Mem w w [] [] := Mem.refl
 refine aR.n1 Tryz.func126 rfl Tryz.results126 Tryz.ntmps126 rfl ?_
 refine Bx 2 [] λ U0 K0 R0 M0 => ?_
 refine ct0 2 [] ([(5, Vi ((plc l x.key : Nat) : Int))] : List (Nat × SV)) True ([]) [0, 3] [0] ?_ (λ σ W0 hI O0 => ?_)
 refine any 0 [] 6 [0] λ E0 m0 => ?_
 refine aO [0, 2, 3] [0] 1 ?_
 refine cq 0 [] (b := kB _ _ _ E0 (hA.at m0) q0) (c := ?_)
 rintro _ D0 ⟨J0, L0, rfl, z0⟩
 have l0 := m0.cl 0 z0
 have T0 := (l0.cap 0 rfl).1
 refine os 0 [] [1] ?_
 refine aO [] [] 4 ?_
 refine cp 0 [] (b := vN _ _ _ _ D0 (l0.rd 0 rfl) q0) (c := λ V0 N0 => ?_)
 refine os 0 [] [1] ?_
 refine an [5] [] ?_
 exact ce0 0 [] [1] (h := t12)
 have hpl := yW l x.key
 refine ct2 0 [] (λ (A2 : Option Addr) (c2 : Nat) => ([(6, Vl A2 (l.take (plc l x.key) ++ [x]).length c2)] : List (Nat × SV))) (λ A2 c2 => True) (λ A2 c2 => [oP A2 c2 (l.take (plc l x.key) ++ [x])]) [0, 3, 5] [0] ?_ (λ A2 c2 σ X0 hI v0 => ?_)
 refine any 0 [] 8 [0] λ H0 n0 => ?_
 refine av [0, 1] [] 2 (s := Vl A (l.take (plc l x.key)).length c) (a := by exact λ w2 hw2 => cv (Ru.congr (Ru.lsliceTo (h := plc l x.key) Tryz.underlying43 jA rfl rfl t1 t1) (sl_congr t6)) rfl) (b := ?_)
 refine aT [4] [0] 3 5 ?_ ?_
 refine cq 0 [] (b := mM _ _ _ H0 (nK dI (hA.at n0)) q0) (c := ?_)
 rintro _ F0 ⟨s0, u0, rfl, k0⟩
 have e0 := n0.cl 0 k0
 have C0 := (e0.cap 0 rfl).1
 refine os 0 [] [1] ?_
 refine aO [] [] 5 ?_
 refine Lt 0 [] (([x]).flatMap cY) (λ p0 t0 A0 f0 => ?_)
 refine os 0 [] [2] ?_
 refine aO [] [] 6 ?_
 refine aF 0 [] 1 (f0.rd 0 rfl) (λ G0 h0 i0 B0 j0 => ?_)
 refine os 0 [] [2] ?_
 refine an [7] [] ?_
 have P0 := j0.rF 1 (l.take (plc l x.key) ++ [x] : List PairT) (e := t2)
 exact ce2 0 [] h0 i0 [1, 2] (h := t12)
 refine Lt 0 [] (([x]).flatMap cY) (λ p0 t0 A0 f0 => ?_)
 refine os 0 [] [1] ?_
 refine aO [] [] 3 ?_
 refine cq 0 [] (b := mM _ _ _ p0 (nK dI (hA.at f0)) q0) (c := ?_)
 rintro _ F0 ⟨s0, u0, rfl, k0⟩
 have e0 := f0.cl 0 k0
 have C0 := (e0.cap 0 rfl).1
 refine os 0 [] [2] ?_
 refine aO [] [] 6 ?_
 refine aF 0 [] 0 (e0.rd 1 rfl) (λ G0 h0 i0 B0 j0 => ?_)
 refine os 0 [] [2] ?_
 refine an [7] [] ?_
 have Q0 := j0.rF 0 (l.take (plc l x.key) ++ [x] : List PairT) (e := t2)
 exact ce2 0 [] h0 i0 [0, 2] (h := t12)
 have S0 := (v0.cap 0 rfl).1
 refine dr 2 [] ?_
 refine qp 5 [] 23 (λ g23 => ?_) (λ g23 => ?_)
 have a0 : plc l x.key < l.length := t3
 refine qv 2 [] (a := by exact λ _ hw2 => cJ a0 (hA.at hw2)) (b := ?_)
 refine qv 0 [] (a := by exact λ _ hw2 => fZ a0 (hA.at hw2)) (b := ?_)
 refine qv 0 [] (a := by exact λ _ hw2 => gF a0 (hA.at hw2)) (b := ?_)
 refine qn 4 [1] λ I0 g0 => ?_
 refine cd 0 [] (λ c32 => ?_) (λ c32 => ?_)
 have hin := mJ ha a0 c32
 refine ov 2 [] (a := bL (plc l x.key + 1)) (b := ?_)
 refine ov 7 [] (s := Vl (if c = (plc l x.key + 1) then A else ofs A ((plc l x.key + 1) * 2)) (l.drop (plc l x.key + 1)).length (c - (plc l x.key + 1))) (a := by exact cv (Ru.congr (Ru.lsliceFrom (l := (plc l x.key + 1)) Tryz.underlying43 jA rfl rfl t1 t1) (sl_congr t6)) rfl) (b := ?_)
 refine aF 0 [] 0 (kY (k := (plc l x.key + 1)) (c := c) dI (hA.at g0) q2 q2) (λ r0 b0 c0 o0 d0 => ?_)
 refine E1 3 [] (.slice b0 (l.take (plc l x.key) ++ [x] ++ l.drop (plc l x.key + 1)).length c0) ?_
 have w0 := d0.rF 0 (hH l x : List PairT) (e := by first | (unfold hH; rw [if_pos (mJ ha a0 c32)]; simp; done) | (unfold hH; rw [nY ha (λ hb => by first | omega | exact λ e => c32 e)]; simp))
 exact ⟨b0, c0, (sl_congr (by first | (unfold hH; rw [if_pos (mJ ha a0 c32)]; simp; done) | (unfold hH; rw [nY ha (λ hb => by first | omega | exact λ e => c32 e)]; simp))), (w0.pk [0])⟩
 refine ov 6 [] (s := Vl (if c = plc l x.key then A else ofs A ((plc l x.key) * 2)) (l.drop (plc l x.key)).length (c - (plc l x.key))) (a := by exact cv (Ru.congr (Ru.lsliceFrom (l := plc l x.key) Tryz.underlying43 jA rfl rfl t1 t1) (sl_congr t6)) rfl) (b := ?_)
 refine aF 0 [] 0 (kY (k := plc l x.key) (c := c) dI (hA.at g0) q2 q2) (λ r0 b0 c0 o0 d0 => ?_)
 refine E1 3 [] (.slice b0 (l.take (plc l x.key) ++ [x] ++ l.drop (plc l x.key)).length c0) ?_
 have x0 := d0.rF 0 (hH l x : List PairT) (e := by first | (unfold hH; rw [if_pos (mJ ha a0 c32)]; simp; done) | (unfold hH; rw [nY ha (λ hb => by first | omega | exact λ e => c32 e)]; simp))
 exact ⟨b0, c0, (sl_congr (by first | (unfold hH; rw [if_pos (mJ ha a0 c32)]; simp; done) | (unfold hH; rw [nY ha (λ hb => by first | omega | exact λ e => c32 e)]; simp))), (x0.pk [0])⟩
 refine qn 9 [] λ I0 g0 => ?_
 refine ov 7 [] (s := Vl (if c = plc l x.key then A else ofs A ((plc l x.key) * 2)) (l.drop (plc l x.key)).length (c - (plc l x.key))) (a := by exact cv (Ru.congr (Ru.lsliceFrom (l := plc l x.key) Tryz.underlying43 jA rfl rfl t1 t1) (sl_congr t6)) rfl) (b := ?_)
 refine aF 0 [] 0 (kY (k := plc l x.key) (c := c) dI (hA.at g0) q2 q2) (λ r0 b0 c0 o0 d0 => ?_)
 refine E1 3 [] (.slice b0 (l.take (plc l x.key) ++ [x] ++ l.drop (plc l x.key)).length c0) ?_
 have y0 := d0.rF 0 (hH l x : List PairT) (e := by first | (unfold hH; rw [if_pos (mJ ha a0 c32)]; simp; done) | (unfold hH; rw [nY ha (λ hb => by first | omega | exact λ e => c32 e)]; simp))
 exact ⟨b0, c0, (sl_congr (by first | (unfold hH; rw [if_pos (mJ ha a0 c32)]; simp; done) | (unfold hH; rw [nY ha (λ hb => by first | omega | exact λ e => c32 e)]; simp))), (y0.pk [0])⟩
theorem aFw (A : Option Addr) (c : Nat) (l : List PairT) (k : Int) (w : World) (hA : Rd w A (l.flatMap cY)) (hl : l.length <= 1048576) :
  aR Tryz.prog 177 [.slice A l.length c, I k] w (λ v w1 => v = .tuple #[I (if bW l then (lW l k).getD 0 else 0), .bool (bW l && (lW l k).isSome)] /\ Mem w w1 [] []) := by
 have hM : Mem w w [] [] := Mem.refl
 refine aR.n2 Tryz.func177 rfl Tryz.results177 Tryz.ntmps177 rfl ?_
 refine cp 9 [] (b := oA _ _ _ w (hA.at hM) q0) (c := λ j0 c0 => ?_)
 refine pt 2 [] 9 (λ g9 => ?_) (λ g9 => ?_)
 refine E2 14 [] (I 0) (.bool false) ?_
 exact ⟨(by cases hvv : bW l with | false => rfl | true => rw [aCh (l := l) (k := k) (by simp_all)]; simp), (Mem.none c0)⟩
 refine cq 1 [] (b := kB _ _ _ j0 (hA.at c0) q0) (c := ?_)
 rintro _ k0 ⟨n0, p0, rfl, g0⟩
 have e0 := c0.cl 0 g0
 have s0 := (e0.cap 0 rfl).1
 refine cp 1 [] (b := wQ _ _ _ _ k0 (e0.rd 0 rfl) q0) (c := λ l0 d0 => ?_)
 refine cn 3 [] (λ c15 => ?_) (λ c15 => ?_)
 refine E2 6 [] (I 0) (.bool false) ?_
 exact ⟨(by cases hvv : bW l with | false => rfl | true => rw [aCh (l := l) (k := k) (by simp_all)]; simp), (Mem.none d0)⟩
 have hv : bW l = true := by simp_all
 have hasc := pQ hv
 have hin : cT l k = true := by simp_all [cT]
 obtain ⟨hpb, hpk⟩ := (mE hasc).1 hin
 have hlk := aFd hasc hpb hpk
 have hbp : fG (bG l) k = plc l k := rfl
 refine cq 5 [] (b := kB _ _ _ l0 (hA.at d0) q0) (c := ?_)
 rintro _ m0 ⟨o0, r0, rfl, i0⟩
 have f0 := d0.cl 0 i0
 have t0 := (f0.cap 0 rfl).1
 refine cp 1 [] (b := vN _ _ _ _ m0 (f0.rd 0 rfl) q0) (c := λ u0 a0 => ?_)
 have b0 : plc l k < l.length := hpb
 refine ov 0 [] (a := cJ b0 (hA.at a0) (h0 := t1)) (b := ?_)
 refine ov 0 [] (a := fZ b0 (hA.at a0)) (b := ?_)
 refine ov 0 [] (a := gF b0 (hA.at a0)) (b := ?_)
 refine E2 4 [] (I (l[plc l k]'b0).val) (.bool true) ?_
 exact ⟨(by rw [if_pos hv, hlk, hv]; rfl), (Mem.none a0)⟩
end Go.Proofs.YtemejgglbhjodaaGreatDoor
