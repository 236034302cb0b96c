/- Own layer, part 11: plain theorems on the walk of this program's functions and on what they compute; no conditions. -/
import Derived.Test.YtemejgglbhjodaaGreatDoorP8
set_option linter.unusedVariables false
set_option linter.unusedSimpArgs false
namespace Go.Px
open Go.RowKit Go.ChangeShapes Go.WideShapes Go.Deep
theorem S_of (s : ByteArray) : Value.string s = S s.data.toList := by cases s; simp [S]
theorem ne_len {α : Type} [DecidableEq α] {a b : List α} (h : a.length ≠ b.length) : decide (a = b) = false := decide_eq_false fun e => h (by rw [e])
theorem ne_at {α : Type} [DecidableEq α] {a b : List α} {k : Nat} (ha : k < a.length) (hb : k < b.length) (h : a[k] ≠ b[k]) : decide (a = b) = false := decide_eq_false fun e => h (by subst e; rfl)
theorem eq_all {α : Type} [DecidableEq α] {a b : List α} {k : Nat} (ha : a.length ≤ k) (hb : b.length ≤ k) (h : a.take k = b.take k) : decide (a = b) = true := decide_eq_true (by rwa [aE ha, aE hb] at h)
theorem eq_step {α : Type} {a b : List α} {k : Nat} (ha : k < a.length) (hb : k < b.length) (h : a.take k = b.take k) (he : a[k] = b[k]) : a.take (k + 1) = b.take (k + 1) := by rw [dO ha, dO hb, h, he]
section
variable {H : Type} {eh : TypeId × Value → H} {P : Program} {w : World} {base : Nat} {spare : Nat → Bool} {held : Bool}
theorem bytes_len {s : ByteArray} : s.size = s.data.toList.length := by rw [Array.length_toList]; rfl
theorem str_el {t : TypeId} (ht : P.underlying t = some .string) : ∀ n cs y, DataW.trod eh P w base spare held n t cs = some y → ∃ a : Str, cs = [S a] ∧ a.length ≤ 9223372036854775807 := fun n cs y h => by
  obtain ⟨s, rfl, _, hw⟩ := DataW.trod_string ht h
  refine ⟨s.data.toList, congrArg (fun v => [v]) (S_of s), ?_⟩
  rw [← bytes_len]; unfold maxLen at hw; omega
end
theorem fillI_zero {α : Type} {l : List α} {z : α} : List.replicate l.length z = l.take 0 ++ List.replicate (l.length - 0) z := by simp
theorem fillI_all {α : Type} {l : List α} {z : α} {k : Nat} (hk : l.length ≤ k) : l.take k ++ List.replicate (l.length - k) z = l := by
  rw [aE hk, show l.length - k = 0 by omega]; simp
theorem fillI_len {α : Type} {l : List α} {z : α} {k : Nat} (hk : k ≤ l.length) : (l.take k ++ List.replicate (l.length - k) z).length = l.length := by simp; omega
end Go.Px
namespace Go.Proofs.YtemejgglbhjodaaGreatDoor
open Go.Px
theorem en25 : bB Tryz.prog 25 := Px.enters_of Tryz.func25 (by kernel_rfl) (by kernel_rfl)
theorem en26 : bB Tryz.prog 26 := Px.enters_of Tryz.func26 (by kernel_rfl) (by kernel_rfl)
theorem en27 : bB Tryz.prog 27 := Px.enters_of Tryz.func27 (by kernel_rfl) (by kernel_rfl)
instance ien25 : EnC Tryz.prog 25 := ⟨en25⟩
instance ien26 : EnC Tryz.prog 26 := ⟨en26⟩
instance ien27 : EnC Tryz.prog 27 := ⟨en27⟩
theorem szStringS_fn (A : Option Addr) (c : Nat) (l : List Str) (left : Int) (w : World) (hA : Rd w A (l.map S)) (hl : l.length ≤ 9223372036854775807) (hs : ∀ x ∈ l, x.length ≤ 9223372036854775807) (hlf : left = 1048576) :
    aR Tryz.prog 25 [.slice A l.length c, I left] w (fun v w1 => ∃ (r1 : Int), v = I r1 ∧ (0 ≤ r1 → l.length ≤ 1048576 ∧ ∀ x ∈ l, x.length ≤ 1048576) ∧ Mem w w1 [] []) := by
  have hM : Mem w w [] [] := Mem.refl
  refine aR.n1 Tryz.func25 rfl Tryz.results25 Tryz.ntmps25 rfl ?_
  refine ov 9 [] (a := eV) (b := ?_)
  refine cd 8 [] (fun c11 => ?_) (fun c11 => ?_)
  · refine E1 5 [] (I (-1)) ?_
    exact ⟨(-1), (by first | rfl | exact sl_congr (by first | omega | (simp; done) | (simp; omega)) | (simp; done)), (fun h9 => absurd h9 (by decide)), (Mem.none hM)⟩
  refine lp2 7 [] (fun (k : Nat) (r : Int) => ([(1, Vi r), (5, Vi ((k : Nat) : Int))] : List (Nat × SV))) (fun (k : Nat) (r : Int) => (k ≤ l.length) ∧ (0 ≤ r ∧ r ≤ 1048576 ∧ l.length ≤ 1048576) ∧ (∀ x ∈ l.take k, x.length ≤ 1048576)) (fun (k : Nat) (r : Int) => []) (fun (k : Nat) (r : Int) => l.length - k) [0] [] [] 0 (left - ((l.length : Nat) : Int)) (fun k r σ f0 hI b0 => ?_) (h0 := ⟨(bI _), (by (try dsimp only); omega), (by (try dsimp only); simp)⟩)
  obtain ⟨e0, d0, c0⟩ := hI
  refine cd 8 [] (fun c15 => ?_) (fun c15 => ?_)
  · have a0 : k < l.length := (by omega)
    refine ov 8 [] (a := cG a0 (hA.at b0) (h0 := by omega)) (b := ?_)
    have hxl := hs _ (aC a0)
    refine ov 0 [] (a := eT a0 (hA.at b0)) (b := ?_)
    refine ov 1 [] (a := eV) (b := ?_)
    refine cd 7 [] (fun c26 => ?_) (fun c26 => ?_)
    · refine E1 5 [] (I (-1)) ?_
      exact ⟨(-1), (by first | rfl | exact sl_congr (by first | omega | (simp; done) | (simp; omega)) | (simp; done)), (fun h9 => absurd h9 (by decide)), (Mem.none b0)⟩
    refine ov 3 [] (a := bL (k + 1)) (b := ?_)
    exact le2 2 [] (k + 1) (r - ((l[k]'a0).length : Int)) [] (h := by exact ⟨(by (try dsimp only); omega), (by (try dsimp only); omega), (fun x hx => by rw [dO a0] at hx; rcases bE.1 hx with hx | hx; exact c0 x hx; rw [aU.1 hx]; omega)⟩)
  refine E1 7 [] (I r) ?_
  exact ⟨r, (by first | rfl | exact sl_congr (by first | omega | (simp; done) | (simp; omega)) | (simp; done)), (fun _ => ⟨d0.2.2, by have h9 := c0; rwa [aE (by omega)] at h9⟩), (Mem.none b0)⟩
theorem toStringS_fn (A : Option Addr) (c : Nat) (l : List Str) (w : World) (hA : Rd w A (l.map S)) (hl : l.length ≤ 1048576) :
    aR Tryz.prog 26 [.slice A l.length c] w (fun v w1 => ∃ (A1 : Option Addr) (c1 : Nat), v = .slice A1 l.length c1 ∧ Mem w w1 [] [[⟨.slice A1 l.length c1, 9, 1, l.length, l.map S⟩]]) := by
  have hM : Mem w w [] [] := Mem.refl
  refine aR.n1 Tryz.func26 rfl Tryz.results26 Tryz.ntmps26 rfl ?_
  refine go 8 [] ?_
  refine O.mmake (k := l.length) (sz := 1) (xs := (List.replicate l.length []).map S) hM rfl Tryz.underlying47 el9 rfl rfl rfl rfl (by omega) (by omega) (aKl rfl) (fun m0 a0 q0 g0 => ?_)
  have d0 : (List.replicate l.length [] : List Str) = l.take 0 ++ List.replicate (l.length - 0) ([] : Str) := fillI_zero
  have o0 : Mem w m0 [] [[⟨.slice (bl a0) l.length l.length, 9, 1, l.length, (l.take 0 ++ List.replicate (l.length - 0) ([] : Str)).map S⟩]] := g0.relen 0 (n' := l.length) (xs' := (l.take 0 ++ List.replicate (l.length - 0) ([] : Str)).map S) rfl (by first | rfl | exact congrArg List.length d0 | (have hqq := congrArg List.length d0; first | omega | (simp at hqq ⊢; omega)) | (simp; done) | (simp; omega)) (congrArg (fun z_ => z_.map S) d0) rfl
  refine lp1 8 [] (fun (k : Nat) => ([(3, Vl (bl a0) l.length l.length), (4, Vi ((k : Nat) : Int))] : List (Nat × SV))) (fun (k : Nat) => (k ≤ l.length)) (fun (k : Nat) => [[⟨.slice (bl a0) l.length l.length, 9, 1, l.length, (l.take k ++ List.replicate (l.length - k) ([] : Str)).map S⟩]]) (fun (k : Nat) => l.length - k) [0] [0] [] 0 (fun k σ s0 hI b0 => ?_) (h0 := (bI _))
  have k0 := hI
  have r0 := (b0.cap 0 rfl).1
  refine cd 8 [] (fun c11 => ?_) (fun c11 => ?_)
  · have c0 : k < l.length := (by first | omega | (simp; omega))
    refine ov 8 [] (a := cG c0 (hA.at b0)) (b := ?_)
    refine ov 0 [] (a := eT c0 (hA.at b0)) (b := ?_)
    have f0 : k < (l.take k ++ List.replicate (l.length - k) ([] : Str)).length := (by rw [fillI_len k0]; exact c0)
    refine ov 0 [] (a := cG f0 (b0.rd 0 rfl) (h0 := by omega)) (b := ?_)
    refine sM 0 [] 0 f0 fun n0 i0 => ?_
    refine ov 3 [] (a := bL (k + 1)) (b := ?_)
    have e0 : ((l.take k ++ List.replicate (l.length - k) ([] : Str)).set k (l[k]'c0) : List Str) = l.take (k + 1) ++ List.replicate (l.length - (k + 1)) ([] : Str) := (aLb c0)
    have p0 : Mem w n0 [] [[⟨.slice (bl a0) l.length l.length, 9, 1, l.length, (l.take (k + 1) ++ List.replicate (l.length - (k + 1)) ([] : Str)).map S⟩]] := i0.relen 0 (n' := l.length) (xs' := (l.take (k + 1) ++ List.replicate (l.length - (k + 1)) ([] : Str)).map S) rfl (by first | rfl | exact congrArg List.length e0 | (have hqq := congrArg List.length e0; first | omega | (simp at hqq ⊢; omega)) | (simp; done) | (simp; omega)) (congrArg (fun z_ => z_.map S) e0) rfl
    exact le1 2 [] (k + 1) [0] (h := by exact (by (try dsimp only); omega))
  refine E1 7 [] (.slice (bl a0) l.length l.length) ?_
  have l0 : (l.take k ++ List.replicate (l.length - k) ([] : Str) : List Str) = l := (fillI_all (by omega))
  have j0 := b0.reM 0 l0
  exact ⟨bl a0, l.length, (by first | rfl | exact sl_congr (by first | omega | (simp; done) | (simp; omega)) | (simp; done)), (j0.pk [0])⟩
theorem eqStringS_fn (A : Option Addr) (c : Nat) (a : List Str) (B : Option Addr) (d : Nat) (b : List Str) (w : World) (hA : Rd w A (a.map S)) (hB : Rd w B (b.map S)) (ha : a.length ≤ 1048576) :
    aR Tryz.prog 27 [.slice A a.length c, .slice B b.length d] w (fun v w1 => v = .bool (decide (a = b)) ∧ Mem w w1 [] []) := by
  have hM : Mem w w [] [] := Mem.refl
  refine aR.n1 Tryz.func27 rfl Tryz.results27 Tryz.ntmps27 rfl ?_
  refine cd 13 [] (fun c10 => ?_) (fun c10 => ?_)
  · refine E1 5 [] (.bool false) ?_
    exact ⟨(by rw [ne_len (by omega)]), (Mem.none hM)⟩
  refine lp1 7 [] (fun (k : Nat) => ([(5, Vi ((k : Nat) : Int))] : List (Nat × SV))) (fun (k : Nat) => (k ≤ a.length) ∧ (a.take k = b.take k)) (fun (k : Nat) => []) (fun (k : Nat) => a.length - k) [0, 1] [] [] 0 (fun k σ i0 hI e0 => ?_) (h0 := ⟨(bI _), (by (try dsimp only); simp)⟩)
  obtain ⟨f0, c0⟩ := hI
  refine cd 8 [] (fun c14 => ?_) (fun c14 => ?_)
  · refine dr 4 [] ?_
    have a0 : k < a.length := (by first | omega | (simp; omega))
    refine qv 2 [] (a := by exact fun _ hw2 => cG a0 (hA.at hw2)) (b := ?_)
    refine qv 0 [] (a := by exact fun _ hw2 => eT a0 (hA.at hw2)) (b := ?_)
    have b0 : k < b.length := (by first | omega | (simp; omega))
    refine qv 2 [] (a := by exact fun _ hw2 => cG b0 (hB.at hw2)) (b := ?_)
    refine qv 0 [] (a := by exact fun _ hw2 => eT b0 (hB.at hw2)) (b := ?_)
    refine qn 1 [] fun g0 d0 => ?_
    refine cd 0 [] (fun c25 => ?_) (fun c25 => ?_)
    · refine E1 5 [] (.bool false) ?_
      exact ⟨(by rw [ne_at a0 b0 (by simpa using c25)]), (Mem.none d0)⟩
    refine ov 3 [] (a := bL (k + 1)) (b := ?_)
    exact le1 2 [] (k + 1) [] (h := by exact ⟨(by (try dsimp only); omega), (eq_step a0 b0 c0 (by simpa using c25))⟩)
  refine E1 6 [] (.bool true) ?_
  exact ⟨(by rw [eq_all (by omega) (by omega) c0]), (Mem.none e0)⟩
end Go.Proofs.YtemejgglbhjodaaGreatDoor
