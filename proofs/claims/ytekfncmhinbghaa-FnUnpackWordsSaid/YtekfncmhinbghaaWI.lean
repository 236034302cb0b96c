/- Own layer: part of this seat (WI). Plain theorems; no conditions. -/
import Derived.Test.YtekfncmhinbghaaWH
set_option linter.unusedVariables false
set_option linter.unusedSimpArgs false
namespace Go.Proofs.Ytekfncmhinbghaa.V
open Go.Px
theorem vDrawValidWords_fn (A : Option Addr) (c : Nat) (l : List UInt8) (w : World) (hA : Rd w A ((l).map byteV)) (hl : l.length ≤ 1048576) (hc : l.length ≤ c) :
    Does Try.prog 28 [.slice (A) ((l).length) (c)] w (fun v w1 => ∃ (l1 : List Str) (A1 : Option Addr) (c1 : Nat), v = .slice (A1) ((l1).length) (c1) ∧ (l1.length ≤ 12) ∧ (∀ s ∈ l1, s.length ≤ 8) ∧ Mem w w1 [] [[⟨.slice (A1) ((l1).length) (c1), 9, 1, ((l1).length), (l1).map S⟩]]) := by
  have hM : Mem w w [] [] := Mem.refl
  refine Does.enter1 Try.func28 rfl Try.results28 Try.ntmps28 rfl ?_
  refine C.seq ?_
  refine C.region ?_
  refine O.val (v := .slice (none) (0) (0)) rfl (Ru.assign rfl) rfl ?_
  refine O.nil ?_
  refine C.seq ?_
  refine C.region ?_
  refine O.val (v := .slice (A) ((l).length) (c)) rfl (Ru.move rfl) rfl ?_
  refine O.callg [.slice (A) ((l).length) (c)] rfl en53 rfl rfl (newReader_fn A c l w (hA.at hM) (by first | omega | assumption | (simp; omega) | simp | (intros; omega)) (by first | omega | assumption | (simp; omega) | simp | (intros; omega))) ?_
  rintro _ w1_1 ⟨gr1_1, l11_1, rfl, hl11_1, hlen1_1, hR1_1⟩
  have hM1_1 : Mem w w1_1 [] [[⟨.slice (bl gr1_1) 1 1, 66, 2, 1, [.slice (A) ((l11_1).length) (c), I (((0 : Nat) : Int))]⟩]] := Mem.call (Ma := []) hM hR1_1 rfl
  have hrA : Rd w A (List.map byteV l11_1) := by rcases hl11_1 with h | h <;> rw [h]; exact hA; exact rd_take1 hA
  have hrl := hlen1_1
  refine O.callg [.pointer (ofs (bl gr1_1) (0))] rfl en56 rfl rfl (anyWords_fn gr1_1 A c l11_1 0 w1_1 (hrA.at hM1_1) (Mem.ng_old hM1_1 hrA 0 rfl) hrl (Mem.focus (Ma := [[⟨.slice (bl gr1_1) 1 1, 66, 2, 1, [.slice (A) ((l11_1).length) (c), I (((0 : Nat) : Int))]⟩]]) (rest := []) hM1_1 rfl) (by first | omega | assumption | (simp; omega) | simp | (intros; omega))) ?_
  rintro _ w1_2 ⟨l11_2, A11_2, c11_2, q11_2, rfl, hl1_2, hs1_2, hq1_2, hR1_2⟩
  have hM1_2 : Mem w w1_2 [] [[⟨.slice (bl gr1_1) 1 1, 66, 2, 1, [.slice (A) ((l11_1).length) (c), I (((q11_2 : Nat) : Int))]⟩], [⟨.slice (A11_2) ((l11_2).length) (c11_2), 9, 1, ((l11_2).length), (l11_2).map S⟩]] := Mem.call (Ma := [[⟨.slice (bl gr1_1) 1 1, 66, 2, 1, [.slice (A) ((l11_1).length) (c), I (((0 : Nat) : Int))]⟩]]) hM1_1 hR1_2 rfl
  refine O.val (v := .slice (A11_2) ((l11_2).length) (c11_2)) rfl (Ru.assign rfl) rfl ?_
  refine O.nil ?_
  refine C.ret ?_
  refine P1 (v := .slice (A11_2) ((l11_2).length) (c11_2)) rfl ?_
  exact ⟨l11_2, A11_2, c11_2, (by first | rfl | exact sl_congr (by simp) | (simp; done)), hl1_2, hs1_2, (hM1_2.pick [1] (by decide) rfl)⟩

theorem vDrawPackWords_fn (A : Option Addr) (c : Nat) (l : List UInt8) (w : World) (hA : Rd w A ((l).map byteV)) (hl : l.length ≤ 1048576) (hc : l.length ≤ c) :
    Does Try.prog 31 [.slice (A) ((l).length) (c)] w (fun v w1 => ∃ (l1 : List Str) (A1 : Option Addr) (c1 : Nat), v = .slice (A1) ((l1).length) (c1) ∧ (l1.length ≤ 12) ∧ (∀ s ∈ l1, s.length ≤ 8) ∧ Mem w w1 [] [[⟨.slice (A1) ((l1).length) (c1), 9, 1, ((l1).length), (l1).map S⟩]]) := by
  have hM : Mem w w [] [] := Mem.refl
  refine Does.enter1 Try.func31 rfl Try.results31 Try.ntmps31 rfl ?_
  refine C.seq ?_
  refine C.region ?_
  refine O.val (v := .slice (none) (0) (0)) rfl (Ru.assign rfl) rfl ?_
  refine O.nil ?_
  refine C.seq ?_
  refine C.region ?_
  refine O.val (v := .slice (A) ((l).length) (c)) rfl (Ru.move rfl) rfl ?_
  refine O.callg [.slice (A) ((l).length) (c)] rfl en53 rfl rfl (newReader_fn A c l w (hA.at hM) (by first | omega | assumption | (simp; omega) | simp | (intros; omega)) (by first | omega | assumption | (simp; omega) | simp | (intros; omega))) ?_
  rintro _ w1_1 ⟨gr1_1, l11_1, rfl, hl11_1, hlen1_1, hR1_1⟩
  have hM1_1 : Mem w w1_1 [] [[⟨.slice (bl gr1_1) 1 1, 66, 2, 1, [.slice (A) ((l11_1).length) (c), I (((0 : Nat) : Int))]⟩]] := Mem.call (Ma := []) hM hR1_1 rfl
  have hrA : Rd w A (List.map byteV l11_1) := by rcases hl11_1 with h | h <;> rw [h]; exact hA; exact rd_take1 hA
  have hrl := hlen1_1
  refine O.callg [.pointer (ofs (bl gr1_1) (0))] rfl en56 rfl rfl (anyWords_fn gr1_1 A c l11_1 0 w1_1 (hrA.at hM1_1) (Mem.ng_old hM1_1 hrA 0 rfl) hrl (Mem.focus (Ma := [[⟨.slice (bl gr1_1) 1 1, 66, 2, 1, [.slice (A) ((l11_1).length) (c), I (((0 : Nat) : Int))]⟩]]) (rest := []) hM1_1 rfl) (by first | omega | assumption | (simp; omega) | simp | (intros; omega))) ?_
  rintro _ w1_2 ⟨l11_2, A11_2, c11_2, q11_2, rfl, hl1_2, hs1_2, hq1_2, hR1_2⟩
  have hM1_2 : Mem w w1_2 [] [[⟨.slice (bl gr1_1) 1 1, 66, 2, 1, [.slice (A) ((l11_1).length) (c), I (((q11_2 : Nat) : Int))]⟩], [⟨.slice (A11_2) ((l11_2).length) (c11_2), 9, 1, ((l11_2).length), (l11_2).map S⟩]] := Mem.call (Ma := [[⟨.slice (bl gr1_1) 1 1, 66, 2, 1, [.slice (A) ((l11_1).length) (c), I (((0 : Nat) : Int))]⟩]]) hM1_1 hR1_2 rfl
  refine O.val (v := .slice (A11_2) ((l11_2).length) (c11_2)) rfl (Ru.assign rfl) rfl ?_
  refine O.nil ?_
  refine C.ret ?_
  refine P1 (v := .slice (A11_2) ((l11_2).length) (c11_2)) rfl ?_
  exact ⟨l11_2, A11_2, c11_2, (by first | rfl | exact sl_congr (by simp) | (simp; done)), hl1_2, hs1_2, (hM1_2.pick [1] (by decide) rfl)⟩

theorem vDrawPackedSize_fn (A : Option Addr) (c : Nat) (l : List UInt8) (w : World) (hA : Rd w A ((l).map byteV)) (hl : l.length ≤ 1048576) (hc : l.length ≤ c) :
    Does Try.prog 35 [.slice (A) ((l).length) (c)] w (fun v w1 => ∃ (l1 : List Str) (A1 : Option Addr) (c1 : Nat), v = .slice (A1) ((l1).length) (c1) ∧ (l1.length ≤ 12) ∧ (∀ s ∈ l1, s.length ≤ 8) ∧ Mem w w1 [] [[⟨.slice (A1) ((l1).length) (c1), 9, 1, ((l1).length), (l1).map S⟩]]) := by
  have hM : Mem w w [] [] := Mem.refl
  refine Does.enter1 Try.func35 rfl Try.results35 Try.ntmps35 rfl ?_
  refine C.seq ?_
  refine C.region ?_
  refine O.val (v := .slice (none) (0) (0)) rfl (Ru.assign rfl) rfl ?_
  refine O.nil ?_
  refine C.seq ?_
  refine C.region ?_
  refine O.val (v := .slice (A) ((l).length) (c)) rfl (Ru.move rfl) rfl ?_
  refine O.callg [.slice (A) ((l).length) (c)] rfl en53 rfl rfl (newReader_fn A c l w (hA.at hM) (by first | omega | assumption | (simp; omega) | simp | (intros; omega)) (by first | omega | assumption | (simp; omega) | simp | (intros; omega))) ?_
  rintro _ w1_1 ⟨gr1_1, l11_1, rfl, hl11_1, hlen1_1, hR1_1⟩
  have hM1_1 : Mem w w1_1 [] [[⟨.slice (bl gr1_1) 1 1, 66, 2, 1, [.slice (A) ((l11_1).length) (c), I (((0 : Nat) : Int))]⟩]] := Mem.call (Ma := []) hM hR1_1 rfl
  have hrA : Rd w A (List.map byteV l11_1) := by rcases hl11_1 with h | h <;> rw [h]; exact hA; exact rd_take1 hA
  have hrl := hlen1_1
  refine O.callg [.pointer (ofs (bl gr1_1) (0))] rfl en56 rfl rfl (anyWords_fn gr1_1 A c l11_1 0 w1_1 (hrA.at hM1_1) (Mem.ng_old hM1_1 hrA 0 rfl) hrl (Mem.focus (Ma := [[⟨.slice (bl gr1_1) 1 1, 66, 2, 1, [.slice (A) ((l11_1).length) (c), I (((0 : Nat) : Int))]⟩]]) (rest := []) hM1_1 rfl) (by first | omega | assumption | (simp; omega) | simp | (intros; omega))) ?_
  rintro _ w1_2 ⟨l11_2, A11_2, c11_2, q11_2, rfl, hl1_2, hs1_2, hq1_2, hR1_2⟩
  have hM1_2 : Mem w w1_2 [] [[⟨.slice (bl gr1_1) 1 1, 66, 2, 1, [.slice (A) ((l11_1).length) (c), I (((q11_2 : Nat) : Int))]⟩], [⟨.slice (A11_2) ((l11_2).length) (c11_2), 9, 1, ((l11_2).length), (l11_2).map S⟩]] := Mem.call (Ma := [[⟨.slice (bl gr1_1) 1 1, 66, 2, 1, [.slice (A) ((l11_1).length) (c), I (((0 : Nat) : Int))]⟩]]) hM1_1 hR1_2 rfl
  refine O.val (v := .slice (A11_2) ((l11_2).length) (c11_2)) rfl (Ru.assign rfl) rfl ?_
  refine O.nil ?_
  refine C.ret ?_
  refine P1 (v := .slice (A11_2) ((l11_2).length) (c11_2)) rfl ?_
  exact ⟨l11_2, A11_2, c11_2, (by first | rfl | exact sl_congr (by simp) | (simp; done)), hl1_2, hs1_2, (hM1_2.pick [1] (by decide) rfl)⟩

theorem vDrawUnpackWords_fn (A : Option Addr) (c : Nat) (l : List UInt8) (w : World) (hA : Rd w A ((l).map byteV)) (hl : l.length ≤ 1048576) (hc : l.length ≤ c) :
    Does Try.prog 42 [.slice (A) ((l).length) (c)] w (fun v w1 => ∃ (l1 : List RestT) (A1 : Option Addr) (c1 : Nat), v = .slice (A1) ((l1).length) (c1) ∧ (l1.length ≤ 12) ∧ (∀ s ∈ l1, s.tail.length ≤ 8) ∧ Mem w w1 [] [[⟨.slice (A1) ((l1).length) (c1), 39, 2, ((l1).length), (l1).flatMap encR⟩]]) := by
  have hM : Mem w w [] [] := Mem.refl
  refine Does.enter1 Try.func42 rfl Try.results42 Try.ntmps42 rfl ?_
  refine C.seq ?_
  refine C.region ?_
  refine O.val (v := .slice (none) (0) (0)) rfl (Ru.assign rfl) rfl ?_
  refine O.nil ?_
  refine C.seq ?_
  refine C.region ?_
  refine O.val (v := .slice (A) ((l).length) (c)) rfl (Ru.move rfl) rfl ?_
  refine O.callg [.slice (A) ((l).length) (c)] rfl en53 rfl rfl (newReader_fn A c l w (hA.at hM) (by first | omega | assumption | (simp; omega) | simp | (intros; omega)) (by first | omega | assumption | (simp; omega) | simp | (intros; omega))) ?_
  rintro _ w1_1 ⟨gr1_1, l11_1, rfl, hl11_1, hlen1_1, hR1_1⟩
  have hM1_1 : Mem w w1_1 [] [[⟨.slice (bl gr1_1) 1 1, 66, 2, 1, [.slice (A) ((l11_1).length) (c), I (((0 : Nat) : Int))]⟩]] := Mem.call (Ma := []) hM hR1_1 rfl
  have hrA : Rd w A (List.map byteV l11_1) := by rcases hl11_1 with h | h <;> rw [h]; exact hA; exact rd_take1 hA
  have hrl := hlen1_1
  refine O.val (v := .pointer (ofs (bl gr1_1) (0))) rfl (Ru.assign rfl) rfl ?_
  refine O.nil ?_
  refine C.seq ?_
  refine C.region ?_
  refine O.val (v := .pointer (ofs (bl gr1_1) (0))) rfl (Ru.move rfl) rfl ?_
  refine O.callg [.pointer (ofs (bl gr1_1) (0))] rfl en56 rfl rfl (anyWords_fn gr1_1 A c l11_1 0 w1_1 (hrA.at hM1_1) (Mem.ng_old hM1_1 hrA 0 rfl) hrl (Mem.focus (Ma := [[⟨.slice (bl gr1_1) 1 1, 66, 2, 1, [.slice (A) ((l11_1).length) (c), I (((0 : Nat) : Int))]⟩]]) (rest := []) hM1_1 rfl) (by first | omega | assumption | (simp; omega) | simp | (intros; omega))) ?_
  rintro _ w2_1 ⟨l12_1, A12_1, c12_1, q12_1, rfl, hl2_1, hs2_1, hq2_1, hR2_1⟩
  have hM2_1 : Mem w w2_1 [] [[⟨.slice (bl gr1_1) 1 1, 66, 2, 1, [.slice (A) ((l11_1).length) (c), I (((q12_1 : Nat) : Int))]⟩], [⟨.slice (A12_1) ((l12_1).length) (c12_1), 9, 1, ((l12_1).length), (l12_1).map S⟩]] := Mem.call (Ma := [[⟨.slice (bl gr1_1) 1 1, 66, 2, 1, [.slice (A) ((l11_1).length) (c), I (((0 : Nat) : Int))]⟩]]) hM1_1 hR2_1 rfl
  refine O.callg [.slice (A12_1) ((l12_1).length) (c12_1)] rfl en34 rfl rfl (vSPackWords_fn A12_1 c12_1 l12_1 w2_1 (hM2_1.rd 1 rfl) (by omega) (by intro s hs; have := hs2_1 s hs; omega)) ?_
  rintro _ w2_2 ⟨A12_2, c12_2, rfl, hR2_2⟩
  have hM2_2 : Mem w w2_2 [] [[⟨.slice (A12_2) ((packF l12_1).length) (c12_2), 39, 2, ((packF l12_1).length), (packF l12_1).flatMap encR⟩], [⟨.slice (bl gr1_1) 1 1, 66, 2, 1, [.slice (A) ((l11_1).length) (c), I (((q12_1 : Nat) : Int))]⟩], [⟨.slice (A12_1) ((l12_1).length) (c12_1), 9, 1, ((l12_1).length), (l12_1).map S⟩]] := Mem.call (Ma := []) hM2_1 hR2_2 rfl
  have hpl := packF_len l12_1
  have hpt := packF_tail (l := l12_1) hs2_1
  refine O.val (v := .slice (A12_2) ((packF l12_1).length) (c12_2)) rfl (Ru.assign rfl) rfl ?_
  refine O.nil ?_
  refine C.seq ?_
  refine C.seq ?_
  refine C.region ?_
  refine O.val (v := .slice (A12_2) ((packF l12_1).length) (c12_2)) rfl (Ru.move rfl) rfl ?_
  refine O.val (v := I ((((packF l12_1).length : Nat) : Int))) rfl (Ru.blenSlice Try.underlying35 rfl) rfl ?_
  refine O.val (v := .bool (decide ((((packF l12_1).length : Nat) : Int) > 0))) rfl (Ru.gtr rfl rfl) rfl ?_
  refine O.val (v := .bool (decide ((((packF l12_1).length : Nat) : Int) > 0))) rfl (Ru.move rfl) rfl ?_
  refine O.partp 14 ((((packF l12_1).length : Nat) : Int) > 0) rfl (fun g14 => ?_) (fun g14 => ?_)
  · refine O.val (v := .pointer (ofs (bl gr1_1) (0))) rfl (Ru.move rfl) rfl ?_
    have hMf3_5 : Mem w w2_2 [] [[⟨.slice (bl gr1_1) 1 1, 66, 2, 1, [.slice (A) ((l11_1).length) (c), I (((q12_1 : Nat) : Int))]⟩], [⟨.slice (A12_2) ((packF l12_1).length) (c12_2), 39, 2, ((packF l12_1).length), (packF l12_1).flatMap encR⟩], [⟨.slice (A12_1) ((l12_1).length) (c12_1), 9, 1, ((l12_1).length), (l12_1).map S⟩]] := hM2_2.pick [1, 0, 2] (by decide) rfl
    refine O.callg [.pointer (ofs (bl gr1_1) (0)), I (3)] rfl en55 rfl rfl (pick_fn gr1_1 A c l11_1 q12_1 3 w2_2 (hrA.at hMf3_5) (Mem.ng_old hMf3_5 hrA 0 rfl) hrl (Mem.focus (Ma := [[⟨.slice (bl gr1_1) 1 1, 66, 2, 1, [.slice (A) ((l11_1).length) (c), I (((q12_1 : Nat) : Int))]⟩]]) (rest := [[⟨.slice (A12_2) ((packF l12_1).length) (c12_2), 39, 2, ((packF l12_1).length), (packF l12_1).flatMap encR⟩], [⟨.slice (A12_1) ((l12_1).length) (c12_1), 9, 1, ((l12_1).length), (l12_1).map S⟩]]) hMf3_5 rfl) (by first | omega | assumption | (simp; omega) | simp | (intros; omega))) ?_
    rintro _ w3_5 ⟨k3_5, rfl, hk3_5, hR3_5⟩
    have hM3_5 : Mem w w3_5 [] [[⟨.slice (bl gr1_1) 1 1, 66, 2, 1, [.slice (A) ((l11_1).length) (c), I (((q12_1 + 1 : Nat) : Int))]⟩], [⟨.slice (A12_2) ((packF l12_1).length) (c12_2), 39, 2, ((packF l12_1).length), (packF l12_1).flatMap encR⟩], [⟨.slice (A12_1) ((l12_1).length) (c12_1), 9, 1, ((l12_1).length), (l12_1).map S⟩]] := Mem.call (Ma := [[⟨.slice (bl gr1_1) 1 1, 66, 2, 1, [.slice (A) ((l11_1).length) (c), I (((q12_1 : Nat) : Int))]⟩]]) hMf3_5 hR3_5 rfl
    refine O.val (v := .bool (decide (k3_5 = 0))) rfl (Ru.eql rfl rfl) rfl ?_
    refine O.val (v := .bool (decide (k3_5 = 0))) rfl (Ru.pickT rfl rfl) rfl ?_
    refine O.nil ?_
    refine C.cond (p := k3_5 = 0) rfl (fun c18 => ?_) (fun c18 => ?_)
    · refine C.seq ?_
      refine C.region ?_
      refine O.val (v := .pointer (ofs (bl gr1_1) (0))) rfl (Ru.move rfl) rfl ?_
      refine O.val (v := .slice (A12_2) ((packF l12_1).length) (c12_2)) rfl (Ru.move rfl) rfl ?_
      refine O.val (v := I ((((packF l12_1).length : Nat) : Int))) rfl (Ru.blenSlice Try.underlying35 rfl) rfl ?_
      refine O.callg [.pointer (ofs (bl gr1_1) (0)), I ((((packF l12_1).length : Nat) : Int))] rfl en55 rfl rfl (pick_fn gr1_1 A c l11_1 (q12_1 + 1) (((packF l12_1).length : Nat) : Int) w3_5 (hrA.at hM3_5) (Mem.ng_old hM3_5 hrA 0 rfl) hrl (Mem.focus (Ma := [[⟨.slice (bl gr1_1) 1 1, 66, 2, 1, [.slice (A) ((l11_1).length) (c), I (((q12_1 + 1 : Nat) : Int))]⟩]]) (rest := [[⟨.slice (A12_2) ((packF l12_1).length) (c12_2), 39, 2, ((packF l12_1).length), (packF l12_1).flatMap encR⟩], [⟨.slice (A12_1) ((l12_1).length) (c12_1), 9, 1, ((l12_1).length), (l12_1).map S⟩]]) hM3_5 rfl) (by first | omega | assumption | (simp; omega) | simp | (intros; omega))) ?_
      rintro _ w4_3 ⟨k4_3, rfl, hk4_3, hR4_3⟩
      have hM4_3 : Mem w w4_3 [] [[⟨.slice (bl gr1_1) 1 1, 66, 2, 1, [.slice (A) ((l11_1).length) (c), I ((((q12_1 + 1) + 1 : Nat) : Int))]⟩], [⟨.slice (A12_2) ((packF l12_1).length) (c12_2), 39, 2, ((packF l12_1).length), (packF l12_1).flatMap encR⟩], [⟨.slice (A12_1) ((l12_1).length) (c12_1), 9, 1, ((l12_1).length), (l12_1).map S⟩]] := Mem.call (Ma := [[⟨.slice (bl gr1_1) 1 1, 66, 2, 1, [.slice (A) ((l11_1).length) (c), I (((q12_1 + 1 : Nat) : Int))]⟩]]) hM3_5 hR4_3 rfl
      have hkk : k4_3.toNat < (packF l12_1).length := by omega
      refine O.val (v := I (k4_3)) rfl (Ru.assign rfl) rfl ?_
      refine O.nil ?_
      refine C.any (f := 21) (ls := [false, false, false, false, false, false, false, false, false, false, false, false, false, false, false, false, false, false, false, false, false]) (fun w2 => Mem w w2 [] []) mixed rfl rfl (fun w2 hw2 => Mem0.ext_any hM4_3 hw2) (fun w5a hE5a => ?_)
      have hM5a : Mem w w5a [] [[⟨.slice (bl gr1_1) 1 1, 66, 2, 1, [.slice (A) ((l11_1).length) (c), I ((((q12_1 + 1) + 1 : Nat) : Int))]⟩], [⟨.slice (A12_2) ((packF l12_1).length) (c12_2), 39, 2, ((packF l12_1).length), (packF l12_1).flatMap encR⟩], [⟨.slice (A12_1) ((l12_1).length) (c12_1), 9, 1, ((l12_1).length), (l12_1).map S⟩]] := Mem0.ext hM4_3 hE5a
      refine AO.val (v := .slice (A12_2) ((packF l12_1).length) (c12_2)) 0 (ls' := [true, false, false, false, false, false, false, false, false, false, false, false, false, false, false, false, false, false, false, false, false]) rfl (by kernel_rfl) rfl rfl (fun w2 hw2 => Ru.move rfl) rfl ?_
      refine AO.val (v := I (k4_3)) 1 (ls' := [true, true, false, false, false, false, false, false, false, false, false, false, false, false, false, false, false, false, false, false, false]) rfl (by kernel_rfl) rfl rfl (fun w2 hw2 => Ru.move rfl) rfl ?_
      refine AO.val (v := .pointer (ofs (bl gr1_1) (0))) 2 (ls' := [true, true, true, false, false, false, false, false, false, false, false, false, false, false, false, false, false, false, false, false, false]) rfl (by kernel_rfl) rfl rfl (fun w2 hw2 => Ru.move rfl) rfl ?_
      refine AO.val (v := .slice (A12_2) ((packF l12_1).length) (c12_2)) 3 (ls' := [true, true, true, true, false, false, false, false, false, false, false, false, false, false, false, false, false, false, false, false, false]) rfl (by kernel_rfl) rfl rfl (fun w2 hw2 => Ru.move rfl) rfl ?_
      refine AO.val (v := I (k4_3)) 4 (ls' := [true, true, true, true, true, false, false, false, false, false, false, false, false, false, false, false, false, false, false, false, false]) rfl (by kernel_rfl) rfl rfl (fun w2 hw2 => Ru.move rfl) rfl ?_
      have hx5_5 : (k4_3).toNat < (packF l12_1).length := (by first | omega | (simp; omega))
      refine AO.val (v := .pointer (ofs (A12_2) (((k4_3).toNat) * 2))) 5 (ls' := [true, true, true, true, true, true, false, false, false, false, false, false, false, false, false, false, false, false, false, false, false]) rfl (by kernel_rfl) rfl rfl (fun w2 hw2 => Ru.indexA (j := (k4_3).toNat) Try.underlying35 el39 rfl rfl (smf encR_len (hM5a.rd 1 rfl) hx5_5 rfl) (by omega) (by first | omega | (simp; omega))) rfl ?_
      refine AO.val (v := .pointer (ofs (A12_2) (((k4_3).toNat) * 2 + 0))) 6 (ls' := [true, true, true, true, true, true, true, false, false, false, false, false, false, false, false, false, false, false, false, false, false]) rfl (by kernel_rfl) rfl rfl (fun w2 hw2 => Ru.fieldA fl39_0 rfl (smf encR_len (hM5a.rd 1 rfl) hx5_5 rfl)) rfl ?_
      refine AO.val (v := .pointer (ofs (bl gr1_1) (0))) 10 (ls' := [true, true, true, true, true, true, true, false, false, false, true, false, false, false, false, false, false, false, false, false, false]) rfl (by kernel_rfl) rfl rfl (fun w2 hw2 => Ru.move rfl) rfl ?_
      refine AO.val (v := .slice (A12_2) ((packF l12_1).length) (c12_2)) 11 (ls' := [true, true, true, true, true, true, true, false, false, false, true, true, false, false, false, false, false, false, false, false, false]) rfl (by kernel_rfl) rfl rfl (fun w2 hw2 => Ru.move rfl) rfl ?_
      refine AO.val (v := I (k4_3)) 12 (ls' := [true, true, true, true, true, true, true, false, false, false, true, true, true, false, false, false, false, false, false, false, false]) rfl (by kernel_rfl) rfl rfl (fun w2 hw2 => Ru.move rfl) rfl ?_
      have hx5_13 : (k4_3).toNat < (packF l12_1).length := (by first | omega | (simp; omega))
      refine AO.val (v := .pointer (ofs (A12_2) (((k4_3).toNat) * 2))) 13 (ls' := [true, true, true, true, true, true, true, false, false, false, true, true, true, true, false, false, false, false, false, false, false]) rfl (by kernel_rfl) rfl rfl (fun w2 hw2 => Ru.indexA (j := (k4_3).toNat) Try.underlying35 el39 rfl rfl (smf encR_len (hM5a.rd 1 rfl) hx5_13 rfl) (by omega) (by first | omega | (simp; omega))) rfl ?_
      refine AO.val (v := .pointer (ofs (A12_2) (((k4_3).toNat) * 2 + 1))) 14 (ls' := [true, true, true, true, true, true, true, false, false, false, true, true, true, true, true, false, false, false, false, false, false]) rfl (by kernel_rfl) rfl rfl (fun w2 hw2 => Ru.fieldA fl39_1 rfl (smf encR_len (hM5a.rd 1 rfl) hx5_13 rfl)) rfl ?_
      refine AO.two 7 15 (by kernel_rfl) ?_ ?_
      · refine step1 (ls' := [true, true, true, true, true, true, true, true, false, false, true, true, true, true, true, false, false, false, false, false, false]) rfl rfl ?_
        refine O.val rfl (Ru.load1 el3 rfl (ldf encR_len (hM5a.rd 1 rfl) hx5_5 rfl)) rfl ?_
        refine O.stop (Mem.none hM5a) ?_
        refine AO.two 8 15 (by kernel_rfl) ?_ ?_
        · refine step1 (ls' := [true, true, true, true, true, true, true, true, true, false, true, true, true, true, true, false, false, false, false, false, false]) rfl rfl ?_
          refine O.mlit (sz := 1) (cs := [I (0), I (1), I (2), I ((-1)), I (((packF l12_1)[(k4_3).toNat]'hx5_5).same)]) hM5a rfl Try.underlying59 el3 rfl rfl rfl (by kernel_rfl) (by kernel_rfl) rfl rfl (fun w5_8 b5_8 hb5_8 (hM5_8 : Mem w w5_8 [] [[⟨.slice (bl b5_8) (5) (5), 3, 1, 5, ([0, 1, 2, (-1), ((packF l12_1)[(k4_3).toNat]'hx5_5).same]).map I⟩], [⟨.slice (bl gr1_1) 1 1, 66, 2, 1, [.slice (A) ((l11_1).length) (c), I ((((q12_1 + 1) + 1 : Nat) : Int))]⟩], [⟨.slice (A12_2) ((packF l12_1).length) (c12_2), 39, 2, ((packF l12_1).length), (packF l12_1).flatMap encR⟩], [⟨.slice (A12_1) ((l12_1).length) (c12_1), 9, 1, ((l12_1).length), (l12_1).map S⟩]]) => ?_)
          refine O.stop (Mem.none hM5_8) ?_
          refine AO.two 9 15 (by kernel_rfl) ?_ ?_
          · refine step1 (ls' := [true, true, true, true, true, true, true, true, true, true, true, true, true, true, true, false, false, false, false, false, false]) rfl rfl ?_
            have hMf5_9 : Mem w w5_8 [] [[⟨.slice (bl gr1_1) 1 1, 66, 2, 1, [.slice (A) ((l11_1).length) (c), I ((((q12_1 + 1) + 1 : Nat) : Int))]⟩], [⟨.slice (bl b5_8) (5) (5), 3, 1, 5, ([0, 1, 2, (-1), ((packF l12_1)[(k4_3).toNat]'hx5_5).same]).map I⟩], [⟨.slice (A12_2) ((packF l12_1).length) (c12_2), 39, 2, ((packF l12_1).length), (packF l12_1).flatMap encR⟩], [⟨.slice (A12_1) ((l12_1).length) (c12_1), 9, 1, ((l12_1).length), (l12_1).map S⟩]] := hM5_8.pick [1, 0, 2, 3] (by decide) rfl
            refine O.callg [.pointer (ofs (bl gr1_1) (0)), .slice (bl b5_8) (([0, 1, 2, (-1), ((packF l12_1)[(k4_3).toNat]'hx5_5).same]).length) (5)] rfl en60 (by first | rfl | (rw [show ([0, 1, 2, (-1), ((packF l12_1)[(k4_3).toNat]'hx5_5).same]).length = 5 from (by first | rfl | (simp; done) | omega | (simp; omega))]; rfl)) rfl (one_fn gr1_1 A c l11_1 ((q12_1 + 1) + 1) (bl b5_8) 5 ([0, 1, 2, (-1), ((packF l12_1)[(k4_3).toNat]'hx5_5).same]) w5_8 (hrA.at hMf5_9) (Mem.ng_old hMf5_9 hrA 0 rfl) hrl (hMf5_9.rd 1 rfl) (Off.of_ng (hMf5_9.ng 1 0 (by decide) rfl rfl)) (Mem.focus (Ma := [[⟨.slice (bl gr1_1) 1 1, 66, 2, 1, [.slice (A) ((l11_1).length) (c), I ((((q12_1 + 1) + 1 : Nat) : Int))]⟩]]) (rest := [[⟨.slice (bl b5_8) (5) (5), 3, 1, 5, ([0, 1, 2, (-1), ((packF l12_1)[(k4_3).toNat]'hx5_5).same]).map I⟩], [⟨.slice (A12_2) ((packF l12_1).length) (c12_2), 39, 2, ((packF l12_1).length), (packF l12_1).flatMap encR⟩], [⟨.slice (A12_1) ((l12_1).length) (c12_1), 9, 1, ((l12_1).length), (l12_1).map S⟩]]) hMf5_9 rfl) (by first | omega | assumption | (simp; omega) | simp | (intros; omega)) (by simp) (by simp)) ?_
            rintro _ w5_9 ⟨k5_9, rfl, hk5_9, hR5_9⟩
            have hM5_9 : Mem w w5_9 [] [[⟨.slice (bl gr1_1) 1 1, 66, 2, 1, [.slice (A) ((l11_1).length) (c), I (((((q12_1 + 1) + 1) + 1 : Nat) : Int))]⟩], [⟨.slice (bl b5_8) (5) (5), 3, 1, 5, ([0, 1, 2, (-1), ((packF l12_1)[(k4_3).toNat]'hx5_5).same]).map I⟩], [⟨.slice (A12_2) ((packF l12_1).length) (c12_2), 39, 2, ((packF l12_1).length), (packF l12_1).flatMap encR⟩], [⟨.slice (A12_1) ((l12_1).length) (c12_1), 9, 1, ((l12_1).length), (l12_1).map S⟩]] := Mem.call (Ma := [[⟨.slice (bl gr1_1) 1 1, 66, 2, 1, [.slice (A) ((l11_1).length) (c), I ((((q12_1 + 1) + 1 : Nat) : Int))]⟩]]) hMf5_9 hR5_9 rfl
            refine O.stop (Mem.none hM5_9) ?_
            refine AO.one 15 (by kernel_rfl) ?_
            refine step1 (ls' := [true, true, true, true, true, true, true, true, true, true, true, true, true, true, true, true, false, false, false, false, false]) rfl rfl ?_
            refine O.val rfl (Ru.load1 el9 rfl (ldf encR_len (hM5_9.rd 2 rfl) hx5_13 rfl)) rfl ?_
            refine O.stop (Mem.none hM5_9) ?_
            refine AO.one 16 (by kernel_rfl) ?_
            refine step1 (ls' := [true, true, true, true, true, true, true, true, true, true, true, true, true, true, true, true, true, false, false, false, false]) rfl rfl ?_
            refine O.mlit (sz := 1) (cs := [S ([]), S ([97]), S ([98]), S ([122]), S ([65]), S (((packF l12_1)[(k4_3).toNat]'hx5_13).tail)]) hM5_9 rfl Try.underlying24 el9 rfl rfl rfl (by kernel_rfl) (by kernel_rfl) rfl rfl (fun w5_16 b5_16 hb5_16 (hM5_16 : Mem w w5_16 [] [[⟨.slice (bl b5_16) (6) (6), 9, 1, 6, ([[], [97], [98], [122], [65], ((packF l12_1)[(k4_3).toNat]'hx5_13).tail]).map S⟩], [⟨.slice (bl gr1_1) 1 1, 66, 2, 1, [.slice (A) ((l11_1).length) (c), I (((((q12_1 + 1) + 1) + 1 : Nat) : Int))]⟩], [⟨.slice (bl b5_8) (5) (5), 3, 1, 5, ([0, 1, 2, (-1), ((packF l12_1)[(k4_3).toNat]'hx5_5).same]).map I⟩], [⟨.slice (A12_2) ((packF l12_1).length) (c12_2), 39, 2, ((packF l12_1).length), (packF l12_1).flatMap encR⟩], [⟨.slice (A12_1) ((l12_1).length) (c12_1), 9, 1, ((l12_1).length), (l12_1).map S⟩]]) => ?_)
            refine O.stop (Mem.none hM5_16) ?_
            refine AO.one 17 (by kernel_rfl) ?_
            refine step1 (ls' := [true, true, true, true, true, true, true, true, true, true, true, true, true, true, true, true, true, true, false, false, false]) rfl rfl ?_
            have hMf5_17 : Mem w w5_16 [] [[⟨.slice (bl gr1_1) 1 1, 66, 2, 1, [.slice (A) ((l11_1).length) (c), I (((((q12_1 + 1) + 1) + 1 : Nat) : Int))]⟩], [⟨.slice (bl b5_16) (6) (6), 9, 1, 6, ([[], [97], [98], [122], [65], ((packF l12_1)[(k4_3).toNat]'hx5_13).tail]).map S⟩], [⟨.slice (bl b5_8) (5) (5), 3, 1, 5, ([0, 1, 2, (-1), ((packF l12_1)[(k4_3).toNat]'hx5_5).same]).map I⟩], [⟨.slice (A12_2) ((packF l12_1).length) (c12_2), 39, 2, ((packF l12_1).length), (packF l12_1).flatMap encR⟩], [⟨.slice (A12_1) ((l12_1).length) (c12_1), 9, 1, ((l12_1).length), (l12_1).map S⟩]] := hM5_16.pick [1, 0, 2, 3, 4] (by decide) rfl
            refine O.callg [.pointer (ofs (bl gr1_1) (0)), .slice (bl b5_16) (([[], [97], [98], [122], [65], ((packF l12_1)[(k4_3).toNat]'hx5_13).tail]).length) (6)] rfl en61 (by first | rfl | (rw [show ([[], [97], [98], [122], [65], ((packF l12_1)[(k4_3).toNat]'hx5_13).tail]).length = 6 from (by first | rfl | (simp; done) | omega | (simp; omega))]; rfl)) rfl (of_fn gr1_1 A c l11_1 (((q12_1 + 1) + 1) + 1) (bl b5_16) 6 ([[], [97], [98], [122], [65], ((packF l12_1)[(k4_3).toNat]'hx5_13).tail]) w5_16 (hrA.at hMf5_17) (Mem.ng_old hMf5_17 hrA 0 rfl) hrl (hMf5_17.rd 1 rfl) (Off.of_ng (hMf5_17.ng 1 0 (by decide) rfl rfl)) (Mem.focus (Ma := [[⟨.slice (bl gr1_1) 1 1, 66, 2, 1, [.slice (A) ((l11_1).length) (c), I (((((q12_1 + 1) + 1) + 1 : Nat) : Int))]⟩]]) (rest := [[⟨.slice (bl b5_16) (6) (6), 9, 1, 6, ([[], [97], [98], [122], [65], ((packF l12_1)[(k4_3).toNat]'hx5_13).tail]).map S⟩], [⟨.slice (bl b5_8) (5) (5), 3, 1, 5, ([0, 1, 2, (-1), ((packF l12_1)[(k4_3).toNat]'hx5_5).same]).map I⟩], [⟨.slice (A12_2) ((packF l12_1).length) (c12_2), 39, 2, ((packF l12_1).length), (packF l12_1).flatMap encR⟩], [⟨.slice (A12_1) ((l12_1).length) (c12_1), 9, 1, ((l12_1).length), (l12_1).map S⟩]]) hMf5_17 rfl) (by first | omega | assumption | (simp; omega) | simp | (intros; omega)) (by simp) (by simp)) ?_
            rintro _ w5_17 ⟨s5_17, rfl, hs5_17, hR5_17⟩
            have hM5_17 : Mem w w5_17 [] [[⟨.slice (bl gr1_1) 1 1, 66, 2, 1, [.slice (A) ((l11_1).length) (c), I ((((((q12_1 + 1) + 1) + 1) + 1 : Nat) : Int))]⟩], [⟨.slice (bl b5_16) (6) (6), 9, 1, 6, ([[], [97], [98], [122], [65], ((packF l12_1)[(k4_3).toNat]'hx5_13).tail]).map S⟩], [⟨.slice (bl b5_8) (5) (5), 3, 1, 5, ([0, 1, 2, (-1), ((packF l12_1)[(k4_3).toNat]'hx5_5).same]).map I⟩], [⟨.slice (A12_2) ((packF l12_1).length) (c12_2), 39, 2, ((packF l12_1).length), (packF l12_1).flatMap encR⟩], [⟨.slice (A12_1) ((l12_1).length) (c12_1), 9, 1, ((l12_1).length), (l12_1).map S⟩]] := Mem.call (Ma := [[⟨.slice (bl gr1_1) 1 1, 66, 2, 1, [.slice (A) ((l11_1).length) (c), I (((((q12_1 + 1) + 1) + 1 : Nat) : Int))]⟩]]) hMf5_17 hR5_17 rfl
            have hts := of_tail hs5_17 (hpt _ (List.getElem_mem hkk))
            refine O.stop (Mem.none hM5_17) ?_
            refine AO.val (v := .agg #[I (k5_9), S (s5_17)]) 18 (ls' := [true, true, true, true, true, true, true, true, true, true, true, true, true, true, true, true, true, true, true, false, false]) rfl (by kernel_rfl) rfl rfl (fun w2 hw2 => Ru.build of39 rfl rfl rfl) rfl ?_
            have hx5_19 : (k4_3).toNat < (packF l12_1).length := (by first | omega | (simp; omega))
            refine AO.val (v := .pointer (ofs (A12_2) (((k4_3).toNat) * 2))) 19 (ls' := [true, true, true, true, true, true, true, true, true, true, true, true, true, true, true, true, true, true, true, true, false]) rfl (by kernel_rfl) rfl rfl (fun w2 hw2 => Ru.indexA (j := (k4_3).toNat) Try.underlying35 el39 rfl rfl (smf encR_len (hM5_17.rd 3 rfl) hx5_19 rfl) (by omega) (by first | omega | (simp; omega))) rfl ?_
            refine AO.one 20 (by kernel_rfl) ?_
            refine step1 (ls' := [true, true, true, true, true, true, true, true, true, true, true, true, true, true, true, true, true, true, true, true, true]) rfl rfl ?_
            refine O.mstore (vs := [I (k5_9), S (s5_17)]) (xs' := ((packF l12_1).set ((k4_3).toNat) (⟨k5_9, s5_17⟩)).flatMap encR) 3 0 hM5_17 rfl rfl rfl el39 rfl rfl rfl rfl rfl (by rw [flat_len encR_len]; simp; omega) (by simp) (spl_flat encR_len (l := packF l12_1) (a := ⟨k5_9, s5_17⟩) hx5_19) rfl (fun w5_20 (hM5_20 : Mem w w5_20 [] [[⟨.slice (bl gr1_1) 1 1, 66, 2, 1, [.slice (A) ((l11_1).length) (c), I ((((((q12_1 + 1) + 1) + 1) + 1 : Nat) : Int))]⟩], [⟨.slice (bl b5_16) (6) (6), 9, 1, 6, ([[], [97], [98], [122], [65], ((packF l12_1)[(k4_3).toNat]'hx5_13).tail]).map S⟩], [⟨.slice (bl b5_8) (5) (5), 3, 1, 5, ([0, 1, 2, (-1), ((packF l12_1)[(k4_3).toNat]'hx5_5).same]).map I⟩], [⟨.slice (A12_2) ((packF l12_1).length) (c12_2), 39, 2, ((packF l12_1).length), ((packF l12_1).set ((k4_3).toNat) (⟨k5_9, s5_17⟩)).flatMap encR⟩], [⟨.slice (A12_1) ((l12_1).length) (c12_1), 9, 1, ((l12_1).length), (l12_1).map S⟩]]) => ?_)
            refine O.stop (Mem.none hM5_20) ?_
            refine AO.nil (by kernel_rfl) ?_
            refine C.seq ?_
            refine C.region ?_
            refine O.val (v := .slice (A12_2) ((packF l12_1).length) (c12_2)) rfl (Ru.move rfl) rfl ?_
            refine O.val (v := .slice (A12_2) ((packF l12_1).length) (c12_2)) rfl (Ru.assign rfl) rfl ?_
            refine O.nil ?_
            refine C.ret ?_
            refine P1 (v := .slice (A12_2) ((packF l12_1).length) (c12_2)) rfl ?_
            have hq1 : (packF l12_1).set ((k4_3).toNat) (⟨k5_9, s5_17⟩) = (packF l12_1).set ((k4_3).toNat) (⟨k5_9, s5_17⟩) := (by first | rfl | simp | (simp; omega))
            have hMn1 : Mem w w5_20 [] [[⟨.slice (bl gr1_1) 1 1, 66, 2, 1, [.slice (A) ((l11_1).length) (c), I ((((((q12_1 + 1) + 1) + 1) + 1 : Nat) : Int))]⟩], [⟨.slice (bl b5_16) (6) (6), 9, 1, 6, ([[], [97], [98], [122], [65], ((packF l12_1)[(k4_3).toNat]'hx5_13).tail]).map S⟩], [⟨.slice (bl b5_8) (5) (5), 3, 1, 5, ([0, 1, 2, (-1), ((packF l12_1)[(k4_3).toNat]'hx5_5).same]).map I⟩], [⟨.slice (A12_2) (((packF l12_1).set ((k4_3).toNat) (⟨k5_9, s5_17⟩)).length) (c12_2), 39, 2, (((packF l12_1).set ((k4_3).toNat) (⟨k5_9, s5_17⟩)).length), ((packF l12_1).set ((k4_3).toNat) (⟨k5_9, s5_17⟩)).flatMap encR⟩], [⟨.slice (A12_1) ((l12_1).length) (c12_1), 9, 1, ((l12_1).length), (l12_1).map S⟩]] := hM5_20.relen 3 (n' := ((packF l12_1).set ((k4_3).toNat) (⟨k5_9, s5_17⟩)).length) (xs' := ((packF l12_1).set ((k4_3).toNat) (⟨k5_9, s5_17⟩)).flatMap encR) rfl (by rw [← hq1]; first | done | rfl | simp | (simp; omega)) (by rw [← hq1]) rfl
            exact ⟨(packF l12_1).set ((k4_3).toNat) (⟨k5_9, s5_17⟩), A12_2, c12_2, (by first | rfl | exact sl_congr (by simp) | (simp; done)), (by first | omega | (simp; omega)), (by first | exact hpt | exact tails_set hpt hts), (hMn1.pick [3] (by decide) rfl)⟩
          · refine step1 (ls' := [true, true, true, true, true, true, true, true, true, false, true, true, true, true, true, true, false, false, false, false, false]) rfl rfl ?_
            refine O.val rfl (Ru.load1 el9 rfl (ldf encR_len (hM5_8.rd 2 rfl) hx5_13 rfl)) rfl ?_
            refine O.stop (Mem.none hM5_8) ?_
            refine AO.two 9 16 (by kernel_rfl) ?_ ?_
            · refine step1 (ls' := [true, true, true, true, true, true, true, true, true, true, true, true, true, true, true, true, false, false, false, false, false]) rfl rfl ?_
              have hMf5_9 : Mem w w5_8 [] [[⟨.slice (bl gr1_1) 1 1, 66, 2, 1, [.slice (A) ((l11_1).length) (c), I ((((q12_1 + 1) + 1 : Nat) : Int))]⟩], [⟨.slice (bl b5_8) (5) (5), 3, 1, 5, ([0, 1, 2, (-1), ((packF l12_1)[(k4_3).toNat]'hx5_5).same]).map I⟩], [⟨.slice (A12_2) ((packF l12_1).length) (c12_2), 39, 2, ((packF l12_1).length), (packF l12_1).flatMap encR⟩], [⟨.slice (A12_1) ((l12_1).length) (c12_1), 9, 1, ((l12_1).length), (l12_1).map S⟩]] := hM5_8.pick [1, 0, 2, 3] (by decide) rfl
              refine O.callg [.pointer (ofs (bl gr1_1) (0)), .slice (bl b5_8) (([0, 1, 2, (-1), ((packF l12_1)[(k4_3).toNat]'hx5_5).same]).length) (5)] rfl en60 (by first | rfl | (rw [show ([0, 1, 2, (-1), ((packF l12_1)[(k4_3).toNat]'hx5_5).same]).length = 5 from (by first | rfl | (simp; done) | omega | (simp; omega))]; rfl)) rfl (one_fn gr1_1 A c l11_1 ((q12_1 + 1) + 1) (bl b5_8) 5 ([0, 1, 2, (-1), ((packF l12_1)[(k4_3).toNat]'hx5_5).same]) w5_8 (hrA.at hMf5_9) (Mem.ng_old hMf5_9 hrA 0 rfl) hrl (hMf5_9.rd 1 rfl) (Off.of_ng (hMf5_9.ng 1 0 (by decide) rfl rfl)) (Mem.focus (Ma := [[⟨.slice (bl gr1_1) 1 1, 66, 2, 1, [.slice (A) ((l11_1).length) (c), I ((((q12_1 + 1) + 1 : Nat) : Int))]⟩]]) (rest := [[⟨.slice (bl b5_8) (5) (5), 3, 1, 5, ([0, 1, 2, (-1), ((packF l12_1)[(k4_3).toNat]'hx5_5).same]).map I⟩], [⟨.slice (A12_2) ((packF l12_1).length) (c12_2), 39, 2, ((packF l12_1).length), (packF l12_1).flatMap encR⟩], [⟨.slice (A12_1) ((l12_1).length) (c12_1), 9, 1, ((l12_1).length), (l12_1).map S⟩]]) hMf5_9 rfl) (by first | omega | assumption | (simp; omega) | simp | (intros; omega)) (by simp) (by simp)) ?_
              rintro _ w5_9 ⟨k5_9, rfl, hk5_9, hR5_9⟩
              have hM5_9 : Mem w w5_9 [] [[⟨.slice (bl gr1_1) 1 1, 66, 2, 1, [.slice (A) ((l11_1).length) (c), I (((((q12_1 + 1) + 1) + 1 : Nat) : Int))]⟩], [⟨.slice (bl b5_8) (5) (5), 3, 1, 5, ([0, 1, 2, (-1), ((packF l12_1)[(k4_3).toNat]'hx5_5).same]).map I⟩], [⟨.slice (A12_2) ((packF l12_1).length) (c12_2), 39, 2, ((packF l12_1).length), (packF l12_1).flatMap encR⟩], [⟨.slice (A12_1) ((l12_1).length) (c12_1), 9, 1, ((l12_1).length), (l12_1).map S⟩]] := Mem.call (Ma := [[⟨.slice (bl gr1_1) 1 1, 66, 2, 1, [.slice (A) ((l11_1).length) (c), I ((((q12_1 + 1) + 1 : Nat) : Int))]⟩]]) hMf5_9 hR5_9 rfl
              refine O.stop (Mem.none hM5_9) ?_
              refine AO.one 16 (by kernel_rfl) ?_
              refine step1 (ls' := [true, true, true, true, true, true, true, true, true, true, true, true, true, true, true, true, true, false, false, false, false]) rfl rfl ?_
              refine O.mlit (sz := 1) (cs := [S ([]), S ([97]), S ([98]), S ([122]), S ([65]), S (((packF l12_1)[(k4_3).toNat]'hx5_13).tail)]) hM5_9 rfl Try.underlying24 el9 rfl rfl rfl (by kernel_rfl) (by kernel_rfl) rfl rfl (fun w5_16 b5_16 hb5_16 (hM5_16 : Mem w w5_16 [] [[⟨.slice (bl b5_16) (6) (6), 9, 1, 6, ([[], [97], [98], [122], [65], ((packF l12_1)[(k4_3).toNat]'hx5_13).tail]).map S⟩], [⟨.slice (bl gr1_1) 1 1, 66, 2, 1, [.slice (A) ((l11_1).length) (c), I (((((q12_1 + 1) + 1) + 1 : Nat) : Int))]⟩], [⟨.slice (bl b5_8) (5) (5), 3, 1, 5, ([0, 1, 2, (-1), ((packF l12_1)[(k4_3).toNat]'hx5_5).same]).map I⟩], [⟨.slice (A12_2) ((packF l12_1).length) (c12_2), 39, 2, ((packF l12_1).length), (packF l12_1).flatMap encR⟩], [⟨.slice (A12_1) ((l12_1).length) (c12_1), 9, 1, ((l12_1).length), (l12_1).map S⟩]]) => ?_)
              refine O.stop (Mem.none hM5_16) ?_
              refine AO.one 17 (by kernel_rfl) ?_
              refine step1 (ls' := [true, true, true, true, true, true, true, true, true, true, true, true, true, true, true, true, true, true, false, false, false]) rfl rfl ?_
              have hMf5_17 : Mem w w5_16 [] [[⟨.slice (bl gr1_1) 1 1, 66, 2, 1, [.slice (A) ((l11_1).length) (c), I (((((q12_1 + 1) + 1) + 1 : Nat) : Int))]⟩], [⟨.slice (bl b5_16) (6) (6), 9, 1, 6, ([[], [97], [98], [122], [65], ((packF l12_1)[(k4_3).toNat]'hx5_13).tail]).map S⟩], [⟨.slice (bl b5_8) (5) (5), 3, 1, 5, ([0, 1, 2, (-1), ((packF l12_1)[(k4_3).toNat]'hx5_5).same]).map I⟩], [⟨.slice (A12_2) ((packF l12_1).length) (c12_2), 39, 2, ((packF l12_1).length), (packF l12_1).flatMap encR⟩], [⟨.slice (A12_1) ((l12_1).length) (c12_1), 9, 1, ((l12_1).length), (l12_1).map S⟩]] := hM5_16.pick [1, 0, 2, 3, 4] (by decide) rfl
              refine O.callg [.pointer (ofs (bl gr1_1) (0)), .slice (bl b5_16) (([[], [97], [98], [122], [65], ((packF l12_1)[(k4_3).toNat]'hx5_13).tail]).length) (6)] rfl en61 (by first | rfl | (rw [show ([[], [97], [98], [122], [65], ((packF l12_1)[(k4_3).toNat]'hx5_13).tail]).length = 6 from (by first | rfl | (simp; done) | omega | (simp; omega))]; rfl)) rfl (of_fn gr1_1 A c l11_1 (((q12_1 + 1) + 1) + 1) (bl b5_16) 6 ([[], [97], [98], [122], [65], ((packF l12_1)[(k4_3).toNat]'hx5_13).tail]) w5_16 (hrA.at hMf5_17) (Mem.ng_old hMf5_17 hrA 0 rfl) hrl (hMf5_17.rd 1 rfl) (Off.of_ng (hMf5_17.ng 1 0 (by decide) rfl rfl)) (Mem.focus (Ma := [[⟨.slice (bl gr1_1) 1 1, 66, 2, 1, [.slice (A) ((l11_1).length) (c), I (((((q12_1 + 1) + 1) + 1 : Nat) : Int))]⟩]]) (rest := [[⟨.slice (bl b5_16) (6) (6), 9, 1, 6, ([[], [97], [98], [122], [65], ((packF l12_1)[(k4_3).toNat]'hx5_13).tail]).map S⟩], [⟨.slice (bl b5_8) (5) (5), 3, 1, 5, ([0, 1, 2, (-1), ((packF l12_1)[(k4_3).toNat]'hx5_5).same]).map I⟩], [⟨.slice (A12_2) ((packF l12_1).length) (c12_2), 39, 2, ((packF l12_1).length), (packF l12_1).flatMap encR⟩], [⟨.slice (A12_1) ((l12_1).length) (c12_1), 9, 1, ((l12_1).length), (l12_1).map S⟩]]) hMf5_17 rfl) (by first | omega | assumption | (simp; omega) | simp | (intros; omega)) (by simp) (by simp)) ?_
              rintro _ w5_17 ⟨s5_17, rfl, hs5_17, hR5_17⟩
              have hM5_17 : Mem w w5_17 [] [[⟨.slice (bl gr1_1) 1 1, 66, 2, 1, [.slice (A) ((l11_1).length) (c), I ((((((q12_1 + 1) + 1) + 1) + 1 : Nat) : Int))]⟩], [⟨.slice (bl b5_16) (6) (6), 9, 1, 6, ([[], [97], [98], [122], [65], ((packF l12_1)[(k4_3).toNat]'hx5_13).tail]).map S⟩], [⟨.slice (bl b5_8) (5) (5), 3, 1, 5, ([0, 1, 2, (-1), ((packF l12_1)[(k4_3).toNat]'hx5_5).same]).map I⟩], [⟨.slice (A12_2) ((packF l12_1).length) (c12_2), 39, 2, ((packF l12_1).length), (packF l12_1).flatMap encR⟩], [⟨.slice (A12_1) ((l12_1).length) (c12_1), 9, 1, ((l12_1).length), (l12_1).map S⟩]] := Mem.call (Ma := [[⟨.slice (bl gr1_1) 1 1, 66, 2, 1, [.slice (A) ((l11_1).length) (c), I (((((q12_1 + 1) + 1) + 1 : Nat) : Int))]⟩]]) hMf5_17 hR5_17 rfl
              have hts := of_tail hs5_17 (hpt _ (List.getElem_mem hkk))
              refine O.stop (Mem.none hM5_17) ?_
              refine AO.val (v := .agg #[I (k5_9), S (s5_17)]) 18 (ls' := [true, true, true, true, true, true, true, true, true, true, true, true, true, true, true, true, true, true, true, false, false]) rfl (by kernel_rfl) rfl rfl (fun w2 hw2 => Ru.build of39 rfl rfl rfl) rfl ?_
              have hx5_19 : (k4_3).toNat < (packF l12_1).length := (by first | omega | (simp; omega))
              refine AO.val (v := .pointer (ofs (A12_2) (((k4_3).toNat) * 2))) 19 (ls' := [true, true, true, true, true, true, true, true, true, true, true, true, true, true, true, true, true, true, true, true, false]) rfl (by kernel_rfl) rfl rfl (fun w2 hw2 => Ru.indexA (j := (k4_3).toNat) Try.underlying35 el39 rfl rfl (smf encR_len (hM5_17.rd 3 rfl) hx5_19 rfl) (by omega) (by first | omega | (simp; omega))) rfl ?_
              refine AO.one 20 (by kernel_rfl) ?_
              refine step1 (ls' := [true, true, true, true, true, true, true, true, true, true, true, true, true, true, true, true, true, true, true, true, true]) rfl rfl ?_
              refine O.mstore (vs := [I (k5_9), S (s5_17)]) (xs' := ((packF l12_1).set ((k4_3).toNat) (⟨k5_9, s5_17⟩)).flatMap encR) 3 0 hM5_17 rfl rfl rfl el39 rfl rfl rfl rfl rfl (by rw [flat_len encR_len]; simp; omega) (by simp) (spl_flat encR_len (l := packF l12_1) (a := ⟨k5_9, s5_17⟩) hx5_19) rfl (fun w5_20 (hM5_20 : Mem w w5_20 [] [[⟨.slice (bl gr1_1) 1 1, 66, 2, 1, [.slice (A) ((l11_1).length) (c), I ((((((q12_1 + 1) + 1) + 1) + 1 : Nat) : Int))]⟩], [⟨.slice (bl b5_16) (6) (6), 9, 1, 6, ([[], [97], [98], [122], [65], ((packF l12_1)[(k4_3).toNat]'hx5_13).tail]).map S⟩], [⟨.slice (bl b5_8) (5) (5), 3, 1, 5, ([0, 1, 2, (-1), ((packF l12_1)[(k4_3).toNat]'hx5_5).same]).map I⟩], [⟨.slice (A12_2) ((packF l12_1).length) (c12_2), 39, 2, ((packF l12_1).length), ((packF l12_1).set ((k4_3).toNat) (⟨k5_9, s5_17⟩)).flatMap encR⟩], [⟨.slice (A12_1) ((l12_1).length) (c12_1), 9, 1, ((l12_1).length), (l12_1).map S⟩]]) => ?_)
              refine O.stop (Mem.none hM5_20) ?_
              refine AO.nil (by kernel_rfl) ?_
              refine C.seq ?_
              refine C.region ?_
              refine O.val (v := .slice (A12_2) ((packF l12_1).length) (c12_2)) rfl (Ru.move rfl) rfl ?_
              refine O.val (v := .slice (A12_2) ((packF l12_1).length) (c12_2)) rfl (Ru.assign rfl) rfl ?_
              refine O.nil ?_
              refine C.ret ?_
              refine P1 (v := .slice (A12_2) ((packF l12_1).length) (c12_2)) rfl ?_
              have hq2 : (packF l12_1).set ((k4_3).toNat) (⟨k5_9, s5_17⟩) = (packF l12_1).set ((k4_3).toNat) (⟨k5_9, s5_17⟩) := (by first | rfl | simp | (simp; omega))
              have hMn2 : Mem w w5_20 [] [[⟨.slice (bl gr1_1) 1 1, 66, 2, 1, [.slice (A) ((l11_1).length) (c), I ((((((q12_1 + 1) + 1) + 1) + 1 : Nat) : Int))]⟩], [⟨.slice (bl b5_16) (6) (6), 9, 1, 6, ([[], [97], [98], [122], [65], ((packF l12_1)[(k4_3).toNat]'hx5_13).tail]).map S⟩], [⟨.slice (bl b5_8) (5) (5), 3, 1, 5, ([0, 1, 2, (-1), ((packF l12_1)[(k4_3).toNat]'hx5_5).same]).map I⟩], [⟨.slice (A12_2) (((packF l12_1).set ((k4_3).toNat) (⟨k5_9, s5_17⟩)).length) (c12_2), 39, 2, (((packF l12_1).set ((k4_3).toNat) (⟨k5_9, s5_17⟩)).length), ((packF l12_1).set ((k4_3).toNat) (⟨k5_9, s5_17⟩)).flatMap encR⟩], [⟨.slice (A12_1) ((l12_1).length) (c12_1), 9, 1, ((l12_1).length), (l12_1).map S⟩]] := hM5_20.relen 3 (n' := ((packF l12_1).set ((k4_3).toNat) (⟨k5_9, s5_17⟩)).length) (xs' := ((packF l12_1).set ((k4_3).toNat) (⟨k5_9, s5_17⟩)).flatMap encR) rfl (by rw [← hq2]; first | done | rfl | simp | (simp; omega)) (by rw [← hq2]) rfl
              exact ⟨(packF l12_1).set ((k4_3).toNat) (⟨k5_9, s5_17⟩), A12_2, c12_2, (by first | rfl | exact sl_congr (by simp) | (simp; done)), (by first | omega | (simp; omega)), (by first | exact hpt | exact tails_set hpt hts), (hMn2.pick [3] (by decide) rfl)⟩
            · refine step1 (ls' := [true, true, true, true, true, true, true, true, true, false, true, true, true, true, true, true, true, false, false, false, false]) rfl rfl ?_
              refine O.mlit (sz := 1) (cs := [S ([]), S ([97]), S ([98]), S ([122]), S ([65]), S (((packF l12_1)[(k4_3).toNat]'hx5_13).tail)]) hM5_8 rfl Try.underlying24 el9 rfl rfl rfl (by kernel_rfl) (by kernel_rfl) rfl rfl (fun w5_16 b5_16 hb5_16 (hM5_16 : Mem w w5_16 [] [[⟨.slice (bl b5_16) (6) (6), 9, 1, 6, ([[], [97], [98], [122], [65], ((packF l12_1)[(k4_3).toNat]'hx5_13).tail]).map S⟩], [⟨.slice (bl b5_8) (5) (5), 3, 1, 5, ([0, 1, 2, (-1), ((packF l12_1)[(k4_3).toNat]'hx5_5).same]).map I⟩], [⟨.slice (bl gr1_1) 1 1, 66, 2, 1, [.slice (A) ((l11_1).length) (c), I ((((q12_1 + 1) + 1 : Nat) : Int))]⟩], [⟨.slice (A12_2) ((packF l12_1).length) (c12_2), 39, 2, ((packF l12_1).length), (packF l12_1).flatMap encR⟩], [⟨.slice (A12_1) ((l12_1).length) (c12_1), 9, 1, ((l12_1).length), (l12_1).map S⟩]]) => ?_)
              refine O.stop (Mem.none hM5_16) ?_
              refine AO.one 9 (by kernel_rfl) ?_
              refine step1 (ls' := [true, true, true, true, true, true, true, true, true, true, true, true, true, true, true, true, true, false, false, false, false]) rfl rfl ?_
              have hMf5_9 : Mem w w5_16 [] [[⟨.slice (bl gr1_1) 1 1, 66, 2, 1, [.slice (A) ((l11_1).length) (c), I ((((q12_1 + 1) + 1 : Nat) : Int))]⟩], [⟨.slice (bl b5_16) (6) (6), 9, 1, 6, ([[], [97], [98], [122], [65], ((packF l12_1)[(k4_3).toNat]'hx5_13).tail]).map S⟩], [⟨.slice (bl b5_8) (5) (5), 3, 1, 5, ([0, 1, 2, (-1), ((packF l12_1)[(k4_3).toNat]'hx5_5).same]).map I⟩], [⟨.slice (A12_2) ((packF l12_1).length) (c12_2), 39, 2, ((packF l12_1).length), (packF l12_1).flatMap encR⟩], [⟨.slice (A12_1) ((l12_1).length) (c12_1), 9, 1, ((l12_1).length), (l12_1).map S⟩]] := hM5_16.pick [2, 0, 1, 3, 4] (by decide) rfl
              refine O.callg [.pointer (ofs (bl gr1_1) (0)), .slice (bl b5_8) (([0, 1, 2, (-1), ((packF l12_1)[(k4_3).toNat]'hx5_5).same]).length) (5)] rfl en60 (by first | rfl | (rw [show ([0, 1, 2, (-1), ((packF l12_1)[(k4_3).toNat]'hx5_5).same]).length = 5 from (by first | rfl | (simp; done) | omega | (simp; omega))]; rfl)) rfl (one_fn gr1_1 A c l11_1 ((q12_1 + 1) + 1) (bl b5_8) 5 ([0, 1, 2, (-1), ((packF l12_1)[(k4_3).toNat]'hx5_5).same]) w5_16 (hrA.at hMf5_9) (Mem.ng_old hMf5_9 hrA 0 rfl) hrl (hMf5_9.rd 2 rfl) (Off.of_ng (hMf5_9.ng 2 0 (by decide) rfl rfl)) (Mem.focus (Ma := [[⟨.slice (bl gr1_1) 1 1, 66, 2, 1, [.slice (A) ((l11_1).length) (c), I ((((q12_1 + 1) + 1 : Nat) : Int))]⟩]]) (rest := [[⟨.slice (bl b5_16) (6) (6), 9, 1, 6, ([[], [97], [98], [122], [65], ((packF l12_1)[(k4_3).toNat]'hx5_13).tail]).map S⟩], [⟨.slice (bl b5_8) (5) (5), 3, 1, 5, ([0, 1, 2, (-1), ((packF l12_1)[(k4_3).toNat]'hx5_5).same]).map I⟩], [⟨.slice (A12_2) ((packF l12_1).length) (c12_2), 39, 2, ((packF l12_1).length), (packF l12_1).flatMap encR⟩], [⟨.slice (A12_1) ((l12_1).length) (c12_1), 9, 1, ((l12_1).length), (l12_1).map S⟩]]) hMf5_9 rfl) (by first | omega | assumption | (simp; omega) | simp | (intros; omega)) (by simp) (by simp)) ?_
              rintro _ w5_9 ⟨k5_9, rfl, hk5_9, hR5_9⟩
              have hM5_9 : Mem w w5_9 [] [[⟨.slice (bl gr1_1) 1 1, 66, 2, 1, [.slice (A) ((l11_1).length) (c), I (((((q12_1 + 1) + 1) + 1 : Nat) : Int))]⟩], [⟨.slice (bl b5_16) (6) (6), 9, 1, 6, ([[], [97], [98], [122], [65], ((packF l12_1)[(k4_3).toNat]'hx5_13).tail]).map S⟩], [⟨.slice (bl b5_8) (5) (5), 3, 1, 5, ([0, 1, 2, (-1), ((packF l12_1)[(k4_3).toNat]'hx5_5).same]).map I⟩], [⟨.slice (A12_2) ((packF l12_1).length) (c12_2), 39, 2, ((packF l12_1).length), (packF l12_1).flatMap encR⟩], [⟨.slice (A12_1) ((l12_1).length) (c12_1), 9, 1, ((l12_1).length), (l12_1).map S⟩]] := Mem.call (Ma := [[⟨.slice (bl gr1_1) 1 1, 66, 2, 1, [.slice (A) ((l11_1).length) (c), I ((((q12_1 + 1) + 1 : Nat) : Int))]⟩]]) hMf5_9 hR5_9 rfl
              refine O.stop (Mem.none hM5_9) ?_
              refine AO.one 17 (by kernel_rfl) ?_
              refine step1 (ls' := [true, true, true, true, true, true, true, true, true, true, true, true, true, true, true, true, true, true, false, false, false]) rfl rfl ?_
              refine O.callg [.pointer (ofs (bl gr1_1) (0)), .slice (bl b5_16) (([[], [97], [98], [122], [65], ((packF l12_1)[(k4_3).toNat]'hx5_13).tail]).length) (6)] rfl en61 (by first | rfl | (rw [show ([[], [97], [98], [122], [65], ((packF l12_1)[(k4_3).toNat]'hx5_13).tail]).length = 6 from (by first | rfl | (simp; done) | omega | (simp; omega))]; rfl)) rfl (of_fn gr1_1 A c l11_1 (((q12_1 + 1) + 1) + 1) (bl b5_16) 6 ([[], [97], [98], [122], [65], ((packF l12_1)[(k4_3).toNat]'hx5_13).tail]) w5_9 (hrA.at hM5_9) (Mem.ng_old hM5_9 hrA 0 rfl) hrl (hM5_9.rd 1 rfl) (Off.of_ng (hM5_9.ng 1 0 (by decide) rfl rfl)) (Mem.focus (Ma := [[⟨.slice (bl gr1_1) 1 1, 66, 2, 1, [.slice (A) ((l11_1).length) (c), I (((((q12_1 + 1) + 1) + 1 : Nat) : Int))]⟩]]) (rest := [[⟨.slice (bl b5_16) (6) (6), 9, 1, 6, ([[], [97], [98], [122], [65], ((packF l12_1)[(k4_3).toNat]'hx5_13).tail]).map S⟩], [⟨.slice (bl b5_8) (5) (5), 3, 1, 5, ([0, 1, 2, (-1), ((packF l12_1)[(k4_3).toNat]'hx5_5).same]).map I⟩], [⟨.slice (A12_2) ((packF l12_1).length) (c12_2), 39, 2, ((packF l12_1).length), (packF l12_1).flatMap encR⟩], [⟨.slice (A12_1) ((l12_1).length) (c12_1), 9, 1, ((l12_1).length), (l12_1).map S⟩]]) hM5_9 rfl) (by first | omega | assumption | (simp; omega) | simp | (intros; omega)) (by simp) (by simp)) ?_
              rintro _ w5_17 ⟨s5_17, rfl, hs5_17, hR5_17⟩
              have hM5_17 : Mem w w5_17 [] [[⟨.slice (bl gr1_1) 1 1, 66, 2, 1, [.slice (A) ((l11_1).length) (c), I ((((((q12_1 + 1) + 1) + 1) + 1 : Nat) : Int))]⟩], [⟨.slice (bl b5_16) (6) (6), 9, 1, 6, ([[], [97], [98], [122], [65], ((packF l12_1)[(k4_3).toNat]'hx5_13).tail]).map S⟩], [⟨.slice (bl b5_8) (5) (5), 3, 1, 5, ([0, 1, 2, (-1), ((packF l12_1)[(k4_3).toNat]'hx5_5).same]).map I⟩], [⟨.slice (A12_2) ((packF l12_1).length) (c12_2), 39, 2, ((packF l12_1).length), (packF l12_1).flatMap encR⟩], [⟨.slice (A12_1) ((l12_1).length) (c12_1), 9, 1, ((l12_1).length), (l12_1).map S⟩]] := Mem.call (Ma := [[⟨.slice (bl gr1_1) 1 1, 66, 2, 1, [.slice (A) ((l11_1).length) (c), I (((((q12_1 + 1) + 1) + 1 : Nat) : Int))]⟩]]) hM5_9 hR5_17 rfl
              have hts := of_tail hs5_17 (hpt _ (List.getElem_mem hkk))
              refine O.stop (Mem.none hM5_17) ?_
              refine AO.val (v := .agg #[I (k5_9), S (s5_17)]) 18 (ls' := [true, true, true, true, true, true, true, true, true, true, true, true, true, true, true, true, true, true, true, false, false]) rfl (by kernel_rfl) rfl rfl (fun w2 hw2 => Ru.build of39 rfl rfl rfl) rfl ?_
              have hx5_19 : (k4_3).toNat < (packF l12_1).length := (by first | omega | (simp; omega))
              refine AO.val (v := .pointer (ofs (A12_2) (((k4_3).toNat) * 2))) 19 (ls' := [true, true, true, true, true, true, true, true, true, true, true, true, true, true, true, true, true, true, true, true, false]) rfl (by kernel_rfl) rfl rfl (fun w2 hw2 => Ru.indexA (j := (k4_3).toNat) Try.underlying35 el39 rfl rfl (smf encR_len (hM5_17.rd 3 rfl) hx5_19 rfl) (by omega) (by first | omega | (simp; omega))) rfl ?_
              refine AO.one 20 (by kernel_rfl) ?_
              refine step1 (ls' := [true, true, true, true, true, true, true, true, true, true, true, true, true, true, true, true, true, true, true, true, true]) rfl rfl ?_
              refine O.mstore (vs := [I (k5_9), S (s5_17)]) (xs' := ((packF l12_1).set ((k4_3).toNat) (⟨k5_9, s5_17⟩)).flatMap encR) 3 0 hM5_17 rfl rfl rfl el39 rfl rfl rfl rfl rfl (by rw [flat_len encR_len]; simp; omega) (by simp) (spl_flat encR_len (l := packF l12_1) (a := ⟨k5_9, s5_17⟩) hx5_19) rfl (fun w5_20 (hM5_20 : Mem w w5_20 [] [[⟨.slice (bl gr1_1) 1 1, 66, 2, 1, [.slice (A) ((l11_1).length) (c), I ((((((q12_1 + 1) + 1) + 1) + 1 : Nat) : Int))]⟩], [⟨.slice (bl b5_16) (6) (6), 9, 1, 6, ([[], [97], [98], [122], [65], ((packF l12_1)[(k4_3).toNat]'hx5_13).tail]).map S⟩], [⟨.slice (bl b5_8) (5) (5), 3, 1, 5, ([0, 1, 2, (-1), ((packF l12_1)[(k4_3).toNat]'hx5_5).same]).map I⟩], [⟨.slice (A12_2) ((packF l12_1).length) (c12_2), 39, 2, ((packF l12_1).length), ((packF l12_1).set ((k4_3).toNat) (⟨k5_9, s5_17⟩)).flatMap encR⟩], [⟨.slice (A12_1) ((l12_1).length) (c12_1), 9, 1, ((l12_1).length), (l12_1).map S⟩]]) => ?_)
              refine O.stop (Mem.none hM5_20) ?_
              refine AO.nil (by kernel_rfl) ?_
              refine C.seq ?_
              refine C.region ?_
              refine O.val (v := .slice (A12_2) ((packF l12_1).length) (c12_2)) rfl (Ru.move rfl) rfl ?_
              refine O.val (v := .slice (A12_2) ((packF l12_1).length) (c12_2)) rfl (Ru.assign rfl) rfl ?_
              refine O.nil ?_
              refine C.ret ?_
              refine P1 (v := .slice (A12_2) ((packF l12_1).length) (c12_2)) rfl ?_
              have hq3 : (packF l12_1).set ((k4_3).toNat) (⟨k5_9, s5_17⟩) = (packF l12_1).set ((k4_3).toNat) (⟨k5_9, s5_17⟩) := (by first | rfl | simp | (simp; omega))
              have hMn3 : Mem w w5_20 [] [[⟨.slice (bl gr1_1) 1 1, 66, 2, 1, [.slice (A) ((l11_1).length) (c), I ((((((q12_1 + 1) + 1) + 1) + 1 : Nat) : Int))]⟩], [⟨.slice (bl b5_16) (6) (6), 9, 1, 6, ([[], [97], [98], [122], [65], ((packF l12_1)[(k4_3).toNat]'hx5_13).tail]).map S⟩], [⟨.slice (bl b5_8) (5) (5), 3, 1, 5, ([0, 1, 2, (-1), ((packF l12_1)[(k4_3).toNat]'hx5_5).same]).map I⟩], [⟨.slice (A12_2) (((packF l12_1).set ((k4_3).toNat) (⟨k5_9, s5_17⟩)).length) (c12_2), 39, 2, (((packF l12_1).set ((k4_3).toNat) (⟨k5_9, s5_17⟩)).length), ((packF l12_1).set ((k4_3).toNat) (⟨k5_9, s5_17⟩)).flatMap encR⟩], [⟨.slice (A12_1) ((l12_1).length) (c12_1), 9, 1, ((l12_1).length), (l12_1).map S⟩]] := hM5_20.relen 3 (n' := ((packF l12_1).set ((k4_3).toNat) (⟨k5_9, s5_17⟩)).length) (xs' := ((packF l12_1).set ((k4_3).toNat) (⟨k5_9, s5_17⟩)).flatMap encR) rfl (by rw [← hq3]; first | done | rfl | simp | (simp; omega)) (by rw [← hq3]) rfl
              exact ⟨(packF l12_1).set ((k4_3).toNat) (⟨k5_9, s5_17⟩), A12_2, c12_2, (by first | rfl | exact sl_congr (by simp) | (simp; done)), (by first | omega | (simp; omega)), (by first | exact hpt | exact tails_set hpt hts), (hMn3.pick [3] (by decide) rfl)⟩
        · refine step1 (ls' := [true, true, true, true, true, true, true, true, false, false, true, true, true, true, true, true, false, false, false, false, false]) rfl rfl ?_
          refine O.val rfl (Ru.load1 el9 rfl (ldf encR_len (hM5a.rd 1 rfl) hx5_13 rfl)) rfl ?_
          refine O.stop (Mem.none hM5a) ?_
          refine AO.two 8 16 (by kernel_rfl) ?_ ?_
          · refine step1 (ls' := [true, true, true, true, true, true, true, true, true, false, true, true, true, true, true, true, false, false, false, false, false]) rfl rfl ?_
            refine O.mlit (sz := 1) (cs := [I (0), I (1), I (2), I ((-1)), I (((packF l12_1)[(k4_3).toNat]'hx5_5).same)]) hM5a rfl Try.underlying59 el3 rfl rfl rfl (by kernel_rfl) (by kernel_rfl) rfl rfl (fun w5_8 b5_8 hb5_8 (hM5_8 : Mem w w5_8 [] [[⟨.slice (bl b5_8) (5) (5), 3, 1, 5, ([0, 1, 2, (-1), ((packF l12_1)[(k4_3).toNat]'hx5_5).same]).map I⟩], [⟨.slice (bl gr1_1) 1 1, 66, 2, 1, [.slice (A) ((l11_1).length) (c), I ((((q12_1 + 1) + 1 : Nat) : Int))]⟩], [⟨.slice (A12_2) ((packF l12_1).length) (c12_2), 39, 2, ((packF l12_1).length), (packF l12_1).flatMap encR⟩], [⟨.slice (A12_1) ((l12_1).length) (c12_1), 9, 1, ((l12_1).length), (l12_1).map S⟩]]) => ?_)
            refine O.stop (Mem.none hM5_8) ?_
            refine AO.two 9 16 (by kernel_rfl) ?_ ?_
            · refine step1 (ls' := [true, true, true, true, true, true, true, true, true, true, true, true, true, true, true, true, false, false, false, false, false]) rfl rfl ?_
              have hMf5_9 : Mem w w5_8 [] [[⟨.slice (bl gr1_1) 1 1, 66, 2, 1, [.slice (A) ((l11_1).length) (c), I ((((q12_1 + 1) + 1 : Nat) : Int))]⟩], [⟨.slice (bl b5_8) (5) (5), 3, 1, 5, ([0, 1, 2, (-1), ((packF l12_1)[(k4_3).toNat]'hx5_5).same]).map I⟩], [⟨.slice (A12_2) ((packF l12_1).length) (c12_2), 39, 2, ((packF l12_1).length), (packF l12_1).flatMap encR⟩], [⟨.slice (A12_1) ((l12_1).length) (c12_1), 9, 1, ((l12_1).length), (l12_1).map S⟩]] := hM5_8.pick [1, 0, 2, 3] (by decide) rfl
              refine O.callg [.pointer (ofs (bl gr1_1) (0)), .slice (bl b5_8) (([0, 1, 2, (-1), ((packF l12_1)[(k4_3).toNat]'hx5_5).same]).length) (5)] rfl en60 (by first | rfl | (rw [show ([0, 1, 2, (-1), ((packF l12_1)[(k4_3).toNat]'hx5_5).same]).length = 5 from (by first | rfl | (simp; done) | omega | (simp; omega))]; rfl)) rfl (one_fn gr1_1 A c l11_1 ((q12_1 + 1) + 1) (bl b5_8) 5 ([0, 1, 2, (-1), ((packF l12_1)[(k4_3).toNat]'hx5_5).same]) w5_8 (hrA.at hMf5_9) (Mem.ng_old hMf5_9 hrA 0 rfl) hrl (hMf5_9.rd 1 rfl) (Off.of_ng (hMf5_9.ng 1 0 (by decide) rfl rfl)) (Mem.focus (Ma := [[⟨.slice (bl gr1_1) 1 1, 66, 2, 1, [.slice (A) ((l11_1).length) (c), I ((((q12_1 + 1) + 1 : Nat) : Int))]⟩]]) (rest := [[⟨.slice (bl b5_8) (5) (5), 3, 1, 5, ([0, 1, 2, (-1), ((packF l12_1)[(k4_3).toNat]'hx5_5).same]).map I⟩], [⟨.slice (A12_2) ((packF l12_1).length) (c12_2), 39, 2, ((packF l12_1).length), (packF l12_1).flatMap encR⟩], [⟨.slice (A12_1) ((l12_1).length) (c12_1), 9, 1, ((l12_1).length), (l12_1).map S⟩]]) hMf5_9 rfl) (by first | omega | assumption | (simp; omega) | simp | (intros; omega)) (by simp) (by simp)) ?_
              rintro _ w5_9 ⟨k5_9, rfl, hk5_9, hR5_9⟩
              have hM5_9 : Mem w w5_9 [] [[⟨.slice (bl gr1_1) 1 1, 66, 2, 1, [.slice (A) ((l11_1).length) (c), I (((((q12_1 + 1) + 1) + 1 : Nat) : Int))]⟩], [⟨.slice (bl b5_8) (5) (5), 3, 1, 5, ([0, 1, 2, (-1), ((packF l12_1)[(k4_3).toNat]'hx5_5).same]).map I⟩], [⟨.slice (A12_2) ((packF l12_1).length) (c12_2), 39, 2, ((packF l12_1).length), (packF l12_1).flatMap encR⟩], [⟨.slice (A12_1) ((l12_1).length) (c12_1), 9, 1, ((l12_1).length), (l12_1).map S⟩]] := Mem.call (Ma := [[⟨.slice (bl gr1_1) 1 1, 66, 2, 1, [.slice (A) ((l11_1).length) (c), I ((((q12_1 + 1) + 1 : Nat) : Int))]⟩]]) hMf5_9 hR5_9 rfl
              refine O.stop (Mem.none hM5_9) ?_
              refine AO.one 16 (by kernel_rfl) ?_
              refine step1 (ls' := [true, true, true, true, true, true, true, true, true, true, true, true, true, true, true, true, true, false, false, false, false]) rfl rfl ?_
              refine O.mlit (sz := 1) (cs := [S ([]), S ([97]), S ([98]), S ([122]), S ([65]), S (((packF l12_1)[(k4_3).toNat]'hx5_13).tail)]) hM5_9 rfl Try.underlying24 el9 rfl rfl rfl (by kernel_rfl) (by kernel_rfl) rfl rfl (fun w5_16 b5_16 hb5_16 (hM5_16 : Mem w w5_16 [] [[⟨.slice (bl b5_16) (6) (6), 9, 1, 6, ([[], [97], [98], [122], [65], ((packF l12_1)[(k4_3).toNat]'hx5_13).tail]).map S⟩], [⟨.slice (bl gr1_1) 1 1, 66, 2, 1, [.slice (A) ((l11_1).length) (c), I (((((q12_1 + 1) + 1) + 1 : Nat) : Int))]⟩], [⟨.slice (bl b5_8) (5) (5), 3, 1, 5, ([0, 1, 2, (-1), ((packF l12_1)[(k4_3).toNat]'hx5_5).same]).map I⟩], [⟨.slice (A12_2) ((packF l12_1).length) (c12_2), 39, 2, ((packF l12_1).length), (packF l12_1).flatMap encR⟩], [⟨.slice (A12_1) ((l12_1).length) (c12_1), 9, 1, ((l12_1).length), (l12_1).map S⟩]]) => ?_)
              refine O.stop (Mem.none hM5_16) ?_
              refine AO.one 17 (by kernel_rfl) ?_
              refine step1 (ls' := [true, true, true, true, true, true, true, true, true, true, true, true, true, true, true, true, true, true, false, false, false]) rfl rfl ?_
              have hMf5_17 : Mem w w5_16 [] [[⟨.slice (bl gr1_1) 1 1, 66, 2, 1, [.slice (A) ((l11_1).length) (c), I (((((q12_1 + 1) + 1) + 1 : Nat) : Int))]⟩], [⟨.slice (bl b5_16) (6) (6), 9, 1, 6, ([[], [97], [98], [122], [65], ((packF l12_1)[(k4_3).toNat]'hx5_13).tail]).map S⟩], [⟨.slice (bl b5_8) (5) (5), 3, 1, 5, ([0, 1, 2, (-1), ((packF l12_1)[(k4_3).toNat]'hx5_5).same]).map I⟩], [⟨.slice (A12_2) ((packF l12_1).length) (c12_2), 39, 2, ((packF l12_1).length), (packF l12_1).flatMap encR⟩], [⟨.slice (A12_1) ((l12_1).length) (c12_1), 9, 1, ((l12_1).length), (l12_1).map S⟩]] := hM5_16.pick [1, 0, 2, 3, 4] (by decide) rfl
              refine O.callg [.pointer (ofs (bl gr1_1) (0)), .slice (bl b5_16) (([[], [97], [98], [122], [65], ((packF l12_1)[(k4_3).toNat]'hx5_13).tail]).length) (6)] rfl en61 (by first | rfl | (rw [show ([[], [97], [98], [122], [65], ((packF l12_1)[(k4_3).toNat]'hx5_13).tail]).length = 6 from (by first | rfl | (simp; done) | omega | (simp; omega))]; rfl)) rfl (of_fn gr1_1 A c l11_1 (((q12_1 + 1) + 1) + 1) (bl b5_16) 6 ([[], [97], [98], [122], [65], ((packF l12_1)[(k4_3).toNat]'hx5_13).tail]) w5_16 (hrA.at hMf5_17) (Mem.ng_old hMf5_17 hrA 0 rfl) hrl (hMf5_17.rd 1 rfl) (Off.of_ng (hMf5_17.ng 1 0 (by decide) rfl rfl)) (Mem.focus (Ma := [[⟨.slice (bl gr1_1) 1 1, 66, 2, 1, [.slice (A) ((l11_1).length) (c), I (((((q12_1 + 1) + 1) + 1 : Nat) : Int))]⟩]]) (rest := [[⟨.slice (bl b5_16) (6) (6), 9, 1, 6, ([[], [97], [98], [122], [65], ((packF l12_1)[(k4_3).toNat]'hx5_13).tail]).map S⟩], [⟨.slice (bl b5_8) (5) (5), 3, 1, 5, ([0, 1, 2, (-1), ((packF l12_1)[(k4_3).toNat]'hx5_5).same]).map I⟩], [⟨.slice (A12_2) ((packF l12_1).length) (c12_2), 39, 2, ((packF l12_1).length), (packF l12_1).flatMap encR⟩], [⟨.slice (A12_1) ((l12_1).length) (c12_1), 9, 1, ((l12_1).length), (l12_1).map S⟩]]) hMf5_17 rfl) (by first | omega | assumption | (simp; omega) | simp | (intros; omega)) (by simp) (by simp)) ?_
              rintro _ w5_17 ⟨s5_17, rfl, hs5_17, hR5_17⟩
              have hM5_17 : Mem w w5_17 [] [[⟨.slice (bl gr1_1) 1 1, 66, 2, 1, [.slice (A) ((l11_1).length) (c), I ((((((q12_1 + 1) + 1) + 1) + 1 : Nat) : Int))]⟩], [⟨.slice (bl b5_16) (6) (6), 9, 1, 6, ([[], [97], [98], [122], [65], ((packF l12_1)[(k4_3).toNat]'hx5_13).tail]).map S⟩], [⟨.slice (bl b5_8) (5) (5), 3, 1, 5, ([0, 1, 2, (-1), ((packF l12_1)[(k4_3).toNat]'hx5_5).same]).map I⟩], [⟨.slice (A12_2) ((packF l12_1).length) (c12_2), 39, 2, ((packF l12_1).length), (packF l12_1).flatMap encR⟩], [⟨.slice (A12_1) ((l12_1).length) (c12_1), 9, 1, ((l12_1).length), (l12_1).map S⟩]] := Mem.call (Ma := [[⟨.slice (bl gr1_1) 1 1, 66, 2, 1, [.slice (A) ((l11_1).length) (c), I (((((q12_1 + 1) + 1) + 1 : Nat) : Int))]⟩]]) hMf5_17 hR5_17 rfl
              have hts := of_tail hs5_17 (hpt _ (List.getElem_mem hkk))
              refine O.stop (Mem.none hM5_17) ?_
              refine AO.val (v := .agg #[I (k5_9), S (s5_17)]) 18 (ls' := [true, true, true, true, true, true, true, true, true, true, true, true, true, true, true, true, true, true, true, false, false]) rfl (by kernel_rfl) rfl rfl (fun w2 hw2 => Ru.build of39 rfl rfl rfl) rfl ?_
              have hx5_19 : (k4_3).toNat < (packF l12_1).length := (by first | omega | (simp; omega))
              refine AO.val (v := .pointer (ofs (A12_2) (((k4_3).toNat) * 2))) 19 (ls' := [true, true, true, true, true, true, true, true, true, true, true, true, true, true, true, true, true, true, true, true, false]) rfl (by kernel_rfl) rfl rfl (fun w2 hw2 => Ru.indexA (j := (k4_3).toNat) Try.underlying35 el39 rfl rfl (smf encR_len (hM5_17.rd 3 rfl) hx5_19 rfl) (by omega) (by first | omega | (simp; omega))) rfl ?_
              refine AO.one 20 (by kernel_rfl) ?_
              refine step1 (ls' := [true, true, true, true, true, true, true, true, true, true, true, true, true, true, true, true, true, true, true, true, true]) rfl rfl ?_
              refine O.mstore (vs := [I (k5_9), S (s5_17)]) (xs' := ((packF l12_1).set ((k4_3).toNat) (⟨k5_9, s5_17⟩)).flatMap encR) 3 0 hM5_17 rfl rfl rfl el39 rfl rfl rfl rfl rfl (by rw [flat_len encR_len]; simp; omega) (by simp) (spl_flat encR_len (l := packF l12_1) (a := ⟨k5_9, s5_17⟩) hx5_19) rfl (fun w5_20 (hM5_20 : Mem w w5_20 [] [[⟨.slice (bl gr1_1) 1 1, 66, 2, 1, [.slice (A) ((l11_1).length) (c), I ((((((q12_1 + 1) + 1) + 1) + 1 : Nat) : Int))]⟩], [⟨.slice (bl b5_16) (6) (6), 9, 1, 6, ([[], [97], [98], [122], [65], ((packF l12_1)[(k4_3).toNat]'hx5_13).tail]).map S⟩], [⟨.slice (bl b5_8) (5) (5), 3, 1, 5, ([0, 1, 2, (-1), ((packF l12_1)[(k4_3).toNat]'hx5_5).same]).map I⟩], [⟨.slice (A12_2) ((packF l12_1).length) (c12_2), 39, 2, ((packF l12_1).length), ((packF l12_1).set ((k4_3).toNat) (⟨k5_9, s5_17⟩)).flatMap encR⟩], [⟨.slice (A12_1) ((l12_1).length) (c12_1), 9, 1, ((l12_1).length), (l12_1).map S⟩]]) => ?_)
              refine O.stop (Mem.none hM5_20) ?_
              refine AO.nil (by kernel_rfl) ?_
              refine C.seq ?_
              refine C.region ?_
              refine O.val (v := .slice (A12_2) ((packF l12_1).length) (c12_2)) rfl (Ru.move rfl) rfl ?_
              refine O.val (v := .slice (A12_2) ((packF l12_1).length) (c12_2)) rfl (Ru.assign rfl) rfl ?_
              refine O.nil ?_
              refine C.ret ?_
              refine P1 (v := .slice (A12_2) ((packF l12_1).length) (c12_2)) rfl ?_
              have hq4 : (packF l12_1).set ((k4_3).toNat) (⟨k5_9, s5_17⟩) = (packF l12_1).set ((k4_3).toNat) (⟨k5_9, s5_17⟩) := (by first | rfl | simp | (simp; omega))
              have hMn4 : Mem w w5_20 [] [[⟨.slice (bl gr1_1) 1 1, 66, 2, 1, [.slice (A) ((l11_1).length) (c), I ((((((q12_1 + 1) + 1) + 1) + 1 : Nat) : Int))]⟩], [⟨.slice (bl b5_16) (6) (6), 9, 1, 6, ([[], [97], [98], [122], [65], ((packF l12_1)[(k4_3).toNat]'hx5_13).tail]).map S⟩], [⟨.slice (bl b5_8) (5) (5), 3, 1, 5, ([0, 1, 2, (-1), ((packF l12_1)[(k4_3).toNat]'hx5_5).same]).map I⟩], [⟨.slice (A12_2) (((packF l12_1).set ((k4_3).toNat) (⟨k5_9, s5_17⟩)).length) (c12_2), 39, 2, (((packF l12_1).set ((k4_3).toNat) (⟨k5_9, s5_17⟩)).length), ((packF l12_1).set ((k4_3).toNat) (⟨k5_9, s5_17⟩)).flatMap encR⟩], [⟨.slice (A12_1) ((l12_1).length) (c12_1), 9, 1, ((l12_1).length), (l12_1).map S⟩]] := hM5_20.relen 3 (n' := ((packF l12_1).set ((k4_3).toNat) (⟨k5_9, s5_17⟩)).length) (xs' := ((packF l12_1).set ((k4_3).toNat) (⟨k5_9, s5_17⟩)).flatMap encR) rfl (by rw [← hq4]; first | done | rfl | simp | (simp; omega)) (by rw [← hq4]) rfl
              exact ⟨(packF l12_1).set ((k4_3).toNat) (⟨k5_9, s5_17⟩), A12_2, c12_2, (by first | rfl | exact sl_congr (by simp) | (simp; done)), (by first | omega | (simp; omega)), (by first | exact hpt | exact tails_set hpt hts), (hMn4.pick [3] (by decide) rfl)⟩
            · refine step1 (ls' := [true, true, true, true, true, true, true, true, true, false, true, true, true, true, true, true, true, false, false, false, false]) rfl rfl ?_
              refine O.mlit (sz := 1) (cs := [S ([]), S ([97]), S ([98]), S ([122]), S ([65]), S (((packF l12_1)[(k4_3).toNat]'hx5_13).tail)]) hM5_8 rfl Try.underlying24 el9 rfl rfl rfl (by kernel_rfl) (by kernel_rfl) rfl rfl (fun w5_16 b5_16 hb5_16 (hM5_16 : Mem w w5_16 [] [[⟨.slice (bl b5_16) (6) (6), 9, 1, 6, ([[], [97], [98], [122], [65], ((packF l12_1)[(k4_3).toNat]'hx5_13).tail]).map S⟩], [⟨.slice (bl b5_8) (5) (5), 3, 1, 5, ([0, 1, 2, (-1), ((packF l12_1)[(k4_3).toNat]'hx5_5).same]).map I⟩], [⟨.slice (bl gr1_1) 1 1, 66, 2, 1, [.slice (A) ((l11_1).length) (c), I ((((q12_1 + 1) + 1 : Nat) : Int))]⟩], [⟨.slice (A12_2) ((packF l12_1).length) (c12_2), 39, 2, ((packF l12_1).length), (packF l12_1).flatMap encR⟩], [⟨.slice (A12_1) ((l12_1).length) (c12_1), 9, 1, ((l12_1).length), (l12_1).map S⟩]]) => ?_)
              refine O.stop (Mem.none hM5_16) ?_
              refine AO.one 9 (by kernel_rfl) ?_
              refine step1 (ls' := [true, true, true, true, true, true, true, true, true, true, true, true, true, true, true, true, true, false, false, false, false]) rfl rfl ?_
              have hMf5_9 : Mem w w5_16 [] [[⟨.slice (bl gr1_1) 1 1, 66, 2, 1, [.slice (A) ((l11_1).length) (c), I ((((q12_1 + 1) + 1 : Nat) : Int))]⟩], [⟨.slice (bl b5_16) (6) (6), 9, 1, 6, ([[], [97], [98], [122], [65], ((packF l12_1)[(k4_3).toNat]'hx5_13).tail]).map S⟩], [⟨.slice (bl b5_8) (5) (5), 3, 1, 5, ([0, 1, 2, (-1), ((packF l12_1)[(k4_3).toNat]'hx5_5).same]).map I⟩], [⟨.slice (A12_2) ((packF l12_1).length) (c12_2), 39, 2, ((packF l12_1).length), (packF l12_1).flatMap encR⟩], [⟨.slice (A12_1) ((l12_1).length) (c12_1), 9, 1, ((l12_1).length), (l12_1).map S⟩]] := hM5_16.pick [2, 0, 1, 3, 4] (by decide) rfl
              refine O.callg [.pointer (ofs (bl gr1_1) (0)), .slice (bl b5_8) (([0, 1, 2, (-1), ((packF l12_1)[(k4_3).toNat]'hx5_5).same]).length) (5)] rfl en60 (by first | rfl | (rw [show ([0, 1, 2, (-1), ((packF l12_1)[(k4_3).toNat]'hx5_5).same]).length = 5 from (by first | rfl | (simp; done) | omega | (simp; omega))]; rfl)) rfl (one_fn gr1_1 A c l11_1 ((q12_1 + 1) + 1) (bl b5_8) 5 ([0, 1, 2, (-1), ((packF l12_1)[(k4_3).toNat]'hx5_5).same]) w5_16 (hrA.at hMf5_9) (Mem.ng_old hMf5_9 hrA 0 rfl) hrl (hMf5_9.rd 2 rfl) (Off.of_ng (hMf5_9.ng 2 0 (by decide) rfl rfl)) (Mem.focus (Ma := [[⟨.slice (bl gr1_1) 1 1, 66, 2, 1, [.slice (A) ((l11_1).length) (c), I ((((q12_1 + 1) + 1 : Nat) : Int))]⟩]]) (rest := [[⟨.slice (bl b5_16) (6) (6), 9, 1, 6, ([[], [97], [98], [122], [65], ((packF l12_1)[(k4_3).toNat]'hx5_13).tail]).map S⟩], [⟨.slice (bl b5_8) (5) (5), 3, 1, 5, ([0, 1, 2, (-1), ((packF l12_1)[(k4_3).toNat]'hx5_5).same]).map I⟩], [⟨.slice (A12_2) ((packF l12_1).length) (c12_2), 39, 2, ((packF l12_1).length), (packF l12_1).flatMap encR⟩], [⟨.slice (A12_1) ((l12_1).length) (c12_1), 9, 1, ((l12_1).length), (l12_1).map S⟩]]) hMf5_9 rfl) (by first | omega | assumption | (simp; omega) | simp | (intros; omega)) (by simp) (by simp)) ?_
              rintro _ w5_9 ⟨k5_9, rfl, hk5_9, hR5_9⟩
              have hM5_9 : Mem w w5_9 [] [[⟨.slice (bl gr1_1) 1 1, 66, 2, 1, [.slice (A) ((l11_1).length) (c), I (((((q12_1 + 1) + 1) + 1 : Nat) : Int))]⟩], [⟨.slice (bl b5_16) (6) (6), 9, 1, 6, ([[], [97], [98], [122], [65], ((packF l12_1)[(k4_3).toNat]'hx5_13).tail]).map S⟩], [⟨.slice (bl b5_8) (5) (5), 3, 1, 5, ([0, 1, 2, (-1), ((packF l12_1)[(k4_3).toNat]'hx5_5).same]).map I⟩], [⟨.slice (A12_2) ((packF l12_1).length) (c12_2), 39, 2, ((packF l12_1).length), (packF l12_1).flatMap encR⟩], [⟨.slice (A12_1) ((l12_1).length) (c12_1), 9, 1, ((l12_1).length), (l12_1).map S⟩]] := Mem.call (Ma := [[⟨.slice (bl gr1_1) 1 1, 66, 2, 1, [.slice (A) ((l11_1).length) (c), I ((((q12_1 + 1) + 1 : Nat) : Int))]⟩]]) hMf5_9 hR5_9 rfl
              refine O.stop (Mem.none hM5_9) ?_
              refine AO.one 17 (by kernel_rfl) ?_
              refine step1 (ls' := [true, true, true, true, true, true, true, true, true, true, true, true, true, true, true, true, true, true, false, false, false]) rfl rfl ?_
              refine O.callg [.pointer (ofs (bl gr1_1) (0)), .slice (bl b5_16) (([[], [97], [98], [122], [65], ((packF l12_1)[(k4_3).toNat]'hx5_13).tail]).length) (6)] rfl en61 (by first | rfl | (rw [show ([[], [97], [98], [122], [65], ((packF l12_1)[(k4_3).toNat]'hx5_13).tail]).length = 6 from (by first | rfl | (simp; done) | omega | (simp; omega))]; rfl)) rfl (of_fn gr1_1 A c l11_1 (((q12_1 + 1) + 1) + 1) (bl b5_16) 6 ([[], [97], [98], [122], [65], ((packF l12_1)[(k4_3).toNat]'hx5_13).tail]) w5_9 (hrA.at hM5_9) (Mem.ng_old hM5_9 hrA 0 rfl) hrl (hM5_9.rd 1 rfl) (Off.of_ng (hM5_9.ng 1 0 (by decide) rfl rfl)) (Mem.focus (Ma := [[⟨.slice (bl gr1_1) 1 1, 66, 2, 1, [.slice (A) ((l11_1).length) (c), I (((((q12_1 + 1) + 1) + 1 : Nat) : Int))]⟩]]) (rest := [[⟨.slice (bl b5_16) (6) (6), 9, 1, 6, ([[], [97], [98], [122], [65], ((packF l12_1)[(k4_3).toNat]'hx5_13).tail]).map S⟩], [⟨.slice (bl b5_8) (5) (5), 3, 1, 5, ([0, 1, 2, (-1), ((packF l12_1)[(k4_3).toNat]'hx5_5).same]).map I⟩], [⟨.slice (A12_2) ((packF l12_1).length) (c12_2), 39, 2, ((packF l12_1).length), (packF l12_1).flatMap encR⟩], [⟨.slice (A12_1) ((l12_1).length) (c12_1), 9, 1, ((l12_1).length), (l12_1).map S⟩]]) hM5_9 rfl) (by first | omega | assumption | (simp; omega) | simp | (intros; omega)) (by simp) (by simp)) ?_
              rintro _ w5_17 ⟨s5_17, rfl, hs5_17, hR5_17⟩
              have hM5_17 : Mem w w5_17 [] [[⟨.slice (bl gr1_1) 1 1, 66, 2, 1, [.slice (A) ((l11_1).length) (c), I ((((((q12_1 + 1) + 1) + 1) + 1 : Nat) : Int))]⟩], [⟨.slice (bl b5_16) (6) (6), 9, 1, 6, ([[], [97], [98], [122], [65], ((packF l12_1)[(k4_3).toNat]'hx5_13).tail]).map S⟩], [⟨.slice (bl b5_8) (5) (5), 3, 1, 5, ([0, 1, 2, (-1), ((packF l12_1)[(k4_3).toNat]'hx5_5).same]).map I⟩], [⟨.slice (A12_2) ((packF l12_1).length) (c12_2), 39, 2, ((packF l12_1).length), (packF l12_1).flatMap encR⟩], [⟨.slice (A12_1) ((l12_1).length) (c12_1), 9, 1, ((l12_1).length), (l12_1).map S⟩]] := Mem.call (Ma := [[⟨.slice (bl gr1_1) 1 1, 66, 2, 1, [.slice (A) ((l11_1).length) (c), I (((((q12_1 + 1) + 1) + 1 : Nat) : Int))]⟩]]) hM5_9 hR5_17 rfl
              have hts := of_tail hs5_17 (hpt _ (List.getElem_mem hkk))
              refine O.stop (Mem.none hM5_17) ?_
              refine AO.val (v := .agg #[I (k5_9), S (s5_17)]) 18 (ls' := [true, true, true, true, true, true, true, true, true, true, true, true, true, true, true, true, true, true, true, false, false]) rfl (by kernel_rfl) rfl rfl (fun w2 hw2 => Ru.build of39 rfl rfl rfl) rfl ?_
              have hx5_19 : (k4_3).toNat < (packF l12_1).length := (by first | omega | (simp; omega))
              refine AO.val (v := .pointer (ofs (A12_2) (((k4_3).toNat) * 2))) 19 (ls' := [true, true, true, true, true, true, true, true, true, true, true, true, true, true, true, true, true, true, true, true, false]) rfl (by kernel_rfl) rfl rfl (fun w2 hw2 => Ru.indexA (j := (k4_3).toNat) Try.underlying35 el39 rfl rfl (smf encR_len (hM5_17.rd 3 rfl) hx5_19 rfl) (by omega) (by first | omega | (simp; omega))) rfl ?_
              refine AO.one 20 (by kernel_rfl) ?_
              refine step1 (ls' := [true, true, true, true, true, true, true, true, true, true, true, true, true, true, true, true, true, true, true, true, true]) rfl rfl ?_
              refine O.mstore (vs := [I (k5_9), S (s5_17)]) (xs' := ((packF l12_1).set ((k4_3).toNat) (⟨k5_9, s5_17⟩)).flatMap encR) 3 0 hM5_17 rfl rfl rfl el39 rfl rfl rfl rfl rfl (by rw [flat_len encR_len]; simp; omega) (by simp) (spl_flat encR_len (l := packF l12_1) (a := ⟨k5_9, s5_17⟩) hx5_19) rfl (fun w5_20 (hM5_20 : Mem w w5_20 [] [[⟨.slice (bl gr1_1) 1 1, 66, 2, 1, [.slice (A) ((l11_1).length) (c), I ((((((q12_1 + 1) + 1) + 1) + 1 : Nat) : Int))]⟩], [⟨.slice (bl b5_16) (6) (6), 9, 1, 6, ([[], [97], [98], [122], [65], ((packF l12_1)[(k4_3).toNat]'hx5_13).tail]).map S⟩], [⟨.slice (bl b5_8) (5) (5), 3, 1, 5, ([0, 1, 2, (-1), ((packF l12_1)[(k4_3).toNat]'hx5_5).same]).map I⟩], [⟨.slice (A12_2) ((packF l12_1).length) (c12_2), 39, 2, ((packF l12_1).length), ((packF l12_1).set ((k4_3).toNat) (⟨k5_9, s5_17⟩)).flatMap encR⟩], [⟨.slice (A12_1) ((l12_1).length) (c12_1), 9, 1, ((l12_1).length), (l12_1).map S⟩]]) => ?_)
              refine O.stop (Mem.none hM5_20) ?_
              refine AO.nil (by kernel_rfl) ?_
              refine C.seq ?_
              refine C.region ?_
              refine O.val (v := .slice (A12_2) ((packF l12_1).length) (c12_2)) rfl (Ru.move rfl) rfl ?_
              refine O.val (v := .slice (A12_2) ((packF l12_1).length) (c12_2)) rfl (Ru.assign rfl) rfl ?_
              refine O.nil ?_
              refine C.ret ?_
              refine P1 (v := .slice (A12_2) ((packF l12_1).length) (c12_2)) rfl ?_
              have hq5 : (packF l12_1).set ((k4_3).toNat) (⟨k5_9, s5_17⟩) = (packF l12_1).set ((k4_3).toNat) (⟨k5_9, s5_17⟩) := (by first | rfl | simp | (simp; omega))
              have hMn5 : Mem w w5_20 [] [[⟨.slice (bl gr1_1) 1 1, 66, 2, 1, [.slice (A) ((l11_1).length) (c), I ((((((q12_1 + 1) + 1) + 1) + 1 : Nat) : Int))]⟩], [⟨.slice (bl b5_16) (6) (6), 9, 1, 6, ([[], [97], [98], [122], [65], ((packF l12_1)[(k4_3).toNat]'hx5_13).tail]).map S⟩], [⟨.slice (bl b5_8) (5) (5), 3, 1, 5, ([0, 1, 2, (-1), ((packF l12_1)[(k4_3).toNat]'hx5_5).same]).map I⟩], [⟨.slice (A12_2) (((packF l12_1).set ((k4_3).toNat) (⟨k5_9, s5_17⟩)).length) (c12_2), 39, 2, (((packF l12_1).set ((k4_3).toNat) (⟨k5_9, s5_17⟩)).length), ((packF l12_1).set ((k4_3).toNat) (⟨k5_9, s5_17⟩)).flatMap encR⟩], [⟨.slice (A12_1) ((l12_1).length) (c12_1), 9, 1, ((l12_1).length), (l12_1).map S⟩]] := hM5_20.relen 3 (n' := ((packF l12_1).set ((k4_3).toNat) (⟨k5_9, s5_17⟩)).length) (xs' := ((packF l12_1).set ((k4_3).toNat) (⟨k5_9, s5_17⟩)).flatMap encR) rfl (by rw [← hq5]; first | done | rfl | simp | (simp; omega)) (by rw [← hq5]) rfl
              exact ⟨(packF l12_1).set ((k4_3).toNat) (⟨k5_9, s5_17⟩), A12_2, c12_2, (by first | rfl | exact sl_congr (by simp) | (simp; done)), (by first | omega | (simp; omega)), (by first | exact hpt | exact tails_set hpt hts), (hMn5.pick [3] (by decide) rfl)⟩
          · refine step1 (ls' := [true, true, true, true, true, true, true, true, false, false, true, true, true, true, true, true, true, false, false, false, false]) rfl rfl ?_
            refine O.mlit (sz := 1) (cs := [S ([]), S ([97]), S ([98]), S ([122]), S ([65]), S (((packF l12_1)[(k4_3).toNat]'hx5_13).tail)]) hM5a rfl Try.underlying24 el9 rfl rfl rfl (by kernel_rfl) (by kernel_rfl) rfl rfl (fun w5_16 b5_16 hb5_16 (hM5_16 : Mem w w5_16 [] [[⟨.slice (bl b5_16) (6) (6), 9, 1, 6, ([[], [97], [98], [122], [65], ((packF l12_1)[(k4_3).toNat]'hx5_13).tail]).map S⟩], [⟨.slice (bl gr1_1) 1 1, 66, 2, 1, [.slice (A) ((l11_1).length) (c), I ((((q12_1 + 1) + 1 : Nat) : Int))]⟩], [⟨.slice (A12_2) ((packF l12_1).length) (c12_2), 39, 2, ((packF l12_1).length), (packF l12_1).flatMap encR⟩], [⟨.slice (A12_1) ((l12_1).length) (c12_1), 9, 1, ((l12_1).length), (l12_1).map S⟩]]) => ?_)
            refine O.stop (Mem.none hM5_16) ?_
            refine AO.one 8 (by kernel_rfl) ?_
            refine step1 (ls' := [true, true, true, true, true, true, true, true, true, false, true, true, true, true, true, true, true, false, false, false, false]) rfl rfl ?_
            refine O.mlit (sz := 1) (cs := [I (0), I (1), I (2), I ((-1)), I (((packF l12_1)[(k4_3).toNat]'hx5_5).same)]) hM5_16 rfl Try.underlying59 el3 rfl rfl rfl (by kernel_rfl) (by kernel_rfl) rfl rfl (fun w5_8 b5_8 hb5_8 (hM5_8 : Mem w w5_8 [] [[⟨.slice (bl b5_8) (5) (5), 3, 1, 5, ([0, 1, 2, (-1), ((packF l12_1)[(k4_3).toNat]'hx5_5).same]).map I⟩], [⟨.slice (bl b5_16) (6) (6), 9, 1, 6, ([[], [97], [98], [122], [65], ((packF l12_1)[(k4_3).toNat]'hx5_13).tail]).map S⟩], [⟨.slice (bl gr1_1) 1 1, 66, 2, 1, [.slice (A) ((l11_1).length) (c), I ((((q12_1 + 1) + 1 : Nat) : Int))]⟩], [⟨.slice (A12_2) ((packF l12_1).length) (c12_2), 39, 2, ((packF l12_1).length), (packF l12_1).flatMap encR⟩], [⟨.slice (A12_1) ((l12_1).length) (c12_1), 9, 1, ((l12_1).length), (l12_1).map S⟩]]) => ?_)
            refine O.stop (Mem.none hM5_8) ?_
            refine AO.one 9 (by kernel_rfl) ?_
            refine step1 (ls' := [true, true, true, true, true, true, true, true, true, true, true, true, true, true, true, true, true, false, false, false, false]) rfl rfl ?_
            have hMf5_9 : Mem w w5_8 [] [[⟨.slice (bl gr1_1) 1 1, 66, 2, 1, [.slice (A) ((l11_1).length) (c), I ((((q12_1 + 1) + 1 : Nat) : Int))]⟩], [⟨.slice (bl b5_8) (5) (5), 3, 1, 5, ([0, 1, 2, (-1), ((packF l12_1)[(k4_3).toNat]'hx5_5).same]).map I⟩], [⟨.slice (bl b5_16) (6) (6), 9, 1, 6, ([[], [97], [98], [122], [65], ((packF l12_1)[(k4_3).toNat]'hx5_13).tail]).map S⟩], [⟨.slice (A12_2) ((packF l12_1).length) (c12_2), 39, 2, ((packF l12_1).length), (packF l12_1).flatMap encR⟩], [⟨.slice (A12_1) ((l12_1).length) (c12_1), 9, 1, ((l12_1).length), (l12_1).map S⟩]] := hM5_8.pick [2, 0, 1, 3, 4] (by decide) rfl
            refine O.callg [.pointer (ofs (bl gr1_1) (0)), .slice (bl b5_8) (([0, 1, 2, (-1), ((packF l12_1)[(k4_3).toNat]'hx5_5).same]).length) (5)] rfl en60 (by first | rfl | (rw [show ([0, 1, 2, (-1), ((packF l12_1)[(k4_3).toNat]'hx5_5).same]).length = 5 from (by first | rfl | (simp; done) | omega | (simp; omega))]; rfl)) rfl (one_fn gr1_1 A c l11_1 ((q12_1 + 1) + 1) (bl b5_8) 5 ([0, 1, 2, (-1), ((packF l12_1)[(k4_3).toNat]'hx5_5).same]) w5_8 (hrA.at hMf5_9) (Mem.ng_old hMf5_9 hrA 0 rfl) hrl (hMf5_9.rd 1 rfl) (Off.of_ng (hMf5_9.ng 1 0 (by decide) rfl rfl)) (Mem.focus (Ma := [[⟨.slice (bl gr1_1) 1 1, 66, 2, 1, [.slice (A) ((l11_1).length) (c), I ((((q12_1 + 1) + 1 : Nat) : Int))]⟩]]) (rest := [[⟨.slice (bl b5_8) (5) (5), 3, 1, 5, ([0, 1, 2, (-1), ((packF l12_1)[(k4_3).toNat]'hx5_5).same]).map I⟩], [⟨.slice (bl b5_16) (6) (6), 9, 1, 6, ([[], [97], [98], [122], [65], ((packF l12_1)[(k4_3).toNat]'hx5_13).tail]).map S⟩], [⟨.slice (A12_2) ((packF l12_1).length) (c12_2), 39, 2, ((packF l12_1).length), (packF l12_1).flatMap encR⟩], [⟨.slice (A12_1) ((l12_1).length) (c12_1), 9, 1, ((l12_1).length), (l12_1).map S⟩]]) hMf5_9 rfl) (by first | omega | assumption | (simp; omega) | simp | (intros; omega)) (by simp) (by simp)) ?_
            rintro _ w5_9 ⟨k5_9, rfl, hk5_9, hR5_9⟩
            have hM5_9 : Mem w w5_9 [] [[⟨.slice (bl gr1_1) 1 1, 66, 2, 1, [.slice (A) ((l11_1).length) (c), I (((((q12_1 + 1) + 1) + 1 : Nat) : Int))]⟩], [⟨.slice (bl b5_8) (5) (5), 3, 1, 5, ([0, 1, 2, (-1), ((packF l12_1)[(k4_3).toNat]'hx5_5).same]).map I⟩], [⟨.slice (bl b5_16) (6) (6), 9, 1, 6, ([[], [97], [98], [122], [65], ((packF l12_1)[(k4_3).toNat]'hx5_13).tail]).map S⟩], [⟨.slice (A12_2) ((packF l12_1).length) (c12_2), 39, 2, ((packF l12_1).length), (packF l12_1).flatMap encR⟩], [⟨.slice (A12_1) ((l12_1).length) (c12_1), 9, 1, ((l12_1).length), (l12_1).map S⟩]] := Mem.call (Ma := [[⟨.slice (bl gr1_1) 1 1, 66, 2, 1, [.slice (A) ((l11_1).length) (c), I ((((q12_1 + 1) + 1 : Nat) : Int))]⟩]]) hMf5_9 hR5_9 rfl
            refine O.stop (Mem.none hM5_9) ?_
            refine AO.one 17 (by kernel_rfl) ?_
            refine step1 (ls' := [true, true, true, true, true, true, true, true, true, true, true, true, true, true, true, true, true, true, false, false, false]) rfl rfl ?_
            refine O.callg [.pointer (ofs (bl gr1_1) (0)), .slice (bl b5_16) (([[], [97], [98], [122], [65], ((packF l12_1)[(k4_3).toNat]'hx5_13).tail]).length) (6)] rfl en61 (by first | rfl | (rw [show ([[], [97], [98], [122], [65], ((packF l12_1)[(k4_3).toNat]'hx5_13).tail]).length = 6 from (by first | rfl | (simp; done) | omega | (simp; omega))]; rfl)) rfl (of_fn gr1_1 A c l11_1 (((q12_1 + 1) + 1) + 1) (bl b5_16) 6 ([[], [97], [98], [122], [65], ((packF l12_1)[(k4_3).toNat]'hx5_13).tail]) w5_9 (hrA.at hM5_9) (Mem.ng_old hM5_9 hrA 0 rfl) hrl (hM5_9.rd 2 rfl) (Off.of_ng (hM5_9.ng 2 0 (by decide) rfl rfl)) (Mem.focus (Ma := [[⟨.slice (bl gr1_1) 1 1, 66, 2, 1, [.slice (A) ((l11_1).length) (c), I (((((q12_1 + 1) + 1) + 1 : Nat) : Int))]⟩]]) (rest := [[⟨.slice (bl b5_8) (5) (5), 3, 1, 5, ([0, 1, 2, (-1), ((packF l12_1)[(k4_3).toNat]'hx5_5).same]).map I⟩], [⟨.slice (bl b5_16) (6) (6), 9, 1, 6, ([[], [97], [98], [122], [65], ((packF l12_1)[(k4_3).toNat]'hx5_13).tail]).map S⟩], [⟨.slice (A12_2) ((packF l12_1).length) (c12_2), 39, 2, ((packF l12_1).length), (packF l12_1).flatMap encR⟩], [⟨.slice (A12_1) ((l12_1).length) (c12_1), 9, 1, ((l12_1).length), (l12_1).map S⟩]]) hM5_9 rfl) (by first | omega | assumption | (simp; omega) | simp | (intros; omega)) (by simp) (by simp)) ?_
            rintro _ w5_17 ⟨s5_17, rfl, hs5_17, hR5_17⟩
            have hM5_17 : Mem w w5_17 [] [[⟨.slice (bl gr1_1) 1 1, 66, 2, 1, [.slice (A) ((l11_1).length) (c), I ((((((q12_1 + 1) + 1) + 1) + 1 : Nat) : Int))]⟩], [⟨.slice (bl b5_8) (5) (5), 3, 1, 5, ([0, 1, 2, (-1), ((packF l12_1)[(k4_3).toNat]'hx5_5).same]).map I⟩], [⟨.slice (bl b5_16) (6) (6), 9, 1, 6, ([[], [97], [98], [122], [65], ((packF l12_1)[(k4_3).toNat]'hx5_13).tail]).map S⟩], [⟨.slice (A12_2) ((packF l12_1).length) (c12_2), 39, 2, ((packF l12_1).length), (packF l12_1).flatMap encR⟩], [⟨.slice (A12_1) ((l12_1).length) (c12_1), 9, 1, ((l12_1).length), (l12_1).map S⟩]] := Mem.call (Ma := [[⟨.slice (bl gr1_1) 1 1, 66, 2, 1, [.slice (A) ((l11_1).length) (c), I (((((q12_1 + 1) + 1) + 1 : Nat) : Int))]⟩]]) hM5_9 hR5_17 rfl
            have hts := of_tail hs5_17 (hpt _ (List.getElem_mem hkk))
            refine O.stop (Mem.none hM5_17) ?_
            refine AO.val (v := .agg #[I (k5_9), S (s5_17)]) 18 (ls' := [true, true, true, true, true, true, true, true, true, true, true, true, true, true, true, true, true, true, true, false, false]) rfl (by kernel_rfl) rfl rfl (fun w2 hw2 => Ru.build of39 rfl rfl rfl) rfl ?_
            have hx5_19 : (k4_3).toNat < (packF l12_1).length := (by first | omega | (simp; omega))
            refine AO.val (v := .pointer (ofs (A12_2) (((k4_3).toNat) * 2))) 19 (ls' := [true, true, true, true, true, true, true, true, true, true, true, true, true, true, true, true, true, true, true, true, false]) rfl (by kernel_rfl) rfl rfl (fun w2 hw2 => Ru.indexA (j := (k4_3).toNat) Try.underlying35 el39 rfl rfl (smf encR_len (hM5_17.rd 3 rfl) hx5_19 rfl) (by omega) (by first | omega | (simp; omega))) rfl ?_
            refine AO.one 20 (by kernel_rfl) ?_
            refine step1 (ls' := [true, true, true, true, true, true, true, true, true, true, true, true, true, true, true, true, true, true, true, true, true]) rfl rfl ?_
            refine O.mstore (vs := [I (k5_9), S (s5_17)]) (xs' := ((packF l12_1).set ((k4_3).toNat) (⟨k5_9, s5_17⟩)).flatMap encR) 3 0 hM5_17 rfl rfl rfl el39 rfl rfl rfl rfl rfl (by rw [flat_len encR_len]; simp; omega) (by simp) (spl_flat encR_len (l := packF l12_1) (a := ⟨k5_9, s5_17⟩) hx5_19) rfl (fun w5_20 (hM5_20 : Mem w w5_20 [] [[⟨.slice (bl gr1_1) 1 1, 66, 2, 1, [.slice (A) ((l11_1).length) (c), I ((((((q12_1 + 1) + 1) + 1) + 1 : Nat) : Int))]⟩], [⟨.slice (bl b5_8) (5) (5), 3, 1, 5, ([0, 1, 2, (-1), ((packF l12_1)[(k4_3).toNat]'hx5_5).same]).map I⟩], [⟨.slice (bl b5_16) (6) (6), 9, 1, 6, ([[], [97], [98], [122], [65], ((packF l12_1)[(k4_3).toNat]'hx5_13).tail]).map S⟩], [⟨.slice (A12_2) ((packF l12_1).length) (c12_2), 39, 2, ((packF l12_1).length), ((packF l12_1).set ((k4_3).toNat) (⟨k5_9, s5_17⟩)).flatMap encR⟩], [⟨.slice (A12_1) ((l12_1).length) (c12_1), 9, 1, ((l12_1).length), (l12_1).map S⟩]]) => ?_)
            refine O.stop (Mem.none hM5_20) ?_
            refine AO.nil (by kernel_rfl) ?_
            refine C.seq ?_
            refine C.region ?_
            refine O.val (v := .slice (A12_2) ((packF l12_1).length) (c12_2)) rfl (Ru.move rfl) rfl ?_
            refine O.val (v := .slice (A12_2) ((packF l12_1).length) (c12_2)) rfl (Ru.assign rfl) rfl ?_
            refine O.nil ?_
            refine C.ret ?_
            refine P1 (v := .slice (A12_2) ((packF l12_1).length) (c12_2)) rfl ?_
            have hq6 : (packF l12_1).set ((k4_3).toNat) (⟨k5_9, s5_17⟩) = (packF l12_1).set ((k4_3).toNat) (⟨k5_9, s5_17⟩) := (by first | rfl | simp | (simp; omega))
            have hMn6 : Mem w w5_20 [] [[⟨.slice (bl gr1_1) 1 1, 66, 2, 1, [.slice (A) ((l11_1).length) (c), I ((((((q12_1 + 1) + 1) + 1) + 1 : Nat) : Int))]⟩], [⟨.slice (bl b5_8) (5) (5), 3, 1, 5, ([0, 1, 2, (-1), ((packF l12_1)[(k4_3).toNat]'hx5_5).same]).map I⟩], [⟨.slice (bl b5_16) (6) (6), 9, 1, 6, ([[], [97], [98], [122], [65], ((packF l12_1)[(k4_3).toNat]'hx5_13).tail]).map S⟩], [⟨.slice (A12_2) (((packF l12_1).set ((k4_3).toNat) (⟨k5_9, s5_17⟩)).length) (c12_2), 39, 2, (((packF l12_1).set ((k4_3).toNat) (⟨k5_9, s5_17⟩)).length), ((packF l12_1).set ((k4_3).toNat) (⟨k5_9, s5_17⟩)).flatMap encR⟩], [⟨.slice (A12_1) ((l12_1).length) (c12_1), 9, 1, ((l12_1).length), (l12_1).map S⟩]] := hM5_20.relen 3 (n' := ((packF l12_1).set ((k4_3).toNat) (⟨k5_9, s5_17⟩)).length) (xs' := ((packF l12_1).set ((k4_3).toNat) (⟨k5_9, s5_17⟩)).flatMap encR) rfl (by rw [← hq6]; first | done | rfl | simp | (simp; omega)) (by rw [← hq6]) rfl
            exact ⟨(packF l12_1).set ((k4_3).toNat) (⟨k5_9, s5_17⟩), A12_2, c12_2, (by first | rfl | exact sl_congr (by simp) | (simp; done)), (by first | omega | (simp; omega)), (by first | exact hpt | exact tails_set hpt hts), (hMn6.pick [3] (by decide) rfl)⟩
      · refine step1 (ls' := [true, true, true, true, true, true, true, false, false, false, true, true, true, true, true, true, false, false, false, false, false]) rfl rfl ?_
        refine O.val rfl (Ru.load1 el9 rfl (ldf encR_len (hM5a.rd 1 rfl) hx5_13 rfl)) rfl ?_
        refine O.stop (Mem.none hM5a) ?_
        refine AO.two 7 16 (by kernel_rfl) ?_ ?_
        · refine step1 (ls' := [true, true, true, true, true, true, true, true, false, false, true, true, true, true, true, true, false, false, false, false, false]) rfl rfl ?_
          refine O.val rfl (Ru.load1 el3 rfl (ldf encR_len (hM5a.rd 1 rfl) hx5_5 rfl)) rfl ?_
          refine O.stop (Mem.none hM5a) ?_
          refine AO.two 8 16 (by kernel_rfl) ?_ ?_
          · refine step1 (ls' := [true, true, true, true, true, true, true, true, true, false, true, true, true, true, true, true, false, false, false, false, false]) rfl rfl ?_
            refine O.mlit (sz := 1) (cs := [I (0), I (1), I (2), I ((-1)), I (((packF l12_1)[(k4_3).toNat]'hx5_5).same)]) hM5a rfl Try.underlying59 el3 rfl rfl rfl (by kernel_rfl) (by kernel_rfl) rfl rfl (fun w5_8 b5_8 hb5_8 (hM5_8 : Mem w w5_8 [] [[⟨.slice (bl b5_8) (5) (5), 3, 1, 5, ([0, 1, 2, (-1), ((packF l12_1)[(k4_3).toNat]'hx5_5).same]).map I⟩], [⟨.slice (bl gr1_1) 1 1, 66, 2, 1, [.slice (A) ((l11_1).length) (c), I ((((q12_1 + 1) + 1 : Nat) : Int))]⟩], [⟨.slice (A12_2) ((packF l12_1).length) (c12_2), 39, 2, ((packF l12_1).length), (packF l12_1).flatMap encR⟩], [⟨.slice (A12_1) ((l12_1).length) (c12_1), 9, 1, ((l12_1).length), (l12_1).map S⟩]]) => ?_)
            refine O.stop (Mem.none hM5_8) ?_
            refine AO.two 9 16 (by kernel_rfl) ?_ ?_
            · refine step1 (ls' := [true, true, true, true, true, true, true, true, true, true, true, true, true, true, true, true, false, false, false, false, false]) rfl rfl ?_
              have hMf5_9 : Mem w w5_8 [] [[⟨.slice (bl gr1_1) 1 1, 66, 2, 1, [.slice (A) ((l11_1).length) (c), I ((((q12_1 + 1) + 1 : Nat) : Int))]⟩], [⟨.slice (bl b5_8) (5) (5), 3, 1, 5, ([0, 1, 2, (-1), ((packF l12_1)[(k4_3).toNat]'hx5_5).same]).map I⟩], [⟨.slice (A12_2) ((packF l12_1).length) (c12_2), 39, 2, ((packF l12_1).length), (packF l12_1).flatMap encR⟩], [⟨.slice (A12_1) ((l12_1).length) (c12_1), 9, 1, ((l12_1).length), (l12_1).map S⟩]] := hM5_8.pick [1, 0, 2, 3] (by decide) rfl
              refine O.callg [.pointer (ofs (bl gr1_1) (0)), .slice (bl b5_8) (([0, 1, 2, (-1), ((packF l12_1)[(k4_3).toNat]'hx5_5).same]).length) (5)] rfl en60 (by first | rfl | (rw [show ([0, 1, 2, (-1), ((packF l12_1)[(k4_3).toNat]'hx5_5).same]).length = 5 from (by first | rfl | (simp; done) | omega | (simp; omega))]; rfl)) rfl (one_fn gr1_1 A c l11_1 ((q12_1 + 1) + 1) (bl b5_8) 5 ([0, 1, 2, (-1), ((packF l12_1)[(k4_3).toNat]'hx5_5).same]) w5_8 (hrA.at hMf5_9) (Mem.ng_old hMf5_9 hrA 0 rfl) hrl (hMf5_9.rd 1 rfl) (Off.of_ng (hMf5_9.ng 1 0 (by decide) rfl rfl)) (Mem.focus (Ma := [[⟨.slice (bl gr1_1) 1 1, 66, 2, 1, [.slice (A) ((l11_1).length) (c), I ((((q12_1 + 1) + 1 : Nat) : Int))]⟩]]) (rest := [[⟨.slice (bl b5_8) (5) (5), 3, 1, 5, ([0, 1, 2, (-1), ((packF l12_1)[(k4_3).toNat]'hx5_5).same]).map I⟩], [⟨.slice (A12_2) ((packF l12_1).length) (c12_2), 39, 2, ((packF l12_1).length), (packF l12_1).flatMap encR⟩], [⟨.slice (A12_1) ((l12_1).length) (c12_1), 9, 1, ((l12_1).length), (l12_1).map S⟩]]) hMf5_9 rfl) (by first | omega | assumption | (simp; omega) | simp | (intros; omega)) (by simp) (by simp)) ?_
              rintro _ w5_9 ⟨k5_9, rfl, hk5_9, hR5_9⟩
              have hM5_9 : Mem w w5_9 [] [[⟨.slice (bl gr1_1) 1 1, 66, 2, 1, [.slice (A) ((l11_1).length) (c), I (((((q12_1 + 1) + 1) + 1 : Nat) : Int))]⟩], [⟨.slice (bl b5_8) (5) (5), 3, 1, 5, ([0, 1, 2, (-1), ((packF l12_1)[(k4_3).toNat]'hx5_5).same]).map I⟩], [⟨.slice (A12_2) ((packF l12_1).length) (c12_2), 39, 2, ((packF l12_1).length), (packF l12_1).flatMap encR⟩], [⟨.slice (A12_1) ((l12_1).length) (c12_1), 9, 1, ((l12_1).length), (l12_1).map S⟩]] := Mem.call (Ma := [[⟨.slice (bl gr1_1) 1 1, 66, 2, 1, [.slice (A) ((l11_1).length) (c), I ((((q12_1 + 1) + 1 : Nat) : Int))]⟩]]) hMf5_9 hR5_9 rfl
              refine O.stop (Mem.none hM5_9) ?_
              refine AO.one 16 (by kernel_rfl) ?_
              refine step1 (ls' := [true, true, true, true, true, true, true, true, true, true, true, true, true, true, true, true, true, false, false, false, false]) rfl rfl ?_
              refine O.mlit (sz := 1) (cs := [S ([]), S ([97]), S ([98]), S ([122]), S ([65]), S (((packF l12_1)[(k4_3).toNat]'hx5_13).tail)]) hM5_9 rfl Try.underlying24 el9 rfl rfl rfl (by kernel_rfl) (by kernel_rfl) rfl rfl (fun w5_16 b5_16 hb5_16 (hM5_16 : Mem w w5_16 [] [[⟨.slice (bl b5_16) (6) (6), 9, 1, 6, ([[], [97], [98], [122], [65], ((packF l12_1)[(k4_3).toNat]'hx5_13).tail]).map S⟩], [⟨.slice (bl gr1_1) 1 1, 66, 2, 1, [.slice (A) ((l11_1).length) (c), I (((((q12_1 + 1) + 1) + 1 : Nat) : Int))]⟩], [⟨.slice (bl b5_8) (5) (5), 3, 1, 5, ([0, 1, 2, (-1), ((packF l12_1)[(k4_3).toNat]'hx5_5).same]).map I⟩], [⟨.slice (A12_2) ((packF l12_1).length) (c12_2), 39, 2, ((packF l12_1).length), (packF l12_1).flatMap encR⟩], [⟨.slice (A12_1) ((l12_1).length) (c12_1), 9, 1, ((l12_1).length), (l12_1).map S⟩]]) => ?_)
              refine O.stop (Mem.none hM5_16) ?_
              refine AO.one 17 (by kernel_rfl) ?_
              refine step1 (ls' := [true, true, true, true, true, true, true, true, true, true, true, true, true, true, true, true, true, true, false, false, false]) rfl rfl ?_
              have hMf5_17 : Mem w w5_16 [] [[⟨.slice (bl gr1_1) 1 1, 66, 2, 1, [.slice (A) ((l11_1).length) (c), I (((((q12_1 + 1) + 1) + 1 : Nat) : Int))]⟩], [⟨.slice (bl b5_16) (6) (6), 9, 1, 6, ([[], [97], [98], [122], [65], ((packF l12_1)[(k4_3).toNat]'hx5_13).tail]).map S⟩], [⟨.slice (bl b5_8) (5) (5), 3, 1, 5, ([0, 1, 2, (-1), ((packF l12_1)[(k4_3).toNat]'hx5_5).same]).map I⟩], [⟨.slice (A12_2) ((packF l12_1).length) (c12_2), 39, 2, ((packF l12_1).length), (packF l12_1).flatMap encR⟩], [⟨.slice (A12_1) ((l12_1).length) (c12_1), 9, 1, ((l12_1).length), (l12_1).map S⟩]] := hM5_16.pick [1, 0, 2, 3, 4] (by decide) rfl
              refine O.callg [.pointer (ofs (bl gr1_1) (0)), .slice (bl b5_16) (([[], [97], [98], [122], [65], ((packF l12_1)[(k4_3).toNat]'hx5_13).tail]).length) (6)] rfl en61 (by first | rfl | (rw [show ([[], [97], [98], [122], [65], ((packF l12_1)[(k4_3).toNat]'hx5_13).tail]).length = 6 from (by first | rfl | (simp; done) | omega | (simp; omega))]; rfl)) rfl (of_fn gr1_1 A c l11_1 (((q12_1 + 1) + 1) + 1) (bl b5_16) 6 ([[], [97], [98], [122], [65], ((packF l12_1)[(k4_3).toNat]'hx5_13).tail]) w5_16 (hrA.at hMf5_17) (Mem.ng_old hMf5_17 hrA 0 rfl) hrl (hMf5_17.rd 1 rfl) (Off.of_ng (hMf5_17.ng 1 0 (by decide) rfl rfl)) (Mem.focus (Ma := [[⟨.slice (bl gr1_1) 1 1, 66, 2, 1, [.slice (A) ((l11_1).length) (c), I (((((q12_1 + 1) + 1) + 1 : Nat) : Int))]⟩]]) (rest := [[⟨.slice (bl b5_16) (6) (6), 9, 1, 6, ([[], [97], [98], [122], [65], ((packF l12_1)[(k4_3).toNat]'hx5_13).tail]).map S⟩], [⟨.slice (bl b5_8) (5) (5), 3, 1, 5, ([0, 1, 2, (-1), ((packF l12_1)[(k4_3).toNat]'hx5_5).same]).map I⟩], [⟨.slice (A12_2) ((packF l12_1).length) (c12_2), 39, 2, ((packF l12_1).length), (packF l12_1).flatMap encR⟩], [⟨.slice (A12_1) ((l12_1).length) (c12_1), 9, 1, ((l12_1).length), (l12_1).map S⟩]]) hMf5_17 rfl) (by first | omega | assumption | (simp; omega) | simp | (intros; omega)) (by simp) (by simp)) ?_
              rintro _ w5_17 ⟨s5_17, rfl, hs5_17, hR5_17⟩
              have hM5_17 : Mem w w5_17 [] [[⟨.slice (bl gr1_1) 1 1, 66, 2, 1, [.slice (A) ((l11_1).length) (c), I ((((((q12_1 + 1) + 1) + 1) + 1 : Nat) : Int))]⟩], [⟨.slice (bl b5_16) (6) (6), 9, 1, 6, ([[], [97], [98], [122], [65], ((packF l12_1)[(k4_3).toNat]'hx5_13).tail]).map S⟩], [⟨.slice (bl b5_8) (5) (5), 3, 1, 5, ([0, 1, 2, (-1), ((packF l12_1)[(k4_3).toNat]'hx5_5).same]).map I⟩], [⟨.slice (A12_2) ((packF l12_1).length) (c12_2), 39, 2, ((packF l12_1).length), (packF l12_1).flatMap encR⟩], [⟨.slice (A12_1) ((l12_1).length) (c12_1), 9, 1, ((l12_1).length), (l12_1).map S⟩]] := Mem.call (Ma := [[⟨.slice (bl gr1_1) 1 1, 66, 2, 1, [.slice (A) ((l11_1).length) (c), I (((((q12_1 + 1) + 1) + 1 : Nat) : Int))]⟩]]) hMf5_17 hR5_17 rfl
              have hts := of_tail hs5_17 (hpt _ (List.getElem_mem hkk))
              refine O.stop (Mem.none hM5_17) ?_
              refine AO.val (v := .agg #[I (k5_9), S (s5_17)]) 18 (ls' := [true, true, true, true, true, true, true, true, true, true, true, true, true, true, true, true, true, true, true, false, false]) rfl (by kernel_rfl) rfl rfl (fun w2 hw2 => Ru.build of39 rfl rfl rfl) rfl ?_
              have hx5_19 : (k4_3).toNat < (packF l12_1).length := (by first | omega | (simp; omega))
              refine AO.val (v := .pointer (ofs (A12_2) (((k4_3).toNat) * 2))) 19 (ls' := [true, true, true, true, true, true, true, true, true, true, true, true, true, true, true, true, true, true, true, true, false]) rfl (by kernel_rfl) rfl rfl (fun w2 hw2 => Ru.indexA (j := (k4_3).toNat) Try.underlying35 el39 rfl rfl (smf encR_len (hM5_17.rd 3 rfl) hx5_19 rfl) (by omega) (by first | omega | (simp; omega))) rfl ?_
              refine AO.one 20 (by kernel_rfl) ?_
              refine step1 (ls' := [true, true, true, true, true, true, true, true, true, true, true, true, true, true, true, true, true, true, true, true, true]) rfl rfl ?_
              refine O.mstore (vs := [I (k5_9), S (s5_17)]) (xs' := ((packF l12_1).set ((k4_3).toNat) (⟨k5_9, s5_17⟩)).flatMap encR) 3 0 hM5_17 rfl rfl rfl el39 rfl rfl rfl rfl rfl (by rw [flat_len encR_len]; simp; omega) (by simp) (spl_flat encR_len (l := packF l12_1) (a := ⟨k5_9, s5_17⟩) hx5_19) rfl (fun w5_20 (hM5_20 : Mem w w5_20 [] [[⟨.slice (bl gr1_1) 1 1, 66, 2, 1, [.slice (A) ((l11_1).length) (c), I ((((((q12_1 + 1) + 1) + 1) + 1 : Nat) : Int))]⟩], [⟨.slice (bl b5_16) (6) (6), 9, 1, 6, ([[], [97], [98], [122], [65], ((packF l12_1)[(k4_3).toNat]'hx5_13).tail]).map S⟩], [⟨.slice (bl b5_8) (5) (5), 3, 1, 5, ([0, 1, 2, (-1), ((packF l12_1)[(k4_3).toNat]'hx5_5).same]).map I⟩], [⟨.slice (A12_2) ((packF l12_1).length) (c12_2), 39, 2, ((packF l12_1).length), ((packF l12_1).set ((k4_3).toNat) (⟨k5_9, s5_17⟩)).flatMap encR⟩], [⟨.slice (A12_1) ((l12_1).length) (c12_1), 9, 1, ((l12_1).length), (l12_1).map S⟩]]) => ?_)
              refine O.stop (Mem.none hM5_20) ?_
              refine AO.nil (by kernel_rfl) ?_
              refine C.seq ?_
              refine C.region ?_
              refine O.val (v := .slice (A12_2) ((packF l12_1).length) (c12_2)) rfl (Ru.move rfl) rfl ?_
              refine O.val (v := .slice (A12_2) ((packF l12_1).length) (c12_2)) rfl (Ru.assign rfl) rfl ?_
              refine O.nil ?_
              refine C.ret ?_
              refine P1 (v := .slice (A12_2) ((packF l12_1).length) (c12_2)) rfl ?_
              have hq7 : (packF l12_1).set ((k4_3).toNat) (⟨k5_9, s5_17⟩) = (packF l12_1).set ((k4_3).toNat) (⟨k5_9, s5_17⟩) := (by first | rfl | simp | (simp; omega))
              have hMn7 : Mem w w5_20 [] [[⟨.slice (bl gr1_1) 1 1, 66, 2, 1, [.slice (A) ((l11_1).length) (c), I ((((((q12_1 + 1) + 1) + 1) + 1 : Nat) : Int))]⟩], [⟨.slice (bl b5_16) (6) (6), 9, 1, 6, ([[], [97], [98], [122], [65], ((packF l12_1)[(k4_3).toNat]'hx5_13).tail]).map S⟩], [⟨.slice (bl b5_8) (5) (5), 3, 1, 5, ([0, 1, 2, (-1), ((packF l12_1)[(k4_3).toNat]'hx5_5).same]).map I⟩], [⟨.slice (A12_2) (((packF l12_1).set ((k4_3).toNat) (⟨k5_9, s5_17⟩)).length) (c12_2), 39, 2, (((packF l12_1).set ((k4_3).toNat) (⟨k5_9, s5_17⟩)).length), ((packF l12_1).set ((k4_3).toNat) (⟨k5_9, s5_17⟩)).flatMap encR⟩], [⟨.slice (A12_1) ((l12_1).length) (c12_1), 9, 1, ((l12_1).length), (l12_1).map S⟩]] := hM5_20.relen 3 (n' := ((packF l12_1).set ((k4_3).toNat) (⟨k5_9, s5_17⟩)).length) (xs' := ((packF l12_1).set ((k4_3).toNat) (⟨k5_9, s5_17⟩)).flatMap encR) rfl (by rw [← hq7]; first | done | rfl | simp | (simp; omega)) (by rw [← hq7]) rfl
              exact ⟨(packF l12_1).set ((k4_3).toNat) (⟨k5_9, s5_17⟩), A12_2, c12_2, (by first | rfl | exact sl_congr (by simp) | (simp; done)), (by first | omega | (simp; omega)), (by first | exact hpt | exact tails_set hpt hts), (hMn7.pick [3] (by decide) rfl)⟩
            · refine step1 (ls' := [true, true, true, true, true, true, true, true, true, false, true, true, true, true, true, true, true, false, false, false, false]) rfl rfl ?_
              refine O.mlit (sz := 1) (cs := [S ([]), S ([97]), S ([98]), S ([122]), S ([65]), S (((packF l12_1)[(k4_3).toNat]'hx5_13).tail)]) hM5_8 rfl Try.underlying24 el9 rfl rfl rfl (by kernel_rfl) (by kernel_rfl) rfl rfl (fun w5_16 b5_16 hb5_16 (hM5_16 : Mem w w5_16 [] [[⟨.slice (bl b5_16) (6) (6), 9, 1, 6, ([[], [97], [98], [122], [65], ((packF l12_1)[(k4_3).toNat]'hx5_13).tail]).map S⟩], [⟨.slice (bl b5_8) (5) (5), 3, 1, 5, ([0, 1, 2, (-1), ((packF l12_1)[(k4_3).toNat]'hx5_5).same]).map I⟩], [⟨.slice (bl gr1_1) 1 1, 66, 2, 1, [.slice (A) ((l11_1).length) (c), I ((((q12_1 + 1) + 1 : Nat) : Int))]⟩], [⟨.slice (A12_2) ((packF l12_1).length) (c12_2), 39, 2, ((packF l12_1).length), (packF l12_1).flatMap encR⟩], [⟨.slice (A12_1) ((l12_1).length) (c12_1), 9, 1, ((l12_1).length), (l12_1).map S⟩]]) => ?_)
              refine O.stop (Mem.none hM5_16) ?_
              refine AO.one 9 (by kernel_rfl) ?_
              refine step1 (ls' := [true, true, true, true, true, true, true, true, true, true, true, true, true, true, true, true, true, false, false, false, false]) rfl rfl ?_
              have hMf5_9 : Mem w w5_16 [] [[⟨.slice (bl gr1_1) 1 1, 66, 2, 1, [.slice (A) ((l11_1).length) (c), I ((((q12_1 + 1) + 1 : Nat) : Int))]⟩], [⟨.slice (bl b5_16) (6) (6), 9, 1, 6, ([[], [97], [98], [122], [65], ((packF l12_1)[(k4_3).toNat]'hx5_13).tail]).map S⟩], [⟨.slice (bl b5_8) (5) (5), 3, 1, 5, ([0, 1, 2, (-1), ((packF l12_1)[(k4_3).toNat]'hx5_5).same]).map I⟩], [⟨.slice (A12_2) ((packF l12_1).length) (c12_2), 39, 2, ((packF l12_1).length), (packF l12_1).flatMap encR⟩], [⟨.slice (A12_1) ((l12_1).length) (c12_1), 9, 1, ((l12_1).length), (l12_1).map S⟩]] := hM5_16.pick [2, 0, 1, 3, 4] (by decide) rfl
              refine O.callg [.pointer (ofs (bl gr1_1) (0)), .slice (bl b5_8) (([0, 1, 2, (-1), ((packF l12_1)[(k4_3).toNat]'hx5_5).same]).length) (5)] rfl en60 (by first | rfl | (rw [show ([0, 1, 2, (-1), ((packF l12_1)[(k4_3).toNat]'hx5_5).same]).length = 5 from (by first | rfl | (simp; done) | omega | (simp; omega))]; rfl)) rfl (one_fn gr1_1 A c l11_1 ((q12_1 + 1) + 1) (bl b5_8) 5 ([0, 1, 2, (-1), ((packF l12_1)[(k4_3).toNat]'hx5_5).same]) w5_16 (hrA.at hMf5_9) (Mem.ng_old hMf5_9 hrA 0 rfl) hrl (hMf5_9.rd 2 rfl) (Off.of_ng (hMf5_9.ng 2 0 (by decide) rfl rfl)) (Mem.focus (Ma := [[⟨.slice (bl gr1_1) 1 1, 66, 2, 1, [.slice (A) ((l11_1).length) (c), I ((((q12_1 + 1) + 1 : Nat) : Int))]⟩]]) (rest := [[⟨.slice (bl b5_16) (6) (6), 9, 1, 6, ([[], [97], [98], [122], [65], ((packF l12_1)[(k4_3).toNat]'hx5_13).tail]).map S⟩], [⟨.slice (bl b5_8) (5) (5), 3, 1, 5, ([0, 1, 2, (-1), ((packF l12_1)[(k4_3).toNat]'hx5_5).same]).map I⟩], [⟨.slice (A12_2) ((packF l12_1).length) (c12_2), 39, 2, ((packF l12_1).length), (packF l12_1).flatMap encR⟩], [⟨.slice (A12_1) ((l12_1).length) (c12_1), 9, 1, ((l12_1).length), (l12_1).map S⟩]]) hMf5_9 rfl) (by first | omega | assumption | (simp; omega) | simp | (intros; omega)) (by simp) (by simp)) ?_
              rintro _ w5_9 ⟨k5_9, rfl, hk5_9, hR5_9⟩
              have hM5_9 : Mem w w5_9 [] [[⟨.slice (bl gr1_1) 1 1, 66, 2, 1, [.slice (A) ((l11_1).length) (c), I (((((q12_1 + 1) + 1) + 1 : Nat) : Int))]⟩], [⟨.slice (bl b5_16) (6) (6), 9, 1, 6, ([[], [97], [98], [122], [65], ((packF l12_1)[(k4_3).toNat]'hx5_13).tail]).map S⟩], [⟨.slice (bl b5_8) (5) (5), 3, 1, 5, ([0, 1, 2, (-1), ((packF l12_1)[(k4_3).toNat]'hx5_5).same]).map I⟩], [⟨.slice (A12_2) ((packF l12_1).length) (c12_2), 39, 2, ((packF l12_1).length), (packF l12_1).flatMap encR⟩], [⟨.slice (A12_1) ((l12_1).length) (c12_1), 9, 1, ((l12_1).length), (l12_1).map S⟩]] := Mem.call (Ma := [[⟨.slice (bl gr1_1) 1 1, 66, 2, 1, [.slice (A) ((l11_1).length) (c), I ((((q12_1 + 1) + 1 : Nat) : Int))]⟩]]) hMf5_9 hR5_9 rfl
              refine O.stop (Mem.none hM5_9) ?_
              refine AO.one 17 (by kernel_rfl) ?_
              refine step1 (ls' := [true, true, true, true, true, true, true, true, true, true, true, true, true, true, true, true, true, true, false, false, false]) rfl rfl ?_
              refine O.callg [.pointer (ofs (bl gr1_1) (0)), .slice (bl b5_16) (([[], [97], [98], [122], [65], ((packF l12_1)[(k4_3).toNat]'hx5_13).tail]).length) (6)] rfl en61 (by first | rfl | (rw [show ([[], [97], [98], [122], [65], ((packF l12_1)[(k4_3).toNat]'hx5_13).tail]).length = 6 from (by first | rfl | (simp; done) | omega | (simp; omega))]; rfl)) rfl (of_fn gr1_1 A c l11_1 (((q12_1 + 1) + 1) + 1) (bl b5_16) 6 ([[], [97], [98], [122], [65], ((packF l12_1)[(k4_3).toNat]'hx5_13).tail]) w5_9 (hrA.at hM5_9) (Mem.ng_old hM5_9 hrA 0 rfl) hrl (hM5_9.rd 1 rfl) (Off.of_ng (hM5_9.ng 1 0 (by decide) rfl rfl)) (Mem.focus (Ma := [[⟨.slice (bl gr1_1) 1 1, 66, 2, 1, [.slice (A) ((l11_1).length) (c), I (((((q12_1 + 1) + 1) + 1 : Nat) : Int))]⟩]]) (rest := [[⟨.slice (bl b5_16) (6) (6), 9, 1, 6, ([[], [97], [98], [122], [65], ((packF l12_1)[(k4_3).toNat]'hx5_13).tail]).map S⟩], [⟨.slice (bl b5_8) (5) (5), 3, 1, 5, ([0, 1, 2, (-1), ((packF l12_1)[(k4_3).toNat]'hx5_5).same]).map I⟩], [⟨.slice (A12_2) ((packF l12_1).length) (c12_2), 39, 2, ((packF l12_1).length), (packF l12_1).flatMap encR⟩], [⟨.slice (A12_1) ((l12_1).length) (c12_1), 9, 1, ((l12_1).length), (l12_1).map S⟩]]) hM5_9 rfl) (by first | omega | assumption | (simp; omega) | simp | (intros; omega)) (by simp) (by simp)) ?_
              rintro _ w5_17 ⟨s5_17, rfl, hs5_17, hR5_17⟩
              have hM5_17 : Mem w w5_17 [] [[⟨.slice (bl gr1_1) 1 1, 66, 2, 1, [.slice (A) ((l11_1).length) (c), I ((((((q12_1 + 1) + 1) + 1) + 1 : Nat) : Int))]⟩], [⟨.slice (bl b5_16) (6) (6), 9, 1, 6, ([[], [97], [98], [122], [65], ((packF l12_1)[(k4_3).toNat]'hx5_13).tail]).map S⟩], [⟨.slice (bl b5_8) (5) (5), 3, 1, 5, ([0, 1, 2, (-1), ((packF l12_1)[(k4_3).toNat]'hx5_5).same]).map I⟩], [⟨.slice (A12_2) ((packF l12_1).length) (c12_2), 39, 2, ((packF l12_1).length), (packF l12_1).flatMap encR⟩], [⟨.slice (A12_1) ((l12_1).length) (c12_1), 9, 1, ((l12_1).length), (l12_1).map S⟩]] := Mem.call (Ma := [[⟨.slice (bl gr1_1) 1 1, 66, 2, 1, [.slice (A) ((l11_1).length) (c), I (((((q12_1 + 1) + 1) + 1 : Nat) : Int))]⟩]]) hM5_9 hR5_17 rfl
              have hts := of_tail hs5_17 (hpt _ (List.getElem_mem hkk))
              refine O.stop (Mem.none hM5_17) ?_
              refine AO.val (v := .agg #[I (k5_9), S (s5_17)]) 18 (ls' := [true, true, true, true, true, true, true, true, true, true, true, true, true, true, true, true, true, true, true, false, false]) rfl (by kernel_rfl) rfl rfl (fun w2 hw2 => Ru.build of39 rfl rfl rfl) rfl ?_
              have hx5_19 : (k4_3).toNat < (packF l12_1).length := (by first | omega | (simp; omega))
              refine AO.val (v := .pointer (ofs (A12_2) (((k4_3).toNat) * 2))) 19 (ls' := [true, true, true, true, true, true, true, true, true, true, true, true, true, true, true, true, true, true, true, true, false]) rfl (by kernel_rfl) rfl rfl (fun w2 hw2 => Ru.indexA (j := (k4_3).toNat) Try.underlying35 el39 rfl rfl (smf encR_len (hM5_17.rd 3 rfl) hx5_19 rfl) (by omega) (by first | omega | (simp; omega))) rfl ?_
              refine AO.one 20 (by kernel_rfl) ?_
              refine step1 (ls' := [true, true, true, true, true, true, true, true, true, true, true, true, true, true, true, true, true, true, true, true, true]) rfl rfl ?_
              refine O.mstore (vs := [I (k5_9), S (s5_17)]) (xs' := ((packF l12_1).set ((k4_3).toNat) (⟨k5_9, s5_17⟩)).flatMap encR) 3 0 hM5_17 rfl rfl rfl el39 rfl rfl rfl rfl rfl (by rw [flat_len encR_len]; simp; omega) (by simp) (spl_flat encR_len (l := packF l12_1) (a := ⟨k5_9, s5_17⟩) hx5_19) rfl (fun w5_20 (hM5_20 : Mem w w5_20 [] [[⟨.slice (bl gr1_1) 1 1, 66, 2, 1, [.slice (A) ((l11_1).length) (c), I ((((((q12_1 + 1) + 1) + 1) + 1 : Nat) : Int))]⟩], [⟨.slice (bl b5_16) (6) (6), 9, 1, 6, ([[], [97], [98], [122], [65], ((packF l12_1)[(k4_3).toNat]'hx5_13).tail]).map S⟩], [⟨.slice (bl b5_8) (5) (5), 3, 1, 5, ([0, 1, 2, (-1), ((packF l12_1)[(k4_3).toNat]'hx5_5).same]).map I⟩], [⟨.slice (A12_2) ((packF l12_1).length) (c12_2), 39, 2, ((packF l12_1).length), ((packF l12_1).set ((k4_3).toNat) (⟨k5_9, s5_17⟩)).flatMap encR⟩], [⟨.slice (A12_1) ((l12_1).length) (c12_1), 9, 1, ((l12_1).length), (l12_1).map S⟩]]) => ?_)
              refine O.stop (Mem.none hM5_20) ?_
              refine AO.nil (by kernel_rfl) ?_
              refine C.seq ?_
              refine C.region ?_
              refine O.val (v := .slice (A12_2) ((packF l12_1).length) (c12_2)) rfl (Ru.move rfl) rfl ?_
              refine O.val (v := .slice (A12_2) ((packF l12_1).length) (c12_2)) rfl (Ru.assign rfl) rfl ?_
              refine O.nil ?_
              refine C.ret ?_
              refine P1 (v := .slice (A12_2) ((packF l12_1).length) (c12_2)) rfl ?_
              have hq8 : (packF l12_1).set ((k4_3).toNat) (⟨k5_9, s5_17⟩) = (packF l12_1).set ((k4_3).toNat) (⟨k5_9, s5_17⟩) := (by first | rfl | simp | (simp; omega))
              have hMn8 : Mem w w5_20 [] [[⟨.slice (bl gr1_1) 1 1, 66, 2, 1, [.slice (A) ((l11_1).length) (c), I ((((((q12_1 + 1) + 1) + 1) + 1 : Nat) : Int))]⟩], [⟨.slice (bl b5_16) (6) (6), 9, 1, 6, ([[], [97], [98], [122], [65], ((packF l12_1)[(k4_3).toNat]'hx5_13).tail]).map S⟩], [⟨.slice (bl b5_8) (5) (5), 3, 1, 5, ([0, 1, 2, (-1), ((packF l12_1)[(k4_3).toNat]'hx5_5).same]).map I⟩], [⟨.slice (A12_2) (((packF l12_1).set ((k4_3).toNat) (⟨k5_9, s5_17⟩)).length) (c12_2), 39, 2, (((packF l12_1).set ((k4_3).toNat) (⟨k5_9, s5_17⟩)).length), ((packF l12_1).set ((k4_3).toNat) (⟨k5_9, s5_17⟩)).flatMap encR⟩], [⟨.slice (A12_1) ((l12_1).length) (c12_1), 9, 1, ((l12_1).length), (l12_1).map S⟩]] := hM5_20.relen 3 (n' := ((packF l12_1).set ((k4_3).toNat) (⟨k5_9, s5_17⟩)).length) (xs' := ((packF l12_1).set ((k4_3).toNat) (⟨k5_9, s5_17⟩)).flatMap encR) rfl (by rw [← hq8]; first | done | rfl | simp | (simp; omega)) (by rw [← hq8]) rfl
              exact ⟨(packF l12_1).set ((k4_3).toNat) (⟨k5_9, s5_17⟩), A12_2, c12_2, (by first | rfl | exact sl_congr (by simp) | (simp; done)), (by first | omega | (simp; omega)), (by first | exact hpt | exact tails_set hpt hts), (hMn8.pick [3] (by decide) rfl)⟩
          · refine step1 (ls' := [true, true, true, true, true, true, true, true, false, false, true, true, true, true, true, true, true, false, false, false, false]) rfl rfl ?_
            refine O.mlit (sz := 1) (cs := [S ([]), S ([97]), S ([98]), S ([122]), S ([65]), S (((packF l12_1)[(k4_3).toNat]'hx5_13).tail)]) hM5a rfl Try.underlying24 el9 rfl rfl rfl (by kernel_rfl) (by kernel_rfl) rfl rfl (fun w5_16 b5_16 hb5_16 (hM5_16 : Mem w w5_16 [] [[⟨.slice (bl b5_16) (6) (6), 9, 1, 6, ([[], [97], [98], [122], [65], ((packF l12_1)[(k4_3).toNat]'hx5_13).tail]).map S⟩], [⟨.slice (bl gr1_1) 1 1, 66, 2, 1, [.slice (A) ((l11_1).length) (c), I ((((q12_1 + 1) + 1 : Nat) : Int))]⟩], [⟨.slice (A12_2) ((packF l12_1).length) (c12_2), 39, 2, ((packF l12_1).length), (packF l12_1).flatMap encR⟩], [⟨.slice (A12_1) ((l12_1).length) (c12_1), 9, 1, ((l12_1).length), (l12_1).map S⟩]]) => ?_)
            refine O.stop (Mem.none hM5_16) ?_
            refine AO.one 8 (by kernel_rfl) ?_
            refine step1 (ls' := [true, true, true, true, true, true, true, true, true, false, true, true, true, true, true, true, true, false, false, false, false]) rfl rfl ?_
            refine O.mlit (sz := 1) (cs := [I (0), I (1), I (2), I ((-1)), I (((packF l12_1)[(k4_3).toNat]'hx5_5).same)]) hM5_16 rfl Try.underlying59 el3 rfl rfl rfl (by kernel_rfl) (by kernel_rfl) rfl rfl (fun w5_8 b5_8 hb5_8 (hM5_8 : Mem w w5_8 [] [[⟨.slice (bl b5_8) (5) (5), 3, 1, 5, ([0, 1, 2, (-1), ((packF l12_1)[(k4_3).toNat]'hx5_5).same]).map I⟩], [⟨.slice (bl b5_16) (6) (6), 9, 1, 6, ([[], [97], [98], [122], [65], ((packF l12_1)[(k4_3).toNat]'hx5_13).tail]).map S⟩], [⟨.slice (bl gr1_1) 1 1, 66, 2, 1, [.slice (A) ((l11_1).length) (c), I ((((q12_1 + 1) + 1 : Nat) : Int))]⟩], [⟨.slice (A12_2) ((packF l12_1).length) (c12_2), 39, 2, ((packF l12_1).length), (packF l12_1).flatMap encR⟩], [⟨.slice (A12_1) ((l12_1).length) (c12_1), 9, 1, ((l12_1).length), (l12_1).map S⟩]]) => ?_)
            refine O.stop (Mem.none hM5_8) ?_
            refine AO.one 9 (by kernel_rfl) ?_
            refine step1 (ls' := [true, true, true, true, true, true, true, true, true, true, true, true, true, true, true, true, true, false, false, false, false]) rfl rfl ?_
            have hMf5_9 : Mem w w5_8 [] [[⟨.slice (bl gr1_1) 1 1, 66, 2, 1, [.slice (A) ((l11_1).length) (c), I ((((q12_1 + 1) + 1 : Nat) : Int))]⟩], [⟨.slice (bl b5_8) (5) (5), 3, 1, 5, ([0, 1, 2, (-1), ((packF l12_1)[(k4_3).toNat]'hx5_5).same]).map I⟩], [⟨.slice (bl b5_16) (6) (6), 9, 1, 6, ([[], [97], [98], [122], [65], ((packF l12_1)[(k4_3).toNat]'hx5_13).tail]).map S⟩], [⟨.slice (A12_2) ((packF l12_1).length) (c12_2), 39, 2, ((packF l12_1).length), (packF l12_1).flatMap encR⟩], [⟨.slice (A12_1) ((l12_1).length) (c12_1), 9, 1, ((l12_1).length), (l12_1).map S⟩]] := hM5_8.pick [2, 0, 1, 3, 4] (by decide) rfl
            refine O.callg [.pointer (ofs (bl gr1_1) (0)), .slice (bl b5_8) (([0, 1, 2, (-1), ((packF l12_1)[(k4_3).toNat]'hx5_5).same]).length) (5)] rfl en60 (by first | rfl | (rw [show ([0, 1, 2, (-1), ((packF l12_1)[(k4_3).toNat]'hx5_5).same]).length = 5 from (by first | rfl | (simp; done) | omega | (simp; omega))]; rfl)) rfl (one_fn gr1_1 A c l11_1 ((q12_1 + 1) + 1) (bl b5_8) 5 ([0, 1, 2, (-1), ((packF l12_1)[(k4_3).toNat]'hx5_5).same]) w5_8 (hrA.at hMf5_9) (Mem.ng_old hMf5_9 hrA 0 rfl) hrl (hMf5_9.rd 1 rfl) (Off.of_ng (hMf5_9.ng 1 0 (by decide) rfl rfl)) (Mem.focus (Ma := [[⟨.slice (bl gr1_1) 1 1, 66, 2, 1, [.slice (A) ((l11_1).length) (c), I ((((q12_1 + 1) + 1 : Nat) : Int))]⟩]]) (rest := [[⟨.slice (bl b5_8) (5) (5), 3, 1, 5, ([0, 1, 2, (-1), ((packF l12_1)[(k4_3).toNat]'hx5_5).same]).map I⟩], [⟨.slice (bl b5_16) (6) (6), 9, 1, 6, ([[], [97], [98], [122], [65], ((packF l12_1)[(k4_3).toNat]'hx5_13).tail]).map S⟩], [⟨.slice (A12_2) ((packF l12_1).length) (c12_2), 39, 2, ((packF l12_1).length), (packF l12_1).flatMap encR⟩], [⟨.slice (A12_1) ((l12_1).length) (c12_1), 9, 1, ((l12_1).length), (l12_1).map S⟩]]) hMf5_9 rfl) (by first | omega | assumption | (simp; omega) | simp | (intros; omega)) (by simp) (by simp)) ?_
            rintro _ w5_9 ⟨k5_9, rfl, hk5_9, hR5_9⟩
            have hM5_9 : Mem w w5_9 [] [[⟨.slice (bl gr1_1) 1 1, 66, 2, 1, [.slice (A) ((l11_1).length) (c), I (((((q12_1 + 1) + 1) + 1 : Nat) : Int))]⟩], [⟨.slice (bl b5_8) (5) (5), 3, 1, 5, ([0, 1, 2, (-1), ((packF l12_1)[(k4_3).toNat]'hx5_5).same]).map I⟩], [⟨.slice (bl b5_16) (6) (6), 9, 1, 6, ([[], [97], [98], [122], [65], ((packF l12_1)[(k4_3).toNat]'hx5_13).tail]).map S⟩], [⟨.slice (A12_2) ((packF l12_1).length) (c12_2), 39, 2, ((packF l12_1).length), (packF l12_1).flatMap encR⟩], [⟨.slice (A12_1) ((l12_1).length) (c12_1), 9, 1, ((l12_1).length), (l12_1).map S⟩]] := Mem.call (Ma := [[⟨.slice (bl gr1_1) 1 1, 66, 2, 1, [.slice (A) ((l11_1).length) (c), I ((((q12_1 + 1) + 1 : Nat) : Int))]⟩]]) hMf5_9 hR5_9 rfl
            refine O.stop (Mem.none hM5_9) ?_
            refine AO.one 17 (by kernel_rfl) ?_
            refine step1 (ls' := [true, true, true, true, true, true, true, true, true, true, true, true, true, true, true, true, true, true, false, false, false]) rfl rfl ?_
            refine O.callg [.pointer (ofs (bl gr1_1) (0)), .slice (bl b5_16) (([[], [97], [98], [122], [65], ((packF l12_1)[(k4_3).toNat]'hx5_13).tail]).length) (6)] rfl en61 (by first | rfl | (rw [show ([[], [97], [98], [122], [65], ((packF l12_1)[(k4_3).toNat]'hx5_13).tail]).length = 6 from (by first | rfl | (simp; done) | omega | (simp; omega))]; rfl)) rfl (of_fn gr1_1 A c l11_1 (((q12_1 + 1) + 1) + 1) (bl b5_16) 6 ([[], [97], [98], [122], [65], ((packF l12_1)[(k4_3).toNat]'hx5_13).tail]) w5_9 (hrA.at hM5_9) (Mem.ng_old hM5_9 hrA 0 rfl) hrl (hM5_9.rd 2 rfl) (Off.of_ng (hM5_9.ng 2 0 (by decide) rfl rfl)) (Mem.focus (Ma := [[⟨.slice (bl gr1_1) 1 1, 66, 2, 1, [.slice (A) ((l11_1).length) (c), I (((((q12_1 + 1) + 1) + 1 : Nat) : Int))]⟩]]) (rest := [[⟨.slice (bl b5_8) (5) (5), 3, 1, 5, ([0, 1, 2, (-1), ((packF l12_1)[(k4_3).toNat]'hx5_5).same]).map I⟩], [⟨.slice (bl b5_16) (6) (6), 9, 1, 6, ([[], [97], [98], [122], [65], ((packF l12_1)[(k4_3).toNat]'hx5_13).tail]).map S⟩], [⟨.slice (A12_2) ((packF l12_1).length) (c12_2), 39, 2, ((packF l12_1).length), (packF l12_1).flatMap encR⟩], [⟨.slice (A12_1) ((l12_1).length) (c12_1), 9, 1, ((l12_1).length), (l12_1).map S⟩]]) hM5_9 rfl) (by first | omega | assumption | (simp; omega) | simp | (intros; omega)) (by simp) (by simp)) ?_
            rintro _ w5_17 ⟨s5_17, rfl, hs5_17, hR5_17⟩
            have hM5_17 : Mem w w5_17 [] [[⟨.slice (bl gr1_1) 1 1, 66, 2, 1, [.slice (A) ((l11_1).length) (c), I ((((((q12_1 + 1) + 1) + 1) + 1 : Nat) : Int))]⟩], [⟨.slice (bl b5_8) (5) (5), 3, 1, 5, ([0, 1, 2, (-1), ((packF l12_1)[(k4_3).toNat]'hx5_5).same]).map I⟩], [⟨.slice (bl b5_16) (6) (6), 9, 1, 6, ([[], [97], [98], [122], [65], ((packF l12_1)[(k4_3).toNat]'hx5_13).tail]).map S⟩], [⟨.slice (A12_2) ((packF l12_1).length) (c12_2), 39, 2, ((packF l12_1).length), (packF l12_1).flatMap encR⟩], [⟨.slice (A12_1) ((l12_1).length) (c12_1), 9, 1, ((l12_1).length), (l12_1).map S⟩]] := Mem.call (Ma := [[⟨.slice (bl gr1_1) 1 1, 66, 2, 1, [.slice (A) ((l11_1).length) (c), I (((((q12_1 + 1) + 1) + 1 : Nat) : Int))]⟩]]) hM5_9 hR5_17 rfl
            have hts := of_tail hs5_17 (hpt _ (List.getElem_mem hkk))
            refine O.stop (Mem.none hM5_17) ?_
            refine AO.val (v := .agg #[I (k5_9), S (s5_17)]) 18 (ls' := [true, true, true, true, true, true, true, true, true, true, true, true, true, true, true, true, true, true, true, false, false]) rfl (by kernel_rfl) rfl rfl (fun w2 hw2 => Ru.build of39 rfl rfl rfl) rfl ?_
            have hx5_19 : (k4_3).toNat < (packF l12_1).length := (by first | omega | (simp; omega))
            refine AO.val (v := .pointer (ofs (A12_2) (((k4_3).toNat) * 2))) 19 (ls' := [true, true, true, true, true, true, true, true, true, true, true, true, true, true, true, true, true, true, true, true, false]) rfl (by kernel_rfl) rfl rfl (fun w2 hw2 => Ru.indexA (j := (k4_3).toNat) Try.underlying35 el39 rfl rfl (smf encR_len (hM5_17.rd 3 rfl) hx5_19 rfl) (by omega) (by first | omega | (simp; omega))) rfl ?_
            refine AO.one 20 (by kernel_rfl) ?_
            refine step1 (ls' := [true, true, true, true, true, true, true, true, true, true, true, true, true, true, true, true, true, true, true, true, true]) rfl rfl ?_
            refine O.mstore (vs := [I (k5_9), S (s5_17)]) (xs' := ((packF l12_1).set ((k4_3).toNat) (⟨k5_9, s5_17⟩)).flatMap encR) 3 0 hM5_17 rfl rfl rfl el39 rfl rfl rfl rfl rfl (by rw [flat_len encR_len]; simp; omega) (by simp) (spl_flat encR_len (l := packF l12_1) (a := ⟨k5_9, s5_17⟩) hx5_19) rfl (fun w5_20 (hM5_20 : Mem w w5_20 [] [[⟨.slice (bl gr1_1) 1 1, 66, 2, 1, [.slice (A) ((l11_1).length) (c), I ((((((q12_1 + 1) + 1) + 1) + 1 : Nat) : Int))]⟩], [⟨.slice (bl b5_8) (5) (5), 3, 1, 5, ([0, 1, 2, (-1), ((packF l12_1)[(k4_3).toNat]'hx5_5).same]).map I⟩], [⟨.slice (bl b5_16) (6) (6), 9, 1, 6, ([[], [97], [98], [122], [65], ((packF l12_1)[(k4_3).toNat]'hx5_13).tail]).map S⟩], [⟨.slice (A12_2) ((packF l12_1).length) (c12_2), 39, 2, ((packF l12_1).length), ((packF l12_1).set ((k4_3).toNat) (⟨k5_9, s5_17⟩)).flatMap encR⟩], [⟨.slice (A12_1) ((l12_1).length) (c12_1), 9, 1, ((l12_1).length), (l12_1).map S⟩]]) => ?_)
            refine O.stop (Mem.none hM5_20) ?_
            refine AO.nil (by kernel_rfl) ?_
            refine C.seq ?_
            refine C.region ?_
            refine O.val (v := .slice (A12_2) ((packF l12_1).length) (c12_2)) rfl (Ru.move rfl) rfl ?_
            refine O.val (v := .slice (A12_2) ((packF l12_1).length) (c12_2)) rfl (Ru.assign rfl) rfl ?_
            refine O.nil ?_
            refine C.ret ?_
            refine P1 (v := .slice (A12_2) ((packF l12_1).length) (c12_2)) rfl ?_
            have hq9 : (packF l12_1).set ((k4_3).toNat) (⟨k5_9, s5_17⟩) = (packF l12_1).set ((k4_3).toNat) (⟨k5_9, s5_17⟩) := (by first | rfl | simp | (simp; omega))
            have hMn9 : Mem w w5_20 [] [[⟨.slice (bl gr1_1) 1 1, 66, 2, 1, [.slice (A) ((l11_1).length) (c), I ((((((q12_1 + 1) + 1) + 1) + 1 : Nat) : Int))]⟩], [⟨.slice (bl b5_8) (5) (5), 3, 1, 5, ([0, 1, 2, (-1), ((packF l12_1)[(k4_3).toNat]'hx5_5).same]).map I⟩], [⟨.slice (bl b5_16) (6) (6), 9, 1, 6, ([[], [97], [98], [122], [65], ((packF l12_1)[(k4_3).toNat]'hx5_13).tail]).map S⟩], [⟨.slice (A12_2) (((packF l12_1).set ((k4_3).toNat) (⟨k5_9, s5_17⟩)).length) (c12_2), 39, 2, (((packF l12_1).set ((k4_3).toNat) (⟨k5_9, s5_17⟩)).length), ((packF l12_1).set ((k4_3).toNat) (⟨k5_9, s5_17⟩)).flatMap encR⟩], [⟨.slice (A12_1) ((l12_1).length) (c12_1), 9, 1, ((l12_1).length), (l12_1).map S⟩]] := hM5_20.relen 3 (n' := ((packF l12_1).set ((k4_3).toNat) (⟨k5_9, s5_17⟩)).length) (xs' := ((packF l12_1).set ((k4_3).toNat) (⟨k5_9, s5_17⟩)).flatMap encR) rfl (by rw [← hq9]; first | done | rfl | simp | (simp; omega)) (by rw [← hq9]) rfl
            exact ⟨(packF l12_1).set ((k4_3).toNat) (⟨k5_9, s5_17⟩), A12_2, c12_2, (by first | rfl | exact sl_congr (by simp) | (simp; done)), (by first | omega | (simp; omega)), (by first | exact hpt | exact tails_set hpt hts), (hMn9.pick [3] (by decide) rfl)⟩
        · refine step1 (ls' := [true, true, true, true, true, true, true, false, false, false, true, true, true, true, true, true, true, false, false, false, false]) rfl rfl ?_
          refine O.mlit (sz := 1) (cs := [S ([]), S ([97]), S ([98]), S ([122]), S ([65]), S (((packF l12_1)[(k4_3).toNat]'hx5_13).tail)]) hM5a rfl Try.underlying24 el9 rfl rfl rfl (by kernel_rfl) (by kernel_rfl) rfl rfl (fun w5_16 b5_16 hb5_16 (hM5_16 : Mem w w5_16 [] [[⟨.slice (bl b5_16) (6) (6), 9, 1, 6, ([[], [97], [98], [122], [65], ((packF l12_1)[(k4_3).toNat]'hx5_13).tail]).map S⟩], [⟨.slice (bl gr1_1) 1 1, 66, 2, 1, [.slice (A) ((l11_1).length) (c), I ((((q12_1 + 1) + 1 : Nat) : Int))]⟩], [⟨.slice (A12_2) ((packF l12_1).length) (c12_2), 39, 2, ((packF l12_1).length), (packF l12_1).flatMap encR⟩], [⟨.slice (A12_1) ((l12_1).length) (c12_1), 9, 1, ((l12_1).length), (l12_1).map S⟩]]) => ?_)
          refine O.stop (Mem.none hM5_16) ?_
          refine AO.one 7 (by kernel_rfl) ?_
          refine step1 (ls' := [true, true, true, true, true, true, true, true, false, false, true, true, true, true, true, true, true, false, false, false, false]) rfl rfl ?_
          refine O.val rfl (Ru.load1 el3 rfl (ldf encR_len (hM5_16.rd 2 rfl) hx5_5 rfl)) rfl ?_
          refine O.stop (Mem.none hM5_16) ?_
          refine AO.one 8 (by kernel_rfl) ?_
          refine step1 (ls' := [true, true, true, true, true, true, true, true, true, false, true, true, true, true, true, true, true, false, false, false, false]) rfl rfl ?_
          refine O.mlit (sz := 1) (cs := [I (0), I (1), I (2), I ((-1)), I (((packF l12_1)[(k4_3).toNat]'hx5_5).same)]) hM5_16 rfl Try.underlying59 el3 rfl rfl rfl (by kernel_rfl) (by kernel_rfl) rfl rfl (fun w5_8 b5_8 hb5_8 (hM5_8 : Mem w w5_8 [] [[⟨.slice (bl b5_8) (5) (5), 3, 1, 5, ([0, 1, 2, (-1), ((packF l12_1)[(k4_3).toNat]'hx5_5).same]).map I⟩], [⟨.slice (bl b5_16) (6) (6), 9, 1, 6, ([[], [97], [98], [122], [65], ((packF l12_1)[(k4_3).toNat]'hx5_13).tail]).map S⟩], [⟨.slice (bl gr1_1) 1 1, 66, 2, 1, [.slice (A) ((l11_1).length) (c), I ((((q12_1 + 1) + 1 : Nat) : Int))]⟩], [⟨.slice (A12_2) ((packF l12_1).length) (c12_2), 39, 2, ((packF l12_1).length), (packF l12_1).flatMap encR⟩], [⟨.slice (A12_1) ((l12_1).length) (c12_1), 9, 1, ((l12_1).length), (l12_1).map S⟩]]) => ?_)
          refine O.stop (Mem.none hM5_8) ?_
          refine AO.one 9 (by kernel_rfl) ?_
          refine step1 (ls' := [true, true, true, true, true, true, true, true, true, true, true, true, true, true, true, true, true, false, false, false, false]) rfl rfl ?_
          have hMf5_9 : Mem w w5_8 [] [[⟨.slice (bl gr1_1) 1 1, 66, 2, 1, [.slice (A) ((l11_1).length) (c), I ((((q12_1 + 1) + 1 : Nat) : Int))]⟩], [⟨.slice (bl b5_8) (5) (5), 3, 1, 5, ([0, 1, 2, (-1), ((packF l12_1)[(k4_3).toNat]'hx5_5).same]).map I⟩], [⟨.slice (bl b5_16) (6) (6), 9, 1, 6, ([[], [97], [98], [122], [65], ((packF l12_1)[(k4_3).toNat]'hx5_13).tail]).map S⟩], [⟨.slice (A12_2) ((packF l12_1).length) (c12_2), 39, 2, ((packF l12_1).length), (packF l12_1).flatMap encR⟩], [⟨.slice (A12_1) ((l12_1).length) (c12_1), 9, 1, ((l12_1).length), (l12_1).map S⟩]] := hM5_8.pick [2, 0, 1, 3, 4] (by decide) rfl
          refine O.callg [.pointer (ofs (bl gr1_1) (0)), .slice (bl b5_8) (([0, 1, 2, (-1), ((packF l12_1)[(k4_3).toNat]'hx5_5).same]).length) (5)] rfl en60 (by first | rfl | (rw [show ([0, 1, 2, (-1), ((packF l12_1)[(k4_3).toNat]'hx5_5).same]).length = 5 from (by first | rfl | (simp; done) | omega | (simp; omega))]; rfl)) rfl (one_fn gr1_1 A c l11_1 ((q12_1 + 1) + 1) (bl b5_8) 5 ([0, 1, 2, (-1), ((packF l12_1)[(k4_3).toNat]'hx5_5).same]) w5_8 (hrA.at hMf5_9) (Mem.ng_old hMf5_9 hrA 0 rfl) hrl (hMf5_9.rd 1 rfl) (Off.of_ng (hMf5_9.ng 1 0 (by decide) rfl rfl)) (Mem.focus (Ma := [[⟨.slice (bl gr1_1) 1 1, 66, 2, 1, [.slice (A) ((l11_1).length) (c), I ((((q12_1 + 1) + 1 : Nat) : Int))]⟩]]) (rest := [[⟨.slice (bl b5_8) (5) (5), 3, 1, 5, ([0, 1, 2, (-1), ((packF l12_1)[(k4_3).toNat]'hx5_5).same]).map I⟩], [⟨.slice (bl b5_16) (6) (6), 9, 1, 6, ([[], [97], [98], [122], [65], ((packF l12_1)[(k4_3).toNat]'hx5_13).tail]).map S⟩], [⟨.slice (A12_2) ((packF l12_1).length) (c12_2), 39, 2, ((packF l12_1).length), (packF l12_1).flatMap encR⟩], [⟨.slice (A12_1) ((l12_1).length) (c12_1), 9, 1, ((l12_1).length), (l12_1).map S⟩]]) hMf5_9 rfl) (by first | omega | assumption | (simp; omega) | simp | (intros; omega)) (by simp) (by simp)) ?_
          rintro _ w5_9 ⟨k5_9, rfl, hk5_9, hR5_9⟩
          have hM5_9 : Mem w w5_9 [] [[⟨.slice (bl gr1_1) 1 1, 66, 2, 1, [.slice (A) ((l11_1).length) (c), I (((((q12_1 + 1) + 1) + 1 : Nat) : Int))]⟩], [⟨.slice (bl b5_8) (5) (5), 3, 1, 5, ([0, 1, 2, (-1), ((packF l12_1)[(k4_3).toNat]'hx5_5).same]).map I⟩], [⟨.slice (bl b5_16) (6) (6), 9, 1, 6, ([[], [97], [98], [122], [65], ((packF l12_1)[(k4_3).toNat]'hx5_13).tail]).map S⟩], [⟨.slice (A12_2) ((packF l12_1).length) (c12_2), 39, 2, ((packF l12_1).length), (packF l12_1).flatMap encR⟩], [⟨.slice (A12_1) ((l12_1).length) (c12_1), 9, 1, ((l12_1).length), (l12_1).map S⟩]] := Mem.call (Ma := [[⟨.slice (bl gr1_1) 1 1, 66, 2, 1, [.slice (A) ((l11_1).length) (c), I ((((q12_1 + 1) + 1 : Nat) : Int))]⟩]]) hMf5_9 hR5_9 rfl
          refine O.stop (Mem.none hM5_9) ?_
          refine AO.one 17 (by kernel_rfl) ?_
          refine step1 (ls' := [true, true, true, true, true, true, true, true, true, true, true, true, true, true, true, true, true, true, false, false, false]) rfl rfl ?_
          refine O.callg [.pointer (ofs (bl gr1_1) (0)), .slice (bl b5_16) (([[], [97], [98], [122], [65], ((packF l12_1)[(k4_3).toNat]'hx5_13).tail]).length) (6)] rfl en61 (by first | rfl | (rw [show ([[], [97], [98], [122], [65], ((packF l12_1)[(k4_3).toNat]'hx5_13).tail]).length = 6 from (by first | rfl | (simp; done) | omega | (simp; omega))]; rfl)) rfl (of_fn gr1_1 A c l11_1 (((q12_1 + 1) + 1) + 1) (bl b5_16) 6 ([[], [97], [98], [122], [65], ((packF l12_1)[(k4_3).toNat]'hx5_13).tail]) w5_9 (hrA.at hM5_9) (Mem.ng_old hM5_9 hrA 0 rfl) hrl (hM5_9.rd 2 rfl) (Off.of_ng (hM5_9.ng 2 0 (by decide) rfl rfl)) (Mem.focus (Ma := [[⟨.slice (bl gr1_1) 1 1, 66, 2, 1, [.slice (A) ((l11_1).length) (c), I (((((q12_1 + 1) + 1) + 1 : Nat) : Int))]⟩]]) (rest := [[⟨.slice (bl b5_8) (5) (5), 3, 1, 5, ([0, 1, 2, (-1), ((packF l12_1)[(k4_3).toNat]'hx5_5).same]).map I⟩], [⟨.slice (bl b5_16) (6) (6), 9, 1, 6, ([[], [97], [98], [122], [65], ((packF l12_1)[(k4_3).toNat]'hx5_13).tail]).map S⟩], [⟨.slice (A12_2) ((packF l12_1).length) (c12_2), 39, 2, ((packF l12_1).length), (packF l12_1).flatMap encR⟩], [⟨.slice (A12_1) ((l12_1).length) (c12_1), 9, 1, ((l12_1).length), (l12_1).map S⟩]]) hM5_9 rfl) (by first | omega | assumption | (simp; omega) | simp | (intros; omega)) (by simp) (by simp)) ?_
          rintro _ w5_17 ⟨s5_17, rfl, hs5_17, hR5_17⟩
          have hM5_17 : Mem w w5_17 [] [[⟨.slice (bl gr1_1) 1 1, 66, 2, 1, [.slice (A) ((l11_1).length) (c), I ((((((q12_1 + 1) + 1) + 1) + 1 : Nat) : Int))]⟩], [⟨.slice (bl b5_8) (5) (5), 3, 1, 5, ([0, 1, 2, (-1), ((packF l12_1)[(k4_3).toNat]'hx5_5).same]).map I⟩], [⟨.slice (bl b5_16) (6) (6), 9, 1, 6, ([[], [97], [98], [122], [65], ((packF l12_1)[(k4_3).toNat]'hx5_13).tail]).map S⟩], [⟨.slice (A12_2) ((packF l12_1).length) (c12_2), 39, 2, ((packF l12_1).length), (packF l12_1).flatMap encR⟩], [⟨.slice (A12_1) ((l12_1).length) (c12_1), 9, 1, ((l12_1).length), (l12_1).map S⟩]] := Mem.call (Ma := [[⟨.slice (bl gr1_1) 1 1, 66, 2, 1, [.slice (A) ((l11_1).length) (c), I (((((q12_1 + 1) + 1) + 1 : Nat) : Int))]⟩]]) hM5_9 hR5_17 rfl
          have hts := of_tail hs5_17 (hpt _ (List.getElem_mem hkk))
          refine O.stop (Mem.none hM5_17) ?_
          refine AO.val (v := .agg #[I (k5_9), S (s5_17)]) 18 (ls' := [true, true, true, true, true, true, true, true, true, true, true, true, true, true, true, true, true, true, true, false, false]) rfl (by kernel_rfl) rfl rfl (fun w2 hw2 => Ru.build of39 rfl rfl rfl) rfl ?_
          have hx5_19 : (k4_3).toNat < (packF l12_1).length := (by first | omega | (simp; omega))
          refine AO.val (v := .pointer (ofs (A12_2) (((k4_3).toNat) * 2))) 19 (ls' := [true, true, true, true, true, true, true, true, true, true, true, true, true, true, true, true, true, true, true, true, false]) rfl (by kernel_rfl) rfl rfl (fun w2 hw2 => Ru.indexA (j := (k4_3).toNat) Try.underlying35 el39 rfl rfl (smf encR_len (hM5_17.rd 3 rfl) hx5_19 rfl) (by omega) (by first | omega | (simp; omega))) rfl ?_
          refine AO.one 20 (by kernel_rfl) ?_
          refine step1 (ls' := [true, true, true, true, true, true, true, true, true, true, true, true, true, true, true, true, true, true, true, true, true]) rfl rfl ?_
          refine O.mstore (vs := [I (k5_9), S (s5_17)]) (xs' := ((packF l12_1).set ((k4_3).toNat) (⟨k5_9, s5_17⟩)).flatMap encR) 3 0 hM5_17 rfl rfl rfl el39 rfl rfl rfl rfl rfl (by rw [flat_len encR_len]; simp; omega) (by simp) (spl_flat encR_len (l := packF l12_1) (a := ⟨k5_9, s5_17⟩) hx5_19) rfl (fun w5_20 (hM5_20 : Mem w w5_20 [] [[⟨.slice (bl gr1_1) 1 1, 66, 2, 1, [.slice (A) ((l11_1).length) (c), I ((((((q12_1 + 1) + 1) + 1) + 1 : Nat) : Int))]⟩], [⟨.slice (bl b5_8) (5) (5), 3, 1, 5, ([0, 1, 2, (-1), ((packF l12_1)[(k4_3).toNat]'hx5_5).same]).map I⟩], [⟨.slice (bl b5_16) (6) (6), 9, 1, 6, ([[], [97], [98], [122], [65], ((packF l12_1)[(k4_3).toNat]'hx5_13).tail]).map S⟩], [⟨.slice (A12_2) ((packF l12_1).length) (c12_2), 39, 2, ((packF l12_1).length), ((packF l12_1).set ((k4_3).toNat) (⟨k5_9, s5_17⟩)).flatMap encR⟩], [⟨.slice (A12_1) ((l12_1).length) (c12_1), 9, 1, ((l12_1).length), (l12_1).map S⟩]]) => ?_)
          refine O.stop (Mem.none hM5_20) ?_
          refine AO.nil (by kernel_rfl) ?_
          refine C.seq ?_
          refine C.region ?_
          refine O.val (v := .slice (A12_2) ((packF l12_1).length) (c12_2)) rfl (Ru.move rfl) rfl ?_
          refine O.val (v := .slice (A12_2) ((packF l12_1).length) (c12_2)) rfl (Ru.assign rfl) rfl ?_
          refine O.nil ?_
          refine C.ret ?_
          refine P1 (v := .slice (A12_2) ((packF l12_1).length) (c12_2)) rfl ?_
          have hq10 : (packF l12_1).set ((k4_3).toNat) (⟨k5_9, s5_17⟩) = (packF l12_1).set ((k4_3).toNat) (⟨k5_9, s5_17⟩) := (by first | rfl | simp | (simp; omega))
          have hMn10 : Mem w w5_20 [] [[⟨.slice (bl gr1_1) 1 1, 66, 2, 1, [.slice (A) ((l11_1).length) (c), I ((((((q12_1 + 1) + 1) + 1) + 1 : Nat) : Int))]⟩], [⟨.slice (bl b5_8) (5) (5), 3, 1, 5, ([0, 1, 2, (-1), ((packF l12_1)[(k4_3).toNat]'hx5_5).same]).map I⟩], [⟨.slice (bl b5_16) (6) (6), 9, 1, 6, ([[], [97], [98], [122], [65], ((packF l12_1)[(k4_3).toNat]'hx5_13).tail]).map S⟩], [⟨.slice (A12_2) (((packF l12_1).set ((k4_3).toNat) (⟨k5_9, s5_17⟩)).length) (c12_2), 39, 2, (((packF l12_1).set ((k4_3).toNat) (⟨k5_9, s5_17⟩)).length), ((packF l12_1).set ((k4_3).toNat) (⟨k5_9, s5_17⟩)).flatMap encR⟩], [⟨.slice (A12_1) ((l12_1).length) (c12_1), 9, 1, ((l12_1).length), (l12_1).map S⟩]] := hM5_20.relen 3 (n' := ((packF l12_1).set ((k4_3).toNat) (⟨k5_9, s5_17⟩)).length) (xs' := ((packF l12_1).set ((k4_3).toNat) (⟨k5_9, s5_17⟩)).flatMap encR) rfl (by rw [← hq10]; first | done | rfl | simp | (simp; omega)) (by rw [← hq10]) rfl
          exact ⟨(packF l12_1).set ((k4_3).toNat) (⟨k5_9, s5_17⟩), A12_2, c12_2, (by first | rfl | exact sl_congr (by simp) | (simp; done)), (by first | omega | (simp; omega)), (by first | exact hpt | exact tails_set hpt hts), (hMn10.pick [3] (by decide) rfl)⟩
    · refine C.skip ?_
      refine C.seq ?_
      refine C.region ?_
      refine O.val (v := .slice (A12_2) ((packF l12_1).length) (c12_2)) rfl (Ru.move rfl) rfl ?_
      refine O.val (v := .slice (A12_2) ((packF l12_1).length) (c12_2)) rfl (Ru.assign rfl) rfl ?_
      refine O.nil ?_
      refine C.ret ?_
      refine P1 (v := .slice (A12_2) ((packF l12_1).length) (c12_2)) rfl ?_
      exact ⟨packF l12_1, A12_2, c12_2, (by first | rfl | exact sl_congr (by simp) | (simp; done)), (by first | omega | (simp; omega)), (by first | exact hpt | exact tails_set hpt hts), (hM3_5.pick [1] (by decide) rfl)⟩
  · refine O.pass rfl rfl rfl rfl rfl ?_
    refine O.pass rfl rfl rfl rfl rfl ?_
    refine O.pass rfl rfl rfl rfl rfl ?_
    refine O.val (v := .bool (false)) rfl (Ru.pickF rfl rfl) rfl ?_
    refine O.nil ?_
    refine C.condF rfl ?_
    refine C.skip ?_
    refine C.seq ?_
    refine C.region ?_
    refine O.val (v := .slice (A12_2) ((packF l12_1).length) (c12_2)) rfl (Ru.move rfl) rfl ?_
    refine O.val (v := .slice (A12_2) ((packF l12_1).length) (c12_2)) rfl (Ru.assign rfl) rfl ?_
    refine O.nil ?_
    refine C.ret ?_
    refine P1 (v := .slice (A12_2) ((packF l12_1).length) (c12_2)) rfl ?_
    exact ⟨packF l12_1, A12_2, c12_2, (by first | rfl | exact sl_congr (by simp) | (simp; done)), (by first | omega | (simp; omega)), (by first | exact hpt | exact tails_set hpt hts), (hM2_2.pick [0] (by decide) rfl)⟩

theorem vUnpackWords_fn (A : Option Addr) (c : Nat) (l : List RestT) (w : World) (hA : Rd w A ((l).flatMap encR)) (hl : l.length ≤ 1048576) (hs : ∀ r ∈ l, r.tail.length ≤ 9223372036854775807) :
    Does Try.prog 40 [.slice (A) ((l).length) (c)] w (fun v w1 => ∃ (A1 : Option Addr) (c1 : Nat), v = .tuple #[.slice (A1) (((unpF l).getD []).length) (c1), .bool ((unpF l).isSome)] ∧ Mem w w1 [] [[⟨.slice (A1) (((unpF l).getD []).length) (c1), 9, 1, (((unpF l).getD []).length), ((unpF l).getD []).map S⟩]]) := by
  have hM : Mem w w [] [] := Mem.refl
  refine Does.enter2 Try.func40 rfl Try.results40 Try.ntmps40 rfl ?_
  refine C.seq ?_
  refine C.region ?_
  refine O.val (v := .slice (none) (0) (0)) rfl (Ru.assign rfl) rfl ?_
  refine O.val (v := .bool (false)) rfl (Ru.assign rfl) rfl ?_
  refine O.nil ?_
  refine C.seq ?_
  refine C.seq ?_
  refine C.region ?_
  refine O.val (v := .slice (A) ((l).length) (c)) rfl (Ru.move rfl) rfl ?_
  refine O.val (v := I ((((l).length : Nat) : Int))) rfl (Ru.blenSlice Try.underlying35 rfl) rfl ?_
  refine O.val (v := .bool (decide ((((l).length : Nat) : Int) > 8))) rfl (Ru.gtr rfl rfl) rfl ?_
  refine O.nil ?_
  refine C.cond (p := (((l).length : Nat) : Int) > 8) rfl (fun c11 => ?_) (fun c11 => ?_)
  · refine C.seq ?_
    refine C.region ?_
    refine O.val (v := .slice (none) (0) (0)) rfl (Ru.assign rfl) rfl ?_
    refine O.val (v := .bool (false)) rfl (Ru.assign rfl) rfl ?_
    refine O.nil ?_
    refine C.ret ?_
    refine P2 (v := .slice (none) (0) (0)) (v' := .bool (false)) rfl rfl ?_
    have hn : unpF l = none := unp_big (by omega)
    have hMn1 : Mem w w [] [[⟨.slice (none) (0) (0), 9, 1, 0, ([]).map S⟩]] := Mem.addNil hM
    have hq2 : [] = (unpF l).getD [] := (by rw [hn]; rfl)
    have hMn2 : Mem w w [] [[⟨.slice (none) (((unpF l).getD []).length) (0), 9, 1, (((unpF l).getD []).length), ((unpF l).getD []).map S⟩]] := hMn1.relen 0 (n' := ((unpF l).getD []).length) (xs' := ((unpF l).getD []).map S) rfl (by rw [← hq2]; first | done | rfl | simp | (simp; omega)) (by rw [← hq2]) rfl
    exact ⟨none, 0, (by rw [hn]; rfl), (hMn2.pick [0] (by decide) rfl)⟩
  · have hl8 : l.length ≤ 8 := by omega
    refine C.skip ?_
    refine C.seq ?_
    refine C.region ?_
    refine O.val (v := .slice (none) (0) (0)) rfl (Ru.assign rfl) rfl ?_
    refine O.nil ?_
    refine C.seq ?_
    refine C.region ?_
    refine O.val (v := S ([])) rfl (Ru.assign rfl) rfl ?_
    refine O.nil ?_
    refine C.seq ?_
    refine C.seq ?_
    refine C.region ?_
    refine O.val (v := .slice (A) ((l).length) (c)) rfl (Ru.move rfl) rfl ?_
    refine O.val (v := I ((((l).length : Nat) : Int))) rfl (Ru.blenSlice Try.underlying35 rfl) rfl ?_
    refine O.val (v := I (0)) rfl (Ru.move rfl) rfl ?_
    refine O.nil ?_
    refine C.block ?_
    have hMn3 : Mem w w [] [[⟨.slice (none) (0) (0), 9, 1, 0, ([]).map S⟩]] := Mem.addNil hM
    refine C.loop (ι := Nat × (List Str) × (Option Addr) × Nat) (fun x_ => ([(0, .slice (A) ((l).length) (c)), (4, .slice (x_.2.2.1) ((x_.2.1).length) (x_.2.2.2)), (5, S (lastW [] x_.2.1)), (12, .slice (A) ((l).length) (c)), (13, I ((((l).length : Nat) : Int))), (14, I (((x_.1 : Nat) : Int)))] : List (Nat × Value))) (fun x_ w_ => (x_.1 ≤ l.length) ∧ (build [] (l.take x_.1) = some x_.2.1) ∧ ((∀ s ∈ x_.2.1, s.length ≤ 8 * x_.1) ∧ (lastW [] x_.2.1).length ≤ 8 * x_.1) ∧ (Mem w w_ [] [[⟨.slice (x_.2.2.1) ((x_.2.1).length) (x_.2.2.2), 9, 1, ((x_.2.1).length), (x_.2.1).map S⟩]])) (fun x_ => l.length - x_.1) (0, [], none, 0) (Has.cons rfl (Has.cons (sl_congr (by first | rfl | simp | omega | (simp [← hq3]) | (simp; omega))) (Has.cons rfl (Has.cons rfl (Has.cons rfl (Has.cons (I_congr (by first | rfl | omega | (simp; omega) | simp)) Has.nil)))))) ⟨(Nat.zero_le _), (by (try dsimp only); simp [build]), (by (try dsimp only); simp [lastW]), (hMn3.pick [0] (by decide) rfl)⟩ (fun ⟨k, W, A2, c2⟩ σ w_l6 hI => ?_)
    try dsimp only at hI
    obtain ⟨hi0_l6, hi1_l6, hi2_l6, hM_l6⟩ := hI
    have hlw := hi2_l6
    have hlw1 := hlw.2
    have hWl : W.length = k := by rw [build_len _ _ _ hi1_l6]; simp; omega
    refine C.seq ?_
    refine C.region ?_
    refine O.val (v := .bool (decide (((k : Nat) : Int) < (((l).length : Nat) : Int)))) rfl (Ru.lss rfl rfl) rfl ?_
    refine O.nil ?_
    refine C.seq ?_
    refine C.cond (p := ((k : Nat) : Int) < (((l).length : Nat) : Int)) rfl (fun c15 => ?_) (fun c15 => ?_)
    · refine C.skip ?_
      refine C.seq ?_
      refine C.block ?_
      refine C.seq ?_
      refine C.region ?_
      have hx7_0 : k < (l).length := (by first | omega | (simp; omega))
      refine O.val (v := .pointer (ofs (A) (k * 2))) rfl (Ru.indexA (j := k) Try.underlying35 el39 rfl rfl (smf encR_len (hA.at hM_l6) hx7_0 rfl) (by omega) (by first | omega | (simp; omega))) rfl ?_
      have hst := hs _ (List.getElem_mem hx7_0)
      refine O.val rfl (Ru.loadN (vs := [I (((l)[k]'hx7_0).same), S (((l)[k]'hx7_0).tail)]) el39 rfl rfl (smf encR_len (hA.at hM_l6) hx7_0 rfl) (ldn encR_len (hA.at hM_l6) hx7_0)) rfl ?_
      refine O.malloc (k := 2) hM_l6 rfl rfl el39 rfl (fun w7_2 b7_2 hb7_2 (hM7_2 : Mem w w7_2 [] [[⟨.slice (bl b7_2) 1 1, 39, 2, 1, [I (0), S ([])]⟩], [⟨.slice (A2) ((W).length) (c2), 9, 1, ((W).length), (W).map S⟩]]) => ?_)
      refine O.mstore (vs := [I (((l)[k]'hx7_0).same), S (((l)[k]'hx7_0).tail)]) (xs' := [I (((l)[k]'hx7_0).same), S (((l)[k]'hx7_0).tail)]) 0 0 hM7_2 rfl rfl rfl el39 rfl rfl rfl rfl rfl (by simp) (by simp) rfl rfl (fun w7_3 (hM7_3 : Mem w w7_3 [] [[⟨.slice (bl b7_2) 1 1, 39, 2, 1, [I (((l)[k]'hx7_0).same), S (((l)[k]'hx7_0).tail)]⟩], [⟨.slice (A2) ((W).length) (c2), 9, 1, ((W).length), (W).map S⟩]]) => ?_)
      refine O.nil ?_
      refine C.seq ?_
      refine C.seq ?_
      refine C.region ?_
      refine O.val (v := .pointer (ofs (bl b7_2) (0))) rfl (Ru.fieldA fl39_0 rfl rfl) rfl ?_
      refine O.val rfl (Ru.load1 el3 rfl ((hM7_3.rd 0 rfl).ld rfl)) rfl ?_
      refine O.val (v := .bool (decide (((l)[k]'hx7_0).same < 0))) rfl (Ru.lss rfl rfl) rfl ?_
      refine O.val (v := .bool (decide (((l)[k]'hx7_0).same < 0))) rfl (Ru.move rfl) rfl ?_
      refine O.partp 21 (((l)[k]'hx7_0).same < 0) rfl (fun g21 => ?_) (fun g21 => ?_)
      · refine O.pass rfl rfl rfl rfl rfl ?_
        refine O.pass rfl rfl rfl rfl rfl ?_
        refine O.pass rfl rfl rfl rfl rfl ?_
        refine O.pass rfl rfl rfl rfl rfl ?_
        refine O.pass rfl rfl rfl rfl rfl ?_
        refine O.val (v := .bool (true)) rfl (Ru.pickT rfl rfl) rfl ?_
        refine O.val (v := .bool (true)) rfl (Ru.move rfl) rfl ?_
        refine O.pass rfl rfl rfl rfl rfl ?_
        refine O.pass rfl rfl rfl rfl rfl ?_
        refine O.pass rfl rfl rfl rfl rfl ?_
        refine O.pass rfl rfl rfl rfl rfl ?_
        refine O.val (v := .bool (true)) rfl (Ru.pickT rfl rfl) rfl ?_
        refine O.nil ?_
        refine C.condT rfl ?_
        refine C.seq ?_
        refine C.region ?_
        refine O.val (v := .slice (none) (0) (0)) rfl (Ru.assign rfl) rfl ?_
        refine O.val (v := .bool (false)) rfl (Ru.assign rfl) rfl ?_
        refine O.nil ?_
        refine C.ret ?_
        refine P2 (v := .slice (none) (0) (0)) (v' := .bool (false)) rfl rfl ?_
        have hn : unpF l = none := unp_none (build_stop hx7_0 hi1_l6 (by simp [okR]; omega))
        have hMn4 : Mem w w7_3 [] [[⟨.slice (none) (0) (0), 9, 1, 0, ([]).map S⟩], [⟨.slice (bl b7_2) 1 1, 39, 2, 1, [I (((l)[k]'hx7_0).same), S (((l)[k]'hx7_0).tail)]⟩], [⟨.slice (A2) ((W).length) (c2), 9, 1, ((W).length), (W).map S⟩]] := Mem.addNil hM7_3
        have hq5 : [] = (unpF l).getD [] := (by rw [hn]; rfl)
        have hMn5 : Mem w w7_3 [] [[⟨.slice (none) (((unpF l).getD []).length) (0), 9, 1, (((unpF l).getD []).length), ((unpF l).getD []).map S⟩], [⟨.slice (bl b7_2) 1 1, 39, 2, 1, [I (((l)[k]'hx7_0).same), S (((l)[k]'hx7_0).tail)]⟩], [⟨.slice (A2) ((W).length) (c2), 9, 1, ((W).length), (W).map S⟩]] := hMn4.relen 0 (n' := ((unpF l).getD []).length) (xs' := ((unpF l).getD []).map S) rfl (by rw [← hq5]; first | done | rfl | simp | (simp; omega)) (by rw [← hq5]) rfl
        exact ⟨none, 0, (by rw [hn]; rfl), (hMn5.pick [0] (by decide) rfl)⟩
      · refine O.val (v := .pointer (ofs (bl b7_2) (0))) rfl (Ru.fieldA fl39_0 rfl rfl) rfl ?_
        refine O.val rfl (Ru.load1 el3 rfl ((hM7_3.rd 0 rfl).ld rfl)) rfl ?_
        refine O.val (v := S (lastW [] W)) rfl (Ru.move rfl) rfl ?_
        refine O.val (v := I (((lastW [] W).length : Int))) rfl (Ru.slen Try.underlying9 rfl) rfl ?_
        refine O.val (v := .bool (decide (((l)[k]'hx7_0).same > ((lastW [] W).length : Int)))) rfl (Ru.gtr rfl rfl) rfl ?_
        refine O.val (v := .bool (decide (((l)[k]'hx7_0).same > ((lastW [] W).length : Int)))) rfl (Ru.pickF rfl rfl) rfl ?_
        refine O.val (v := .bool (decide (((l)[k]'hx7_0).same > ((lastW [] W).length : Int)))) rfl (Ru.move rfl) rfl ?_
        refine O.partp 28 (((l)[k]'hx7_0).same > ((lastW [] W).length : Int)) rfl (fun g28 => ?_) (fun g28 => ?_)
        · refine O.pass rfl rfl rfl rfl rfl ?_
          refine O.pass rfl rfl rfl rfl rfl ?_
          refine O.pass rfl rfl rfl rfl rfl ?_
          refine O.pass rfl rfl rfl rfl rfl ?_
          refine O.val (v := .bool (true)) rfl (Ru.pickT rfl rfl) rfl ?_
          refine O.nil ?_
          refine C.condT rfl ?_
          refine C.seq ?_
          refine C.region ?_
          refine O.val (v := .slice (none) (0) (0)) rfl (Ru.assign rfl) rfl ?_
          refine O.val (v := .bool (false)) rfl (Ru.assign rfl) rfl ?_
          refine O.nil ?_
          refine C.ret ?_
          refine P2 (v := .slice (none) (0) (0)) (v' := .bool (false)) rfl rfl ?_
          have hn : unpF l = none := unp_none (build_stop hx7_0 hi1_l6 (by simp [okR]; omega))
          have hMn6 : Mem w w7_3 [] [[⟨.slice (none) (0) (0), 9, 1, 0, ([]).map S⟩], [⟨.slice (bl b7_2) 1 1, 39, 2, 1, [I (((l)[k]'hx7_0).same), S (((l)[k]'hx7_0).tail)]⟩], [⟨.slice (A2) ((W).length) (c2), 9, 1, ((W).length), (W).map S⟩]] := Mem.addNil hM7_3
          have hq7 : [] = (unpF l).getD [] := (by rw [hn]; rfl)
          have hMn7 : Mem w w7_3 [] [[⟨.slice (none) (((unpF l).getD []).length) (0), 9, 1, (((unpF l).getD []).length), ((unpF l).getD []).map S⟩], [⟨.slice (bl b7_2) 1 1, 39, 2, 1, [I (((l)[k]'hx7_0).same), S (((l)[k]'hx7_0).tail)]⟩], [⟨.slice (A2) ((W).length) (c2), 9, 1, ((W).length), (W).map S⟩]] := hMn6.relen 0 (n' := ((unpF l).getD []).length) (xs' := ((unpF l).getD []).map S) rfl (by rw [← hq7]; first | done | rfl | simp | (simp; omega)) (by rw [← hq7]) rfl
          exact ⟨none, 0, (by rw [hn]; rfl), (hMn7.pick [0] (by decide) rfl)⟩
        · refine O.val (v := .pointer (ofs (bl b7_2) (1))) rfl (Ru.fieldA fl39_1 rfl rfl) rfl ?_
          refine O.val rfl (Ru.load1 el9 rfl ((hM7_3.rd 0 rfl).ld rfl)) rfl ?_
          refine O.val (v := I (((((l)[k]'hx7_0).tail).length : Int))) rfl (Ru.slen Try.underlying9 rfl) rfl ?_
          refine O.val (v := .bool (decide (((((l)[k]'hx7_0).tail).length : Int) > 8))) rfl (Ru.gtr rfl rfl) rfl ?_
          refine O.val (v := .bool (decide (((((l)[k]'hx7_0).tail).length : Int) > 8))) rfl (Ru.pickF rfl rfl) rfl ?_
          refine O.nil ?_
          refine C.cond (p := ((((l)[k]'hx7_0).tail).length : Int) > 8) rfl (fun c33 => ?_) (fun c33 => ?_)
          · refine C.seq ?_
            refine C.region ?_
            refine O.val (v := .slice (none) (0) (0)) rfl (Ru.assign rfl) rfl ?_
            refine O.val (v := .bool (false)) rfl (Ru.assign rfl) rfl ?_
            refine O.nil ?_
            refine C.ret ?_
            refine P2 (v := .slice (none) (0) (0)) (v' := .bool (false)) rfl rfl ?_
            have hn : unpF l = none := unp_none (build_stop hx7_0 hi1_l6 (by simp [okR]; omega))
            have hMn8 : Mem w w7_3 [] [[⟨.slice (none) (0) (0), 9, 1, 0, ([]).map S⟩], [⟨.slice (bl b7_2) 1 1, 39, 2, 1, [I (((l)[k]'hx7_0).same), S (((l)[k]'hx7_0).tail)]⟩], [⟨.slice (A2) ((W).length) (c2), 9, 1, ((W).length), (W).map S⟩]] := Mem.addNil hM7_3
            have hq9 : [] = (unpF l).getD [] := (by rw [hn]; rfl)
            have hMn9 : Mem w w7_3 [] [[⟨.slice (none) (((unpF l).getD []).length) (0), 9, 1, (((unpF l).getD []).length), ((unpF l).getD []).map S⟩], [⟨.slice (bl b7_2) 1 1, 39, 2, 1, [I (((l)[k]'hx7_0).same), S (((l)[k]'hx7_0).tail)]⟩], [⟨.slice (A2) ((W).length) (c2), 9, 1, ((W).length), (W).map S⟩]] := hMn8.relen 0 (n' := ((unpF l).getD []).length) (xs' := ((unpF l).getD []).map S) rfl (by rw [← hq9]; first | done | rfl | simp | (simp; omega)) (by rw [← hq9]) rfl
            exact ⟨none, 0, (by rw [hn]; rfl), (hMn9.pick [0] (by decide) rfl)⟩
          · have hok : okR (lastW [] W) ((l)[k]'hx7_0) = true := by simp [okR] at *; omega
            have hwl := wordOf_len hok
            refine C.skip ?_
            refine C.seq ?_
            refine C.draws (fun w2 => Mem w w2 [] [[⟨.slice (bl b7_2) 1 1, 39, 2, 1, [I (((l)[k]'hx7_0).same), S (((l)[k]'hx7_0).tail)]⟩], [⟨.slice (A2) ((W).length) (c2), 9, 1, ((W).length), (W).map S⟩]]) mixed (by kernel_rfl) (hM7_3.ext (kdrawn _)) ?_
            refine QO.val (v := S (lastW [] W)) rfl (fun w2 hw2 => Ru.move rfl) rfl ?_
            refine QO.val (v := .pointer (ofs (bl b7_2) (0))) rfl (fun w2 hw2 => Ru.fieldA fl39_0 rfl rfl) rfl ?_
            refine QO.val rfl (fun w2 hw2 => Ru.load1 el3 rfl ((hw2.rd 0 rfl).ld rfl)) rfl ?_
            refine QO.val (v := S ((lastW [] W).take ((((l)[k]'hx7_0).same).toNat))) rfl (fun w2 hw2 => Ru.ssliceTo (h := (((l)[k]'hx7_0).same).toNat) Try.underlying9 rfl rfl (by omega) (by first | omega | (simp; omega))) rfl ?_
            refine QO.val (v := .pointer (ofs (bl b7_2) (1))) rfl (fun w2 hw2 => Ru.fieldA fl39_1 rfl rfl) rfl ?_
            refine QO.val rfl (fun w2 hw2 => Ru.load1 el9 rfl ((hw2.rd 0 rfl).ld rfl)) rfl ?_
            refine QO.val (v := S (wordOf (lastW [] W) ((l)[k]'hx7_0))) rfl (fun w2 hw2 => Ru.congr (v := S (((lastW [] W).take ((((l)[k]'hx7_0).same).toNat) ++ ((l)[k]'hx7_0).tail))) (v' := S (wordOf (lastW [] W) ((l)[k]'hx7_0))) (Ru.sadd rfl rfl (by simp; omega)) (rfl)) rfl ?_
            refine QO.val (v := S (wordOf (lastW [] W) ((l)[k]'hx7_0))) rfl (fun w2 hw2 => Ru.assign rfl) rfl ?_
            refine QO.nil ?_
            intro w10d hM10d
            refine C.seq ?_
            refine C.region ?_
            refine O.val (v := .slice (A2) ((W).length) (c2)) rfl (Ru.move rfl) rfl ?_
            refine O.val (v := S (wordOf (lastW [] W) ((l)[k]'hx7_0))) rfl (Ru.move rfl) rfl ?_
            refine O.mlit (sz := 1) (cs := [S (wordOf (lastW [] W) ((l)[k]'hx7_0))]) hM10d rfl Try.underlying24 el9 rfl rfl rfl (by kernel_rfl) (by kernel_rfl) rfl rfl (fun w11_2 b11_2 hb11_2 (hM11_2 : Mem w w11_2 [] [[⟨.slice (bl b11_2) (1) (1), 9, 1, 1, ([wordOf (lastW [] W) ((l)[k]'hx7_0)]).map S⟩], [⟨.slice (bl b7_2) 1 1, 39, 2, 1, [I (((l)[k]'hx7_0).same), S (((l)[k]'hx7_0).tail)]⟩], [⟨.slice (A2) ((W).length) (c2), 9, 1, ((W).length), (W).map S⟩]]) => ?_)
            refine O.mappend (sz := 1) (news := ([wordOf (lastW [] W) ((l)[k]'hx7_0)]).map S) (m1 := (W ++ [wordOf (lastW [] W) ((l)[k]'hx7_0)]).length) (xs1 := (W ++ [wordOf (lastW [] W) ((l)[k]'hx7_0)]).map S) (M' := fun A11_3 c11_3 => [[⟨.slice (bl b11_2) (1) (1), 9, 1, 1, ([wordOf (lastW [] W) ((l)[k]'hx7_0)]).map S⟩], [⟨.slice (bl b7_2) 1 1, 39, 2, 1, [I (((l)[k]'hx7_0).same), S (((l)[k]'hx7_0).tail)]⟩], [⟨.slice (A11_3) ((W ++ [wordOf (lastW [] W) ((l)[k]'hx7_0)]).length) (c11_3), 9, 1, ((W ++ [wordOf (lastW [] W) ((l)[k]'hx7_0)]).length), (W ++ [wordOf (lastW [] W) ((l)[k]'hx7_0)]).map S⟩]]) 2 0 hM11_2 rfl rfl rfl Try.underlying24 el9 ⟨rfl, by decide⟩ rfl rfl rfl (hM11_2.rd 0 rfl) (by first | (simp; done) | (simp; omega)) (all_map_one (fun _ => rfl) _) (by first | omega | (simp; omega)) (by first | omega | (simp; omega)) (by first | (simp; done) | (simp; omega)) (by simp) (fun _ _ => rfl) (fun w11_3 A11_3 c11_3 hc11_3 hM11_3 => ?_)
            try dsimp only at hM11_3
            refine O.val (v := .slice (A11_3) ((W ++ [wordOf (lastW [] W) ((l)[k]'hx7_0)]).length) (c11_3)) rfl (Ru.assign rfl) rfl ?_
            refine O.nil ?_
            refine C.region ?_
            refine O.val (v := S (wordOf (lastW [] W) ((l)[k]'hx7_0))) rfl (Ru.move rfl) rfl ?_
            refine O.val (v := S (wordOf (lastW [] W) ((l)[k]'hx7_0))) rfl (Ru.assign rfl) rfl ?_
            refine O.nil ?_
            refine C.region ?_
            refine O.val (v := I ((((k + 1) : Nat) : Int))) rfl (Ru.congr (v := I ((((k : Nat) : Int) + 1))) (v' := I ((((k + 1) : Nat) : Int))) (Ru.add rfl rfl (by omega)) (I_congr (by first | omega | simp))) rfl ?_
            refine O.val (v := I ((((k + 1) : Nat) : Int))) rfl (Ru.move rfl) rfl ?_
            refine O.nil ?_
            exact loopEnd (k + 1, W ++ [wordOf (lastW [] W) ((l)[k]'hx7_0)], A11_3, c11_3) (by (try dsimp only); omega) (Has.cons rfl (Has.cons rfl (Has.cons (S_congr (lastW_snoc _ _ _).symm) (Has.cons rfl (Has.cons rfl (Has.cons (I_congr (by first | rfl | omega | (simp; omega) | simp)) Has.nil)))))) ⟨(by (try dsimp only); omega), (build_step hx7_0 hi1_l6 hok), (⟨by intro s hs; rcases List.mem_append.1 hs with hs | hs; (have := hlw.1 s hs; omega); simp at hs; subst hs; omega, by rw [lastW_snoc]; omega⟩), (hM11_3.pick [2] (by decide) rfl)⟩
    · have hke : k = l.length := by omega
      subst hke
      rw [List.take_length] at hi1_l6
      have hW : W.length = l.length := build_len _ _ _ hi1_l6
      refine C.exit ?_
      refine C.seq ?_
      refine C.seq ?_
      refine C.region ?_
      refine O.val (v := .slice (A2) ((W).length) (c2)) rfl (Ru.move rfl) rfl ?_
      refine O.callg [.slice (A2) ((W).length) (c2)] rfl en25 rfl rfl (vValidWords_fn A2 c2 W w_l6 (hM_l6.rd 0 rfl) (by first | omega | assumption | (simp; omega) | simp | (intros; omega)) (by intro s hs; have := hlw.1 s hs; omega)) ?_
      rintro _ w14_1 ⟨rfl, hR14_1⟩
      have hM14_1 : Mem w w14_1 [] [[⟨.slice (A2) ((W).length) (c2), 9, 1, ((W).length), (W).map S⟩]] := Mem.call (Ma := []) hM_l6 hR14_1 rfl
      refine O.val (v := .bool (!(validW W))) rfl (Ru.not rfl) rfl ?_
      refine O.val (v := .bool (!(validW W))) rfl (Ru.move rfl) rfl ?_
      refine O.part 50 (!(validW W)) rfl (fun g50 => ?_) (fun g50 => ?_)
      · refine O.pass rfl rfl rfl rfl rfl ?_
        refine O.pass rfl rfl rfl rfl rfl ?_
        refine O.pass rfl rfl rfl rfl rfl ?_
        refine O.pass rfl rfl rfl rfl rfl ?_
        refine O.pass rfl rfl rfl rfl rfl ?_
        refine O.val (v := .bool (true)) rfl (Ru.pickT rfl rfl) rfl ?_
        refine O.nil ?_
        refine C.condT rfl ?_
        refine C.seq ?_
        refine C.region ?_
        refine O.val (v := .slice (none) (0) (0)) rfl (Ru.assign rfl) rfl ?_
        refine O.val (v := .bool (false)) rfl (Ru.assign rfl) rfl ?_
        refine O.nil ?_
        refine C.ret ?_
        refine P2 (v := .slice (none) (0) (0)) (v' := .bool (false)) rfl rfl ?_
        have hn : unpF l = none := by rw [unp_end hi1_l6 hl8, if_neg (by simp_all)]
        have hMn10 : Mem w w14_1 [] [[⟨.slice (none) (0) (0), 9, 1, 0, ([]).map S⟩], [⟨.slice (A2) ((W).length) (c2), 9, 1, ((W).length), (W).map S⟩]] := Mem.addNil hM14_1
        have hq11 : [] = (unpF l).getD [] := (by rw [hn]; rfl)
        have hMn11 : Mem w w14_1 [] [[⟨.slice (none) (((unpF l).getD []).length) (0), 9, 1, (((unpF l).getD []).length), ((unpF l).getD []).map S⟩], [⟨.slice (A2) ((W).length) (c2), 9, 1, ((W).length), (W).map S⟩]] := hMn10.relen 0 (n' := ((unpF l).getD []).length) (xs' := ((unpF l).getD []).map S) rfl (by rw [← hq11]; first | done | rfl | simp | (simp; omega)) (by rw [← hq11]) rfl
        exact ⟨none, 0, (by rw [hn]; rfl), (hMn11.pick [0] (by decide) rfl)⟩
      · refine O.val (v := .slice (A2) ((W).length) (c2)) rfl (Ru.move rfl) rfl ?_
        refine O.callg [.slice (A2) ((W).length) (c2)] rfl en32 rfl rfl (vPackWords_fn A2 c2 W w14_1 (hM14_1.rd 0 rfl) (by first | omega | assumption | (simp; omega) | simp | (intros; omega)) (by intro s hs; have := hlw.1 s hs; omega)) ?_
        rintro _ w14_5 ⟨A114_5, c114_5, rfl, hR14_5⟩
        have hM14_5 : Mem w w14_5 [] [[⟨.slice (A114_5) ((packF W).length) (c114_5), 39, 2, ((packF W).length), (packF W).flatMap encR⟩], [⟨.slice (A2) ((W).length) (c2), 9, 1, ((W).length), (W).map S⟩]] := Mem.call (Ma := []) hM14_1 hR14_5 rfl
        have hpl := packF_len W
        refine O.val (v := .slice (A) ((l).length) (c)) rfl (Ru.move rfl) rfl ?_
        refine O.callg [.slice (A114_5) ((packF W).length) (c114_5), .slice (A) ((l).length) (c)] rfl en59 rfl rfl (vsEqualRest_fn A114_5 c114_5 (packF W) A c l w14_5 (hM14_5.rd 0 rfl) (hA.at hM14_5) (by first | omega | assumption | (simp; omega) | simp | (intros; omega))) ?_
        rintro _ w14_7 ⟨rfl, hR14_7⟩
        have hM14_7 : Mem w w14_7 [] [[⟨.slice (A114_5) ((packF W).length) (c114_5), 39, 2, ((packF W).length), (packF W).flatMap encR⟩], [⟨.slice (A2) ((W).length) (c2), 9, 1, ((W).length), (W).map S⟩]] := Mem.call (Ma := []) hM14_5 hR14_7 rfl
        refine O.val (v := .bool (!(decide ((packF W) = l)))) rfl (Ru.not rfl) rfl ?_
        refine O.val (v := .bool (!(decide ((packF W) = l)))) rfl (Ru.pickF rfl rfl) rfl ?_
        refine O.nil ?_
        refine C.condn (b := (decide ((packF W) = l))) rfl (fun c56 => ?_) (fun c56 => ?_)
        · refine C.seq ?_
          refine C.region ?_
          refine O.val (v := .slice (none) (0) (0)) rfl (Ru.assign rfl) rfl ?_
          refine O.val (v := .bool (false)) rfl (Ru.assign rfl) rfl ?_
          refine O.nil ?_
          refine C.ret ?_
          refine P2 (v := .slice (none) (0) (0)) (v' := .bool (false)) rfl rfl ?_
          have hn : unpF l = none := by rw [unp_end hi1_l6 hl8, if_neg (by simp_all)]
          have hMn12 : Mem w w14_7 [] [[⟨.slice (none) (0) (0), 9, 1, 0, ([]).map S⟩], [⟨.slice (A114_5) ((packF W).length) (c114_5), 39, 2, ((packF W).length), (packF W).flatMap encR⟩], [⟨.slice (A2) ((W).length) (c2), 9, 1, ((W).length), (W).map S⟩]] := Mem.addNil hM14_7
          have hq13 : [] = (unpF l).getD [] := (by rw [hn]; rfl)
          have hMn13 : Mem w w14_7 [] [[⟨.slice (none) (((unpF l).getD []).length) (0), 9, 1, (((unpF l).getD []).length), ((unpF l).getD []).map S⟩], [⟨.slice (A114_5) ((packF W).length) (c114_5), 39, 2, ((packF W).length), (packF W).flatMap encR⟩], [⟨.slice (A2) ((W).length) (c2), 9, 1, ((W).length), (W).map S⟩]] := hMn12.relen 0 (n' := ((unpF l).getD []).length) (xs' := ((unpF l).getD []).map S) rfl (by rw [← hq13]; first | done | rfl | simp | (simp; omega)) (by rw [← hq13]) rfl
          exact ⟨none, 0, (by rw [hn]; rfl), (hMn13.pick [0] (by decide) rfl)⟩
        · refine C.skip ?_
          refine C.seq ?_
          refine C.region ?_
          refine O.val (v := .slice (A2) ((W).length) (c2)) rfl (Ru.move rfl) rfl ?_
          refine O.val (v := .slice (A2) ((W).length) (c2)) rfl (Ru.assign rfl) rfl ?_
          refine O.val (v := .bool (true)) rfl (Ru.assign rfl) rfl ?_
          refine O.nil ?_
          refine C.ret ?_
          refine P2 (v := .slice (A2) ((W).length) (c2)) (v' := .bool (true)) rfl rfl ?_
          have hn : unpF l = some W := by rw [unp_end hi1_l6 hl8, if_pos (by simp_all)]
          have hq14 : W = (unpF l).getD [] := (by rw [hn]; rfl)
          have hMn14 : Mem w w14_7 [] [[⟨.slice (A114_5) ((packF W).length) (c114_5), 39, 2, ((packF W).length), (packF W).flatMap encR⟩], [⟨.slice (A2) (((unpF l).getD []).length) (c2), 9, 1, (((unpF l).getD []).length), ((unpF l).getD []).map S⟩]] := hM14_7.relen 1 (n' := ((unpF l).getD []).length) (xs' := ((unpF l).getD []).map S) rfl (by rw [← hq14]; first | done | rfl | simp | (simp; omega)) (by rw [← hq14]) rfl
          exact ⟨A2, c2, (by rw [hn]; rfl), (hMn14.pick [1] (by decide) rfl)⟩

theorem vSUnpackWords_fn (A : Option Addr) (c : Nat) (l : List RestT) (w : World) (hA : Rd w A ((l).flatMap encR)) (hl : l.length ≤ 1048576) (hs : ∀ r ∈ l, r.tail.length ≤ 9223372036854775807) :
    Does Try.prog 43 [.slice (A) ((l).length) (c)] w (fun v w1 => ∃ (A1 : Option Addr) (c1 : Nat), v = .tuple #[.slice (A1) (((unpF l).getD []).length) (c1), .bool ((unpF l).isSome)] ∧ Mem w w1 [] [[⟨.slice (A1) (((unpF l).getD []).length) (c1), 9, 1, (((unpF l).getD []).length), ((unpF l).getD []).map S⟩]]) := by
  have hM : Mem w w [] [] := Mem.refl
  refine Does.enter2 Try.func43 rfl Try.results43 Try.ntmps43 rfl ?_
  refine C.seq ?_
  refine C.region ?_
  refine O.val (v := .slice (none) (0) (0)) rfl (Ru.assign rfl) rfl ?_
  refine O.val (v := .bool (false)) rfl (Ru.assign rfl) rfl ?_
  refine O.nil ?_
  refine C.seq ?_
  refine C.region ?_
  refine O.mlit (sz := 1) (cs := []) hM rfl Try.underlying24 el9 rfl rfl rfl (by kernel_rfl) (by kernel_rfl) rfl rfl (fun w1_0 b1_0 hb1_0 (hM1_0 : Mem w w1_0 [] [[⟨.slice (bl b1_0) (0) (0), 9, 1, 0, ([]).map S⟩]]) => ?_)
  refine O.val (v := .slice (bl b1_0) (0) (0)) rfl (Ru.assign rfl) rfl ?_
  refine O.nil ?_
  refine C.seq ?_
  refine C.region ?_
  refine O.val (v := S ([])) rfl (Ru.assign rfl) rfl ?_
  refine O.nil ?_
  refine C.seq ?_
  refine C.seq ?_
  refine C.region ?_
  refine O.val (v := I (0)) rfl (Ru.assign rfl) rfl ?_
  refine O.nil ?_
  refine C.block ?_
  refine C.loop (ι := Nat × (List Str) × (Option Addr) × Nat) (fun x_ => ([(0, .slice (A) ((l).length) (c)), (4, .slice (x_.2.2.1) ((x_.2.1).length) (x_.2.2.2)), (5, S (lastW [] x_.2.1)), (6, I (((x_.1 : Nat) : Int)))] : List (Nat × Value))) (fun x_ w_ => (x_.1 ≤ l.length) ∧ (build [] (l.take x_.1) = some x_.2.1) ∧ ((∀ s ∈ x_.2.1, s.length ≤ 8 * x_.1) ∧ (lastW [] x_.2.1).length ≤ 8 * x_.1) ∧ (x_.1 ≤ 8 ∧ packW x_.2.1 = l.take x_.1) ∧ (Mem w w_ [] [[⟨.slice (x_.2.2.1) ((x_.2.1).length) (x_.2.2.2), 9, 1, ((x_.2.1).length), (x_.2.1).map S⟩]])) (fun x_ => l.length - x_.1) (0, [], bl b1_0, 0) (Has.cons rfl (Has.cons (sl_congr (by first | rfl | simp | omega | (simp []) | (simp; omega))) (Has.cons rfl (Has.cons (I_congr (by first | rfl | omega | (simp; omega) | simp)) Has.nil)))) ⟨(Nat.zero_le _), (by (try dsimp only); simp [build]), (by (try dsimp only); simp [lastW]), (by (try dsimp only); exact ⟨by omega, by simp [packW, packA]⟩), (hM1_0.pick [0] (by decide) rfl)⟩ (fun ⟨k, W, A2, c2⟩ σ w_l4 hI => ?_)
  try dsimp only at hI
  obtain ⟨hi0_l4, hi1_l4, hi2_l4, hi3_l4, hM_l4⟩ := hI
  have hlw := hi2_l4
  have hlw1 := hlw.2
  have hWl : W.length = k := by rw [build_len _ _ _ hi1_l4]; simp; omega
  refine C.seq ?_
  refine C.seq ?_
  refine C.region ?_
  refine O.val (v := I (((k : Nat) : Int))) rfl (Ru.move rfl) rfl ?_
  refine O.val (v := .slice (A) ((l).length) (c)) rfl (Ru.move rfl) rfl ?_
  refine O.val (v := I ((((l).length : Nat) : Int))) rfl (Ru.blenSlice Try.underlying35 rfl) rfl ?_
  refine O.val (v := .bool (decide (((k : Nat) : Int) < (((l).length : Nat) : Int)))) rfl (Ru.lss rfl rfl) rfl ?_
  refine O.nil ?_
  refine C.cond (p := ((k : Nat) : Int) < (((l).length : Nat) : Int)) rfl (fun c12 => ?_) (fun c12 => ?_)
  · refine C.skip ?_
    refine C.seq ?_
    refine C.block ?_
    refine C.seq ?_
    refine C.seq ?_
    refine C.region ?_
    refine O.val (v := .slice (A) ((l).length) (c)) rfl (Ru.move rfl) rfl ?_
    refine O.val (v := I (((k : Nat) : Int))) rfl (Ru.move rfl) rfl ?_
    have hx6_2 : k < (l).length := (by first | omega | (simp; omega))
    refine O.val (v := .pointer (ofs (A) (k * 2))) rfl (Ru.indexA (j := k) Try.underlying35 el39 rfl rfl (smf encR_len (hA.at hM_l4) hx6_2 rfl) (by omega) (by first | omega | (simp; omega))) rfl ?_
    have hst := hs _ (List.getElem_mem hx6_2)
    refine O.val (v := .pointer (ofs (A) (k * 2 + 0))) rfl (Ru.fieldA fl39_0 rfl (smf encR_len (hA.at hM_l4) hx6_2 rfl)) rfl ?_
    refine O.val rfl (Ru.load1 el3 rfl (ldf encR_len (hA.at hM_l4) hx6_2 rfl)) rfl ?_
    refine O.val (v := S (lastW [] W)) rfl (Ru.move rfl) rfl ?_
    refine O.val (v := I (((lastW [] W).length : Int))) rfl (Ru.slen Try.underlying9 rfl) rfl ?_
    refine O.callg [I (((l)[k]'hx6_2).same), I (0), I (((lastW [] W).length : Int))] rfl en62 rfl rfl (vinRange_fn (((l)[k]'hx6_2).same) 0 ((lastW [] W).length : Int) w_l4 ) ?_
    rintro _ w6_7 ⟨rfl, hR6_7⟩
    have hM6_7 : Mem w w6_7 [] [[⟨.slice (A2) ((W).length) (c2), 9, 1, ((W).length), (W).map S⟩]] := Mem.call (Ma := []) hM_l4 hR6_7 rfl
    refine O.val (v := .bool (!(decide (0 ≤ (((l)[k]'hx6_2).same)) && decide ((((l)[k]'hx6_2).same) ≤ ((lastW [] W).length : Int))))) rfl (Ru.not rfl) rfl ?_
    refine O.val (v := .bool (!(decide (0 ≤ (((l)[k]'hx6_2).same)) && decide ((((l)[k]'hx6_2).same) ≤ ((lastW [] W).length : Int))))) rfl (Ru.move rfl) rfl ?_
    refine O.part 24 (!(decide (0 ≤ (((l)[k]'hx6_2).same)) && decide ((((l)[k]'hx6_2).same) ≤ ((lastW [] W).length : Int)))) rfl (fun g24 => ?_) (fun g24 => ?_)
    · refine O.pass rfl rfl rfl rfl rfl ?_
      refine O.pass rfl rfl rfl rfl rfl ?_
      refine O.pass rfl rfl rfl rfl rfl ?_
      refine O.pass rfl rfl rfl rfl rfl ?_
      refine O.pass rfl rfl rfl rfl rfl ?_
      refine O.pass rfl rfl rfl rfl rfl ?_
      refine O.pass rfl rfl rfl rfl rfl ?_
      refine O.val (v := .bool (true)) rfl (Ru.pickT rfl rfl) rfl ?_
      refine O.nil ?_
      refine C.condT rfl ?_
      refine C.seq ?_
      refine C.region ?_
      refine O.val (v := .slice (none) (0) (0)) rfl (Ru.assign rfl) rfl ?_
      refine O.val (v := .bool (false)) rfl (Ru.assign rfl) rfl ?_
      refine O.nil ?_
      refine C.ret ?_
      refine P2 (v := .slice (none) (0) (0)) (v' := .bool (false)) rfl rfl ?_
      have hn : unpF l = none := unp_none (build_stop hx6_2 hi1_l4 (by simp [okR] at *; omega))
      have hMn1 : Mem w w6_7 [] [[⟨.slice (none) (0) (0), 9, 1, 0, ([]).map S⟩], [⟨.slice (A2) ((W).length) (c2), 9, 1, ((W).length), (W).map S⟩]] := Mem.addNil hM6_7
      have hq2 : [] = (unpF l).getD [] := (by rw [hn]; rfl)
      have hMn2 : Mem w w6_7 [] [[⟨.slice (none) (((unpF l).getD []).length) (0), 9, 1, (((unpF l).getD []).length), ((unpF l).getD []).map S⟩], [⟨.slice (A2) ((W).length) (c2), 9, 1, ((W).length), (W).map S⟩]] := hMn1.relen 0 (n' := ((unpF l).getD []).length) (xs' := ((unpF l).getD []).map S) rfl (by rw [← hq2]; first | done | rfl | simp | (simp; omega)) (by rw [← hq2]) rfl
      exact ⟨none, 0, (by rw [hn]; rfl), (hMn2.pick [0] (by decide) rfl)⟩
    · refine O.val (v := .slice (A) ((l).length) (c)) rfl (Ru.move rfl) rfl ?_
      refine O.val (v := I (((k : Nat) : Int))) rfl (Ru.move rfl) rfl ?_
      have hx6_12 : k < (l).length := (by first | omega | (simp; omega))
      refine O.val (v := .pointer (ofs (A) (k * 2))) rfl (Ru.indexA (j := k) Try.underlying35 el39 rfl rfl (smf encR_len (hA.at hM6_7) hx6_12 rfl) (by omega) (by first | omega | (simp; omega))) rfl ?_
      refine O.val (v := .pointer (ofs (A) (k * 2 + 1))) rfl (Ru.fieldA fl39_1 rfl (smf encR_len (hA.at hM6_7) hx6_12 rfl)) rfl ?_
      refine O.val rfl (Ru.load1 el9 rfl (ldf encR_len (hA.at hM6_7) hx6_12 rfl)) rfl ?_
      refine O.val (v := I (((((l)[k]'hx6_12).tail).length : Int))) rfl (Ru.slen Try.underlying9 rfl) rfl ?_
      refine O.val (v := .bool (decide (((((l)[k]'hx6_12).tail).length : Int) > 8))) rfl (Ru.gtr rfl rfl) rfl ?_
      refine O.val (v := .bool (decide (((((l)[k]'hx6_12).tail).length : Int) > 8))) rfl (Ru.pickF rfl rfl) rfl ?_
      refine O.nil ?_
      refine C.cond (p := ((((l)[k]'hx6_12).tail).length : Int) > 8) rfl (fun c32 => ?_) (fun c32 => ?_)
      · refine C.seq ?_
        refine C.region ?_
        refine O.val (v := .slice (none) (0) (0)) rfl (Ru.assign rfl) rfl ?_
        refine O.val (v := .bool (false)) rfl (Ru.assign rfl) rfl ?_
        refine O.nil ?_
        refine C.ret ?_
        refine P2 (v := .slice (none) (0) (0)) (v' := .bool (false)) rfl rfl ?_
        have hn : unpF l = none := unp_none (build_stop hx6_2 hi1_l4 (by simp [okR] at *; omega))
        have hMn3 : Mem w w6_7 [] [[⟨.slice (none) (0) (0), 9, 1, 0, ([]).map S⟩], [⟨.slice (A2) ((W).length) (c2), 9, 1, ((W).length), (W).map S⟩]] := Mem.addNil hM6_7
        have hq4 : [] = (unpF l).getD [] := (by rw [hn]; rfl)
        have hMn4 : Mem w w6_7 [] [[⟨.slice (none) (((unpF l).getD []).length) (0), 9, 1, (((unpF l).getD []).length), ((unpF l).getD []).map S⟩], [⟨.slice (A2) ((W).length) (c2), 9, 1, ((W).length), (W).map S⟩]] := hMn3.relen 0 (n' := ((unpF l).getD []).length) (xs' := ((unpF l).getD []).map S) rfl (by rw [← hq4]; first | done | rfl | simp | (simp; omega)) (by rw [← hq4]) rfl
        exact ⟨none, 0, (by rw [hn]; rfl), (hMn4.pick [0] (by decide) rfl)⟩
      · have hok : okR (lastW [] W) ((l)[k]'hx6_2) = true := by simp [okR] at *; omega
        have hwl := wordOf_len hok
        have hk8 := hi3_l4.1
        refine C.skip ?_
        refine C.seq ?_
        refine C.draws (fun w2 => Mem w w2 [] [[⟨.slice (A2) ((W).length) (c2), 9, 1, ((W).length), (W).map S⟩]]) mixed (by kernel_rfl) (hM6_7.ext (kdrawn _)) ?_
        refine QO.val (v := S (lastW [] W)) rfl (fun w2 hw2 => Ru.move rfl) rfl ?_
        refine QO.val (v := .slice (A) ((l).length) (c)) rfl (fun w2 hw2 => Ru.move rfl) rfl ?_
        refine QO.val (v := I (((k : Nat) : Int))) rfl (fun w2 hw2 => Ru.move rfl) rfl ?_
        have hx8_3 : k < (l).length := (by first | omega | (simp; omega))
        refine QO.val (v := .pointer (ofs (A) (k * 2))) rfl (fun w2 hw2 => Ru.indexA (j := k) Try.underlying35 el39 rfl rfl (smf encR_len (hA.at hw2) hx8_3 rfl) (by omega) (by first | omega | (simp; omega))) rfl ?_
        refine QO.val (v := .pointer (ofs (A) (k * 2 + 0))) rfl (fun w2 hw2 => Ru.fieldA fl39_0 rfl (smf encR_len (hA.at hw2) hx8_3 rfl)) rfl ?_
        refine QO.val rfl (fun w2 hw2 => Ru.load1 el3 rfl (ldf encR_len (hA.at hw2) hx8_3 rfl)) rfl ?_
        refine QO.val (v := S ((lastW [] W).take ((((l)[k]'hx8_3).same).toNat))) rfl (fun w2 hw2 => Ru.ssliceTo (h := (((l)[k]'hx8_3).same).toNat) Try.underlying9 rfl rfl (by omega) (by first | omega | (simp; omega) | (simp at *; omega))) rfl ?_
        refine QO.val (v := .slice (A) ((l).length) (c)) rfl (fun w2 hw2 => Ru.move rfl) rfl ?_
        refine QO.val (v := I (((k : Nat) : Int))) rfl (fun w2 hw2 => Ru.move rfl) rfl ?_
        have hx8_9 : k < (l).length := (by first | omega | (simp; omega))
        refine QO.val (v := .pointer (ofs (A) (k * 2))) rfl (fun w2 hw2 => Ru.indexA (j := k) Try.underlying35 el39 rfl rfl (smf encR_len (hA.at hw2) hx8_9 rfl) (by omega) (by first | omega | (simp; omega))) rfl ?_
        refine QO.val (v := .pointer (ofs (A) (k * 2 + 1))) rfl (fun w2 hw2 => Ru.fieldA fl39_1 rfl (smf encR_len (hA.at hw2) hx8_9 rfl)) rfl ?_
        refine QO.val rfl (fun w2 hw2 => Ru.load1 el9 rfl (ldf encR_len (hA.at hw2) hx8_9 rfl)) rfl ?_
        refine QO.val (v := S (wordOf (lastW [] W) ((l)[k]'hx6_2))) rfl (fun w2 hw2 => Ru.congr (v := S (((lastW [] W).take ((((l)[k]'hx8_3).same).toNat) ++ ((l)[k]'hx8_9).tail))) (v' := S (wordOf (lastW [] W) ((l)[k]'hx6_2))) (Ru.sadd rfl rfl (by simp; omega)) (rfl)) rfl ?_
        refine QO.val (v := S (wordOf (lastW [] W) ((l)[k]'hx6_2))) rfl (fun w2 hw2 => Ru.assign rfl) rfl ?_
        refine QO.nil ?_
        intro w8d hM8d
        refine C.seq ?_
        refine C.seq ?_
        refine C.draws (fun w2 => Mem w w2 [] [[⟨.slice (A2) ((W).length) (c2), 9, 1, ((W).length), (W).map S⟩]]) mixed (by kernel_rfl) (hM8d.ext (kdrawn _)) ?_
        refine QO.val (v := I (((k : Nat) : Int))) rfl (fun w2 hw2 => Ru.move rfl) rfl ?_
        refine QO.val (v := .bool (decide (((k : Nat) : Int) > 0))) rfl (fun w2 hw2 => Ru.gtr rfl rfl) rfl ?_
        refine QO.val (v := .bool (decide (((k : Nat) : Int) > 0))) rfl (fun w2 hw2 => Ru.move rfl) rfl ?_
        refine QO.partp 48 (((k : Nat) : Int) > 0) rfl (fun g48 => ?_) (fun g48 => ?_)
        · refine QO.val (v := S (lastW [] W)) rfl (fun w2 hw2 => Ru.move rfl) rfl ?_
          refine QO.val (v := S (wordOf (lastW [] W) ((l)[k]'hx6_2))) rfl (fun w2 hw2 => Ru.move rfl) rfl ?_
          refine QO.callg (v := I ((comm (lastW [] W) (wordOf (lastW [] W) ((l)[k]'hx6_2)) : Int))) [S (lastW [] W), S (wordOf (lastW [] W) ((l)[k]'hx6_2))] rfl en48 rfl rfl (fun w2 hw2 => (vcommon_fn (lastW [] W) (wordOf (lastW [] W) ((l)[k]'hx6_2)) w2 (by omega)).mono fun _ _ h => ⟨h.1, Mem.call0 hw2 h.2⟩) ?_
          refine QO.val (v := .slice (A) ((l).length) (c)) rfl (fun w2 hw2 => Ru.move rfl) rfl ?_
          refine QO.val (v := I (((k : Nat) : Int))) rfl (fun w2 hw2 => Ru.move rfl) rfl ?_
          have hx9_8 : k < (l).length := (by first | omega | (simp; omega))
          refine QO.val (v := .pointer (ofs (A) (k * 2))) rfl (fun w2 hw2 => Ru.indexA (j := k) Try.underlying35 el39 rfl rfl (smf encR_len (hA.at hw2) hx9_8 rfl) (by omega) (by first | omega | (simp; omega))) rfl ?_
          refine QO.val (v := .pointer (ofs (A) (k * 2 + 0))) rfl (fun w2 hw2 => Ru.fieldA fl39_0 rfl (smf encR_len (hA.at hw2) hx9_8 rfl)) rfl ?_
          refine QO.val rfl (fun w2 hw2 => Ru.load1 el3 rfl (ldf encR_len (hA.at hw2) hx9_8 rfl)) rfl ?_
          refine QO.val (v := .bool (decide ((comm (lastW [] W) (wordOf (lastW [] W) ((l)[k]'hx6_2)) : Int) ≠ ((l)[k]'hx9_8).same))) rfl (fun w2 hw2 => Ru.neq rfl rfl) rfl ?_
          refine QO.val (v := .bool (decide ((comm (lastW [] W) (wordOf (lastW [] W) ((l)[k]'hx6_2)) : Int) ≠ ((l)[k]'hx9_8).same))) rfl (fun w2 hw2 => Ru.pickT rfl rfl) rfl ?_
          refine QO.val (v := .bool (decide ((comm (lastW [] W) (wordOf (lastW [] W) ((l)[k]'hx6_2)) : Int) ≠ ((l)[k]'hx9_8).same))) rfl (fun w2 hw2 => Ru.move rfl) rfl ?_
          refine QO.partp 59 ((comm (lastW [] W) (wordOf (lastW [] W) ((l)[k]'hx6_2)) : Int) ≠ ((l)[k]'hx9_8).same) rfl (fun g59 => ?_) (fun g59 => ?_)
          · refine QO.pass rfl rfl rfl rfl rfl ?_
            refine QO.pass rfl rfl rfl rfl rfl ?_
            refine QO.val (v := .bool (true)) rfl (fun w2 hw2 => Ru.pickT rfl rfl) rfl ?_
            refine QO.nil ?_
            intro w9d hM9d
            refine C.condT rfl ?_
            refine C.seq ?_
            refine C.region ?_
            refine O.val (v := .slice (none) (0) (0)) rfl (Ru.assign rfl) rfl ?_
            refine O.val (v := .bool (false)) rfl (Ru.assign rfl) rfl ?_
            refine O.nil ?_
            refine C.ret ?_
            refine P2 (v := .slice (none) (0) (0)) (v' := .bool (false)) rfl rfl ?_
            have hn : unpF l = none := by first | exact unp_big (by omega) | exact unp_differ hx6_2 hi1_l4 hok (by simp_all)
            have hMn5 : Mem w w9d [] [[⟨.slice (none) (0) (0), 9, 1, 0, ([]).map S⟩], [⟨.slice (A2) ((W).length) (c2), 9, 1, ((W).length), (W).map S⟩]] := Mem.addNil hM9d
            have hq6 : [] = (unpF l).getD [] := (by rw [hn]; rfl)
            have hMn6 : Mem w w9d [] [[⟨.slice (none) (((unpF l).getD []).length) (0), 9, 1, (((unpF l).getD []).length), ((unpF l).getD []).map S⟩], [⟨.slice (A2) ((W).length) (c2), 9, 1, ((W).length), (W).map S⟩]] := hMn5.relen 0 (n' := ((unpF l).getD []).length) (xs' := ((unpF l).getD []).map S) rfl (by rw [← hq6]; first | done | rfl | simp | (simp; omega)) (by rw [← hq6]) rfl
            exact ⟨none, 0, (by rw [hn]; rfl), (hMn6.pick [0] (by decide) rfl)⟩
          · refine QO.val (v := I (((k : Nat) : Int))) rfl (fun w2 hw2 => Ru.move rfl) rfl ?_
            refine QO.val (v := .bool (decide (((k : Nat) : Int) ≥ 8))) rfl (fun w2 hw2 => Ru.geq rfl rfl) rfl ?_
            refine QO.val (v := .bool (decide (((k : Nat) : Int) ≥ 8))) rfl (fun w2 hw2 => Ru.pickF rfl rfl) rfl ?_
            refine QO.nil ?_
            intro w9d hM9d
            refine C.cond (p := ((k : Nat) : Int) ≥ 8) rfl (fun c62 => ?_) (fun c62 => ?_)
            · refine C.seq ?_
              refine C.region ?_
              refine O.val (v := .slice (none) (0) (0)) rfl (Ru.assign rfl) rfl ?_
              refine O.val (v := .bool (false)) rfl (Ru.assign rfl) rfl ?_
              refine O.nil ?_
              refine C.ret ?_
              refine P2 (v := .slice (none) (0) (0)) (v' := .bool (false)) rfl rfl ?_
              have hn : unpF l = none := by first | exact unp_big (by omega) | exact unp_differ hx6_2 hi1_l4 hok (by simp_all)
              have hMn7 : Mem w w9d [] [[⟨.slice (none) (0) (0), 9, 1, 0, ([]).map S⟩], [⟨.slice (A2) ((W).length) (c2), 9, 1, ((W).length), (W).map S⟩]] := Mem.addNil hM9d
              have hq8 : [] = (unpF l).getD [] := (by rw [hn]; rfl)
              have hMn8 : Mem w w9d [] [[⟨.slice (none) (((unpF l).getD []).length) (0), 9, 1, (((unpF l).getD []).length), ((unpF l).getD []).map S⟩], [⟨.slice (A2) ((W).length) (c2), 9, 1, ((W).length), (W).map S⟩]] := hMn7.relen 0 (n' := ((unpF l).getD []).length) (xs' := ((unpF l).getD []).map S) rfl (by rw [← hq8]; first | done | rfl | simp | (simp; omega)) (by rw [← hq8]) rfl
              exact ⟨none, 0, (by rw [hn]; rfl), (hMn8.pick [0] (by decide) rfl)⟩
            · have hcm := comm_told hWl hok (fun h0 => by omega)
              refine C.skip ?_
              refine C.seq ?_
              refine C.region ?_
              refine O.val (v := .slice (A2) ((W).length) (c2)) rfl (Ru.move rfl) rfl ?_
              refine O.val (v := S (wordOf (lastW [] W) ((l)[k]'hx6_2))) rfl (Ru.move rfl) rfl ?_
              refine O.mlit (sz := 1) (cs := [S (wordOf (lastW [] W) ((l)[k]'hx6_2))]) hM9d rfl Try.underlying24 el9 rfl rfl rfl (by kernel_rfl) (by kernel_rfl) rfl rfl (fun w11_2 b11_2 hb11_2 (hM11_2 : Mem w w11_2 [] [[⟨.slice (bl b11_2) (1) (1), 9, 1, 1, ([wordOf (lastW [] W) ((l)[k]'hx6_2)]).map S⟩], [⟨.slice (A2) ((W).length) (c2), 9, 1, ((W).length), (W).map S⟩]]) => ?_)
              refine O.mappend (sz := 1) (news := ([wordOf (lastW [] W) ((l)[k]'hx6_2)]).map S) (m1 := (W ++ [wordOf (lastW [] W) ((l)[k]'hx6_2)]).length) (xs1 := (W ++ [wordOf (lastW [] W) ((l)[k]'hx6_2)]).map S) (M' := fun A11_3 c11_3 => [[⟨.slice (bl b11_2) (1) (1), 9, 1, 1, ([wordOf (lastW [] W) ((l)[k]'hx6_2)]).map S⟩], [⟨.slice (A11_3) ((W ++ [wordOf (lastW [] W) ((l)[k]'hx6_2)]).length) (c11_3), 9, 1, ((W ++ [wordOf (lastW [] W) ((l)[k]'hx6_2)]).length), (W ++ [wordOf (lastW [] W) ((l)[k]'hx6_2)]).map S⟩]]) 1 0 hM11_2 rfl rfl rfl Try.underlying24 el9 ⟨rfl, by decide⟩ rfl rfl rfl (hM11_2.rd 0 rfl) (by first | (simp; done) | (simp; omega)) (all_map_one (fun _ => rfl) _) (by first | omega | (simp; omega)) (by first | omega | (simp; omega)) (by first | (simp; done) | (simp; omega)) (by simp) (fun _ _ => rfl) (fun w11_3 A11_3 c11_3 hc11_3 hM11_3 => ?_)
              try dsimp only at hM11_3
              refine O.val (v := .slice (A11_3) ((W ++ [wordOf (lastW [] W) ((l)[k]'hx6_2)]).length) (c11_3)) rfl (Ru.assign rfl) rfl ?_
              refine O.nil ?_
              refine C.region ?_
              refine O.val (v := S (wordOf (lastW [] W) ((l)[k]'hx6_2))) rfl (Ru.move rfl) rfl ?_
              refine O.val (v := S (wordOf (lastW [] W) ((l)[k]'hx6_2))) rfl (Ru.assign rfl) rfl ?_
              refine O.nil ?_
              refine C.region ?_
              refine O.val (v := I (((k : Nat) : Int))) rfl (Ru.move rfl) rfl ?_
              refine O.val (v := I ((((k + 1) : Nat) : Int))) rfl (Ru.congr (v := I ((((k : Nat) : Int) + 1))) (v' := I ((((k + 1) : Nat) : Int))) (Ru.add rfl rfl (by omega)) (I_congr (by first | omega | simp))) rfl ?_
              refine O.val (v := I ((((k + 1) : Nat) : Int))) rfl (Ru.assign rfl) rfl ?_
              refine O.nil ?_
              exact loopEnd (k + 1, W ++ [wordOf (lastW [] W) ((l)[k]'hx6_2)], A11_3, c11_3) (by (try dsimp only); omega) (Has.cons rfl (Has.cons rfl (Has.cons (S_congr (lastW_snoc _ _ _).symm) (Has.cons (I_congr (by first | rfl | omega | (simp; omega) | simp)) Has.nil)))) ⟨(by (try dsimp only); omega), (build_step hx6_2 hi1_l4 hok), (⟨by intro s hs; rcases List.mem_append.1 hs with hs | hs; (have := hlw.1 s hs; omega); simp at hs; subst hs; omega, by rw [lastW_snoc]; omega⟩), ⟨by omega, pack_step hx6_2 (by rw [build_len _ _ _ hi1_l4]; simp; omega) hi3_l4.2 hok (by simpa using hcm)⟩, (hM11_3.pick [1] (by decide) rfl)⟩
        · refine QO.pass rfl rfl rfl rfl rfl ?_
          refine QO.pass rfl rfl rfl rfl rfl ?_
          refine QO.pass rfl rfl rfl rfl rfl ?_
          refine QO.pass rfl rfl rfl rfl rfl ?_
          refine QO.pass rfl rfl rfl rfl rfl ?_
          refine QO.pass rfl rfl rfl rfl rfl ?_
          refine QO.pass rfl rfl rfl rfl rfl ?_
          refine QO.pass rfl rfl rfl rfl rfl ?_
          refine QO.pass rfl rfl rfl rfl rfl ?_
          refine QO.val (v := .bool (false)) rfl (fun w2 hw2 => Ru.pickF rfl rfl) rfl ?_
          refine QO.val (v := .bool (false)) rfl (fun w2 hw2 => Ru.move rfl) rfl ?_
          refine QO.val (v := I (((k : Nat) : Int))) rfl (fun w2 hw2 => Ru.move rfl) rfl ?_
          refine QO.val (v := .bool (decide (((k : Nat) : Int) ≥ 8))) rfl (fun w2 hw2 => Ru.geq rfl rfl) rfl ?_
          refine QO.val (v := .bool (decide (((k : Nat) : Int) ≥ 8))) rfl (fun w2 hw2 => Ru.pickF rfl rfl) rfl ?_
          refine QO.nil ?_
          intro w9d hM9d
          refine C.cond (p := ((k : Nat) : Int) ≥ 8) rfl (fun c62 => ?_) (fun c62 => ?_)
          · refine C.seq ?_
            refine C.region ?_
            refine O.val (v := .slice (none) (0) (0)) rfl (Ru.assign rfl) rfl ?_
            refine O.val (v := .bool (false)) rfl (Ru.assign rfl) rfl ?_
            refine O.nil ?_
            refine C.ret ?_
            refine P2 (v := .slice (none) (0) (0)) (v' := .bool (false)) rfl rfl ?_
            have hn : unpF l = none := by first | exact unp_big (by omega) | exact unp_differ hx6_2 hi1_l4 hok (by simp_all)
            have hMn9 : Mem w w9d [] [[⟨.slice (none) (0) (0), 9, 1, 0, ([]).map S⟩], [⟨.slice (A2) ((W).length) (c2), 9, 1, ((W).length), (W).map S⟩]] := Mem.addNil hM9d
            have hq10 : [] = (unpF l).getD [] := (by rw [hn]; rfl)
            have hMn10 : Mem w w9d [] [[⟨.slice (none) (((unpF l).getD []).length) (0), 9, 1, (((unpF l).getD []).length), ((unpF l).getD []).map S⟩], [⟨.slice (A2) ((W).length) (c2), 9, 1, ((W).length), (W).map S⟩]] := hMn9.relen 0 (n' := ((unpF l).getD []).length) (xs' := ((unpF l).getD []).map S) rfl (by rw [← hq10]; first | done | rfl | simp | (simp; omega)) (by rw [← hq10]) rfl
            exact ⟨none, 0, (by rw [hn]; rfl), (hMn10.pick [0] (by decide) rfl)⟩
          · have hcm := comm_told hWl hok (fun h0 => by omega)
            refine C.skip ?_
            refine C.seq ?_
            refine C.region ?_
            refine O.val (v := .slice (A2) ((W).length) (c2)) rfl (Ru.move rfl) rfl ?_
            refine O.val (v := S (wordOf (lastW [] W) ((l)[k]'hx6_2))) rfl (Ru.move rfl) rfl ?_
            refine O.mlit (sz := 1) (cs := [S (wordOf (lastW [] W) ((l)[k]'hx6_2))]) hM9d rfl Try.underlying24 el9 rfl rfl rfl (by kernel_rfl) (by kernel_rfl) rfl rfl (fun w11_2 b11_2 hb11_2 (hM11_2 : Mem w w11_2 [] [[⟨.slice (bl b11_2) (1) (1), 9, 1, 1, ([wordOf (lastW [] W) ((l)[k]'hx6_2)]).map S⟩], [⟨.slice (A2) ((W).length) (c2), 9, 1, ((W).length), (W).map S⟩]]) => ?_)
            refine O.mappend (sz := 1) (news := ([wordOf (lastW [] W) ((l)[k]'hx6_2)]).map S) (m1 := (W ++ [wordOf (lastW [] W) ((l)[k]'hx6_2)]).length) (xs1 := (W ++ [wordOf (lastW [] W) ((l)[k]'hx6_2)]).map S) (M' := fun A11_3 c11_3 => [[⟨.slice (bl b11_2) (1) (1), 9, 1, 1, ([wordOf (lastW [] W) ((l)[k]'hx6_2)]).map S⟩], [⟨.slice (A11_3) ((W ++ [wordOf (lastW [] W) ((l)[k]'hx6_2)]).length) (c11_3), 9, 1, ((W ++ [wordOf (lastW [] W) ((l)[k]'hx6_2)]).length), (W ++ [wordOf (lastW [] W) ((l)[k]'hx6_2)]).map S⟩]]) 1 0 hM11_2 rfl rfl rfl Try.underlying24 el9 ⟨rfl, by decide⟩ rfl rfl rfl (hM11_2.rd 0 rfl) (by first | (simp; done) | (simp; omega)) (all_map_one (fun _ => rfl) _) (by first | omega | (simp; omega)) (by first | omega | (simp; omega)) (by first | (simp; done) | (simp; omega)) (by simp) (fun _ _ => rfl) (fun w11_3 A11_3 c11_3 hc11_3 hM11_3 => ?_)
            try dsimp only at hM11_3
            refine O.val (v := .slice (A11_3) ((W ++ [wordOf (lastW [] W) ((l)[k]'hx6_2)]).length) (c11_3)) rfl (Ru.assign rfl) rfl ?_
            refine O.nil ?_
            refine C.region ?_
            refine O.val (v := S (wordOf (lastW [] W) ((l)[k]'hx6_2))) rfl (Ru.move rfl) rfl ?_
            refine O.val (v := S (wordOf (lastW [] W) ((l)[k]'hx6_2))) rfl (Ru.assign rfl) rfl ?_
            refine O.nil ?_
            refine C.region ?_
            refine O.val (v := I (((k : Nat) : Int))) rfl (Ru.move rfl) rfl ?_
            refine O.val (v := I ((((k + 1) : Nat) : Int))) rfl (Ru.congr (v := I ((((k : Nat) : Int) + 1))) (v' := I ((((k + 1) : Nat) : Int))) (Ru.add rfl rfl (by omega)) (I_congr (by first | omega | simp))) rfl ?_
            refine O.val (v := I ((((k + 1) : Nat) : Int))) rfl (Ru.assign rfl) rfl ?_
            refine O.nil ?_
            exact loopEnd (k + 1, W ++ [wordOf (lastW [] W) ((l)[k]'hx6_2)], A11_3, c11_3) (by (try dsimp only); omega) (Has.cons rfl (Has.cons rfl (Has.cons (S_congr (lastW_snoc _ _ _).symm) (Has.cons (I_congr (by first | rfl | omega | (simp; omega) | simp)) Has.nil)))) ⟨(by (try dsimp only); omega), (build_step hx6_2 hi1_l4 hok), (⟨by intro s hs; rcases List.mem_append.1 hs with hs | hs; (have := hlw.1 s hs; omega); simp at hs; subst hs; omega, by rw [lastW_snoc]; omega⟩), ⟨by omega, pack_step hx6_2 (by rw [build_len _ _ _ hi1_l4]; simp; omega) hi3_l4.2 hok (by simpa using hcm)⟩, (hM11_3.pick [1] (by decide) rfl)⟩
  · have hke : k = l.length := by omega
    subst hke
    rw [List.take_length] at hi1_l4 hi3_l4
    have hW : W.length = l.length := build_len _ _ _ hi1_l4
    have hk8 := hi3_l4.1
    refine C.exit ?_
    refine C.seq ?_
    refine C.seq ?_
    refine C.region ?_
    refine O.val (v := .slice (A2) ((W).length) (c2)) rfl (Ru.move rfl) rfl ?_
    refine O.callg [.slice (A2) ((W).length) (c2)] rfl en52 rfl rfl (vvalidWords_fn A2 c2 W w_l4 (hM_l4.rd 0 rfl) (by first | omega | assumption | (simp; omega) | simp | (intros; omega)) (by intro s hs; have := hlw.1 s hs; omega)) ?_
    rintro _ w13_1 ⟨rfl, hR13_1⟩
    have hM13_1 : Mem w w13_1 [] [[⟨.slice (A2) ((W).length) (c2), 9, 1, ((W).length), (W).map S⟩]] := Mem.call (Ma := []) hM_l4 hR13_1 rfl
    refine O.val (v := .bool (!(validW W))) rfl (Ru.not rfl) rfl ?_
    refine O.nil ?_
    refine C.condn (b := (validW W)) rfl (fun c70 => ?_) (fun c70 => ?_)
    · refine C.seq ?_
      refine C.region ?_
      refine O.val (v := .slice (none) (0) (0)) rfl (Ru.assign rfl) rfl ?_
      refine O.val (v := .bool (false)) rfl (Ru.assign rfl) rfl ?_
      refine O.nil ?_
      refine C.ret ?_
      refine P2 (v := .slice (none) (0) (0)) (v' := .bool (false)) rfl rfl ?_
      have hn : unpF l = none := by rw [unp_end hi1_l4 hk8, if_neg (by simp_all)]
      have hMn11 : Mem w w13_1 [] [[⟨.slice (none) (0) (0), 9, 1, 0, ([]).map S⟩], [⟨.slice (A2) ((W).length) (c2), 9, 1, ((W).length), (W).map S⟩]] := Mem.addNil hM13_1
      have hq12 : [] = (unpF l).getD [] := (by rw [hn]; rfl)
      have hMn12 : Mem w w13_1 [] [[⟨.slice (none) (((unpF l).getD []).length) (0), 9, 1, (((unpF l).getD []).length), ((unpF l).getD []).map S⟩], [⟨.slice (A2) ((W).length) (c2), 9, 1, ((W).length), (W).map S⟩]] := hMn11.relen 0 (n' := ((unpF l).getD []).length) (xs' := ((unpF l).getD []).map S) rfl (by rw [← hq12]; first | done | rfl | simp | (simp; omega)) (by rw [← hq12]) rfl
      exact ⟨none, 0, (by rw [hn]; rfl), (hMn12.pick [0] (by decide) rfl)⟩
    · refine C.skip ?_
      refine C.seq ?_
      refine C.region ?_
      refine O.val (v := .slice (A2) ((W).length) (c2)) rfl (Ru.move rfl) rfl ?_
      refine O.val (v := .slice (A2) ((W).length) (c2)) rfl (Ru.assign rfl) rfl ?_
      refine O.val (v := .bool (true)) rfl (Ru.assign rfl) rfl ?_
      refine O.nil ?_
      refine C.ret ?_
      refine P2 (v := .slice (A2) ((W).length) (c2)) (v' := .bool (true)) rfl rfl ?_
      have hn : unpF l = some W := by rw [unp_end hi1_l4 hk8, packF_yes (by simp_all), hi3_l4.2, if_pos (by simp_all)]
      have hq13 : W = (unpF l).getD [] := (by rw [hn]; rfl)
      have hMn13 : Mem w w13_1 [] [[⟨.slice (A2) (((unpF l).getD []).length) (c2), 9, 1, (((unpF l).getD []).length), ((unpF l).getD []).map S⟩]] := hM13_1.relen 0 (n' := ((unpF l).getD []).length) (xs' := ((unpF l).getD []).map S) rfl (by rw [← hq13]; first | done | rfl | simp | (simp; omega)) (by rw [← hq13]) rfl
      exact ⟨A2, c2, (by rw [hn]; rfl), (hMn13.pick [0] (by decide) rfl)⟩

theorem vmarkStringS_fn (A : Option Addr) (c : Nat) (l : List Str) (k : Nat) (w : World) (hM : Mem w w [(Value.slice (A) ((l).length) (c)).ownBlock] [[⟨.slice (A) ((l).length) (c), 9, 1, ((l).length), (l).map S⟩]]) (hl : l.length ≤ 1073741824) (hk0 : k ≤ 1099511627776) :
    Does Try.prog 37 [.slice (A) ((l).length) (c), I (((k : Nat) : Int))] w (fun v w1 => v = I (((k + l.length : Nat) : Int)) ∧ Mem w w1 [(Value.slice (A) ((l).length) (c)).ownBlock] [[⟨.slice (A) ((l).length) (c), 9, 1, ((l).length), (mkS k (l).length).map S⟩]]) := (markStringS_fn A c l k 0 w (hM.get (i := 0) (j := 0) rfl rfl) hl hk0).mono fun v w1 h => ⟨h.1, Mem.upd hM (i := 0) (j := 0) rfl rfl h.2.2 h.2.1 (.inl rfl)⟩

theorem vmarkRestS_fn (A : Option Addr) (c : Nat) (l : List RestT) (k : Nat) (w : World) (hM : Mem w w [(Value.slice (A) ((l).length) (c)).ownBlock] [[⟨.slice (A) ((l).length) (c), 39, 2, ((l).length), (l).flatMap encR⟩]]) (hl : l.length ≤ 1073741824) (hk0 : k ≤ 1099511627776) :
    Does Try.prog 38 [.slice (A) ((l).length) (c), I (((k : Nat) : Int))] w (fun v w1 => v = I (((k + 2 * l.length : Nat) : Int)) ∧ Mem w w1 [(Value.slice (A) ((l).length) (c)).ownBlock] [[⟨.slice (A) ((l).length) (c), 39, 2, ((l).length), (mkR k (l).length).flatMap encR⟩]]) := (markRestS_fn A c l k 0 w (hM.get (i := 0) (j := 0) rfl rfl) hl hk0).mono fun v w1 h => ⟨h.1, Mem.upd hM (i := 0) (j := 0) rfl rfl h.2.2 h.2.1 (.inl rfl)⟩
end Go.Proofs.Ytekfncmhinbghaa.V
