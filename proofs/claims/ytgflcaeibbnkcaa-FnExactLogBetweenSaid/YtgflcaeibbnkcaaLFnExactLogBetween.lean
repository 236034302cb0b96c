/- The statement Rows.FnExactLogBetweenSaid: the Go function laws.FnExactLogBetween returns true for every input, and each argument reads afterwards as it read before. No conditions. -/
import Derived.Test.YtgflcaeibbnkcaaRows
import Derived.Test.YtgflcaeibbnkcaaPxO
import Derived.Test.YtgflcaeibbnkcaaLI
import Derived.Test.YtgflcaeibbnkcaaH0
import Derived.WalkKit
import Derived.ProofKit
import Derived.OpenShut
import Derived.ShutString
import Derived.ChangeOld
import Derived.SliceStrings
import Derived.Deep.Slices
import Derived.Deep.Fields
import Derived.ChangeSame
import Derived.Below
set_option linter.unusedVariables false
set_option linter.unusedSimpArgs false
namespace Go.Proofs.Ytgflcaeibbnkcaa
open Go.Px
set_option linter.unusedVariables false
theorem FnExactLogBetween_fn (A : Option Addr) (c : Nat) (a : List PairT) (B : Option Addr) (d : Nat) (b : List PairT) (w : World) (hA : Rd w A ((a).flatMap encP)) (hB : Rd w B ((b).flatMap encP)) (ha : a.length ≤ 9223372036854775807) (hb : b.length ≤ 9223372036854775807) :
    Does Try.prog 9 [.slice (A) ((a).length) (c), .slice (B) ((b).length) (d)] w (fun v w1 => v = .bool (true) ∧ Mem w w1 [] []) := by
  have hM : Mem w w [] [] := Mem.refl
  refine Does.enter1 Try.func9 rfl Try.results9 Try.ntmps9 rfl ?_
  refine C.seq ?_
  refine C.region ?_
  refine O.val (v := .bool (false)) rfl (Ru.assign rfl) rfl ?_
  refine O.nil ?_
  refine C.seq ?_
  refine C.region ?_
  refine O.val (v := I (1048576)) rfl (Ru.assign rfl) rfl ?_
  refine O.nil ?_
  refine C.seq ?_
  refine C.region ?_
  refine O.val (v := .slice (A) ((a).length) (c)) rfl (Ru.move rfl) rfl ?_
  refine O.val (v := I (1048576)) rfl (Ru.move rfl) rfl ?_
  refine O.callg [.slice (A) ((a).length) (c), I (1048576)] rfl en34 rfl rfl (szPairS_fn A c a 1048576 w (hA.at hM) (by first | omega | assumption | (simp; omega) | simp | (intros; omega)) (by first | omega | assumption | (simp; omega) | simp | (intros; omega))) ?_
  rintro _ w2_2 ⟨rfl, hR2_2⟩
  have hM2_2 : Mem w w2_2 [] [] := Mem.call (Ma := []) hM hR2_2 rfl
  refine O.val (v := I ((if 1048576 < (a.length : Int) then (-1 : Int) else 1048576 - (a.length : Int)))) rfl (Ru.assign rfl) rfl ?_
  refine O.nil ?_
  refine C.seq ?_
  refine C.seq ?_
  refine C.region ?_
  refine O.val (v := I ((if 1048576 < (a.length : Int) then (-1 : Int) else 1048576 - (a.length : Int)))) rfl (Ru.move rfl) rfl ?_
  refine O.val (v := .bool (decide ((if 1048576 < (a.length : Int) then (-1 : Int) else 1048576 - (a.length : Int)) < 0))) rfl (Ru.lss rfl rfl) rfl ?_
  refine O.nil ?_
  refine C.cond (p := (if 1048576 < (a.length : Int) then (-1 : Int) else 1048576 - (a.length : Int)) < 0) rfl (fun c18 => ?_) (fun c18 => ?_)
  · refine C.seq ?_
    refine C.region ?_
    refine O.val (v := .bool (true)) rfl (Ru.assign rfl) rfl ?_
    refine O.nil ?_
    refine C.ret ?_
    refine P1 (v := .bool (true)) rfl ?_
    exact ⟨rfl, (Mem.none hM2_2)⟩
  · have hz1 : a.length ≤ 1048576 := by split at c18 <;> omega
    refine C.skip ?_
    refine C.seq ?_
    refine C.region ?_
    refine O.val (v := .slice (B) ((b).length) (d)) rfl (Ru.move rfl) rfl ?_
    refine O.val (v := I ((if 1048576 < (a.length : Int) then (-1 : Int) else 1048576 - (a.length : Int)))) rfl (Ru.move rfl) rfl ?_
    refine O.callg [.slice (B) ((b).length) (d), I ((if 1048576 < (a.length : Int) then (-1 : Int) else 1048576 - (a.length : Int)))] rfl en34 rfl rfl (szPairS_fn B d b (if 1048576 < (a.length : Int) then (-1 : Int) else 1048576 - (a.length : Int)) w2_2 (hB.at hM2_2) (by first | omega | assumption | (simp; omega) | simp | (intros; omega)) (by constructor <;> split <;> omega)) ?_
    rintro _ w5_2 ⟨rfl, hR5_2⟩
    have hM5_2 : Mem w w5_2 [] [] := Mem.call (Ma := []) hM2_2 hR5_2 rfl
    refine O.val (v := I ((if (if 1048576 < (a.length : Int) then (-1 : Int) else 1048576 - (a.length : Int)) < (b.length : Int) then (-1 : Int) else (if 1048576 < (a.length : Int) then (-1 : Int) else 1048576 - (a.length : Int)) - (b.length : Int)))) rfl (Ru.assign rfl) rfl ?_
    refine O.nil ?_
    refine C.seq ?_
    refine C.seq ?_
    refine C.region ?_
    refine O.val (v := I ((if (if 1048576 < (a.length : Int) then (-1 : Int) else 1048576 - (a.length : Int)) < (b.length : Int) then (-1 : Int) else (if 1048576 < (a.length : Int) then (-1 : Int) else 1048576 - (a.length : Int)) - (b.length : Int)))) rfl (Ru.move rfl) rfl ?_
    refine O.val (v := .bool (decide ((if (if 1048576 < (a.length : Int) then (-1 : Int) else 1048576 - (a.length : Int)) < (b.length : Int) then (-1 : Int) else (if 1048576 < (a.length : Int) then (-1 : Int) else 1048576 - (a.length : Int)) - (b.length : Int)) < 0))) rfl (Ru.lss rfl rfl) rfl ?_
    refine O.nil ?_
    refine C.cond (p := (if (if 1048576 < (a.length : Int) then (-1 : Int) else 1048576 - (a.length : Int)) < (b.length : Int) then (-1 : Int) else (if 1048576 < (a.length : Int) then (-1 : Int) else 1048576 - (a.length : Int)) - (b.length : Int)) < 0) rfl (fun c23 => ?_) (fun c23 => ?_)
    · refine C.seq ?_
      refine C.region ?_
      refine O.val (v := .bool (true)) rfl (Ru.assign rfl) rfl ?_
      refine O.nil ?_
      refine C.ret ?_
      refine P1 (v := .bool (true)) rfl ?_
      exact ⟨rfl, (Mem.none hM5_2)⟩
    · have h8 : (if (1048576 : Int) < (a.length : Int) then -1 else 1048576 - (a.length : Int)) = 1048576 - (a.length : Int) := if_neg (by omega)
      have hz2 : b.length ≤ 1048576 := by rw [h8] at c23; split at c23 <;> omega
      have hll := lbF_len (a := a) (b := b)
      refine C.skip ?_
      refine C.seq ?_
      refine C.region ?_
      refine O.val (v := .slice (A) ((a).length) (c)) rfl (Ru.move rfl) rfl ?_
      refine O.callg [.slice (A) ((a).length) (c)] rfl en35 rfl rfl (toPairS_fn A c a w5_2 (hA.at hM5_2) (by first | omega | assumption | (simp; omega) | simp | (intros; omega))) ?_
      rintro _ w8_1 ⟨A18_1, c18_1, rfl, hR8_1⟩
      have hM8_1 : Mem w w8_1 [] [[⟨.slice (A18_1) ((a).length) (c18_1), 53, 2, ((a).length), (a).flatMap encP⟩]] := Mem.call (Ma := []) hM5_2 hR8_1 rfl
      have hcr8_1_0 := (hM8_1.cap 0 rfl).1
      refine O.val (v := .slice (B) ((b).length) (d)) rfl (Ru.move rfl) rfl ?_
      refine O.callg [.slice (B) ((b).length) (d)] rfl en35 rfl rfl (toPairS_fn B d b w8_1 (hB.at hM8_1) (by first | omega | assumption | (simp; omega) | simp | (intros; omega))) ?_
      rintro _ w8_3 ⟨A18_3, c18_3, rfl, hR8_3⟩
      have hM8_3 : Mem w w8_3 [] [[⟨.slice (A18_3) ((b).length) (c18_3), 53, 2, ((b).length), (b).flatMap encP⟩], [⟨.slice (A18_1) ((a).length) (c18_1), 53, 2, ((a).length), (a).flatMap encP⟩]] := Mem.call (Ma := []) hM8_1 hR8_3 rfl
      have hcr8_3_0 := (hM8_3.cap 0 rfl).1
      refine O.callg [.slice (A18_1) ((a).length) (c18_1), .slice (A18_3) ((b).length) (c18_3)] rfl en32 rfl rfl (sLogBetween_fn A18_1 c18_1 a A18_3 c18_3 b w8_3 (hM8_3.rd 1 rfl) (hM8_3.rd 0 rfl) (by first | omega | assumption | (simp; omega) | simp | (intros; omega)) (by first | omega | assumption | (simp; omega) | simp | (intros; omega))) ?_
      rintro _ w8_4 ⟨A18_4, c18_4, rfl, hR8_4⟩
      have hM8_4 : Mem w w8_4 [] [[⟨.slice (A18_4) ((lbF a b).length) (c18_4), 34, 3, ((lbF a b).length), (lbF a b).flatMap encG⟩], [⟨.slice (A18_3) ((b).length) (c18_3), 53, 2, ((b).length), (b).flatMap encP⟩], [⟨.slice (A18_1) ((a).length) (c18_1), 53, 2, ((a).length), (a).flatMap encP⟩]] := Mem.call (Ma := []) hM8_3 hR8_4 rfl
      have hcr8_4_0 := (hM8_4.cap 0 rfl).1
      refine O.val (v := .slice (A18_4) ((lbF a b).length) (c18_4)) rfl (Ru.assign rfl) rfl ?_
      refine O.nil ?_
      refine C.seq ?_
      refine C.region ?_
      refine O.val (v := .slice (A) ((a).length) (c)) rfl (Ru.move rfl) rfl ?_
      refine O.callg [.slice (A) ((a).length) (c)] rfl en35 rfl rfl (toPairS_fn A c a w8_4 (hA.at hM8_4) (by first | omega | assumption | (simp; omega) | simp | (intros; omega))) ?_
      rintro _ w9_1 ⟨A19_1, c19_1, rfl, hR9_1⟩
      have hM9_1 : Mem w w9_1 [] [[⟨.slice (A19_1) ((a).length) (c19_1), 53, 2, ((a).length), (a).flatMap encP⟩], [⟨.slice (A18_4) ((lbF a b).length) (c18_4), 34, 3, ((lbF a b).length), (lbF a b).flatMap encG⟩], [⟨.slice (A18_3) ((b).length) (c18_3), 53, 2, ((b).length), (b).flatMap encP⟩], [⟨.slice (A18_1) ((a).length) (c18_1), 53, 2, ((a).length), (a).flatMap encP⟩]] := Mem.call (Ma := []) hM8_4 hR9_1 rfl
      have hcr9_1_0 := (hM9_1.cap 0 rfl).1
      refine O.val (v := .slice (A19_1) ((a).length) (c19_1)) rfl (Ru.assign rfl) rfl ?_
      refine O.nil ?_
      refine C.seq ?_
      refine C.region ?_
      refine O.val (v := .slice (B) ((b).length) (d)) rfl (Ru.move rfl) rfl ?_
      refine O.callg [.slice (B) ((b).length) (d)] rfl en35 rfl rfl (toPairS_fn B d b w9_1 (hB.at hM9_1) (by first | omega | assumption | (simp; omega) | simp | (intros; omega))) ?_
      rintro _ w10_1 ⟨A110_1, c110_1, rfl, hR10_1⟩
      have hM10_1 : Mem w w10_1 [] [[⟨.slice (A110_1) ((b).length) (c110_1), 53, 2, ((b).length), (b).flatMap encP⟩], [⟨.slice (A19_1) ((a).length) (c19_1), 53, 2, ((a).length), (a).flatMap encP⟩], [⟨.slice (A18_4) ((lbF a b).length) (c18_4), 34, 3, ((lbF a b).length), (lbF a b).flatMap encG⟩], [⟨.slice (A18_3) ((b).length) (c18_3), 53, 2, ((b).length), (b).flatMap encP⟩], [⟨.slice (A18_1) ((a).length) (c18_1), 53, 2, ((a).length), (a).flatMap encP⟩]] := Mem.call (Ma := []) hM9_1 hR10_1 rfl
      have hcr10_1_0 := (hM10_1.cap 0 rfl).1
      refine O.val (v := .slice (A110_1) ((b).length) (c110_1)) rfl (Ru.assign rfl) rfl ?_
      refine O.nil ?_
      refine C.seq ?_
      refine C.region ?_
      refine O.val (v := .slice (A19_1) ((a).length) (c19_1)) rfl (Ru.move rfl) rfl ?_
      refine O.val (v := .slice (A110_1) ((b).length) (c110_1)) rfl (Ru.move rfl) rfl ?_
      refine O.callg [.slice (A19_1) ((a).length) (c19_1), .slice (A110_1) ((b).length) (c110_1)] rfl en31 rfl rfl (LogBetween_fn A19_1 c19_1 a A110_1 c110_1 b w10_1 (hM10_1.rd 1 rfl) (hM10_1.rd 0 rfl) (by first | omega | assumption | (simp; omega) | simp | (intros; omega)) (by first | omega | assumption | (simp; omega) | simp | (intros; omega)) (by first | omega | assumption | (simp; omega) | simp | (intros; omega)) (by first | omega | assumption | (simp; omega) | simp | (intros; omega))) ?_
      rintro _ w11_2 ⟨A111_2, c111_2, rfl, hR11_2⟩
      have hM11_2 : Mem w w11_2 [] [[⟨.slice (A111_2) ((lbF a b).length) (c111_2), 34, 3, ((lbF a b).length), (lbF a b).flatMap encG⟩], [⟨.slice (A110_1) ((b).length) (c110_1), 53, 2, ((b).length), (b).flatMap encP⟩], [⟨.slice (A19_1) ((a).length) (c19_1), 53, 2, ((a).length), (a).flatMap encP⟩], [⟨.slice (A18_4) ((lbF a b).length) (c18_4), 34, 3, ((lbF a b).length), (lbF a b).flatMap encG⟩], [⟨.slice (A18_3) ((b).length) (c18_3), 53, 2, ((b).length), (b).flatMap encP⟩], [⟨.slice (A18_1) ((a).length) (c18_1), 53, 2, ((a).length), (a).flatMap encP⟩]] := Mem.call (Ma := []) hM10_1 hR11_2 rfl
      have hcr11_2_0 := (hM11_2.cap 0 rfl).1
      refine O.val (v := .slice (A111_2) ((lbF a b).length) (c111_2)) rfl (Ru.assign rfl) rfl ?_
      refine O.nil ?_
      refine C.seq ?_
      refine C.seq ?_
      refine C.region ?_
      refine O.val (v := .slice (A111_2) ((lbF a b).length) (c111_2)) rfl (Ru.move rfl) rfl ?_
      refine O.val (v := .slice (A18_4) ((lbF a b).length) (c18_4)) rfl (Ru.move rfl) rfl ?_
      refine O.callg [.slice (A111_2) ((lbF a b).length) (c111_2), .slice (A18_4) ((lbF a b).length) (c18_4)] rfl en23 rfl rfl (eqRecordS_fn A111_2 c111_2 (lbF a b) A18_4 c18_4 (lbF a b) w11_2 (hM11_2.rd 0 rfl) (hM11_2.rd 3 rfl) (by omega)) ?_
      rintro _ w12_2 ⟨hv12_2, hR12_2⟩
      obtain rfl : _ = Value.bool true := hv12_2.trans (by simp)
      have hM12_2 : Mem w w12_2 [] [[⟨.slice (A111_2) ((lbF a b).length) (c111_2), 34, 3, ((lbF a b).length), (lbF a b).flatMap encG⟩], [⟨.slice (A110_1) ((b).length) (c110_1), 53, 2, ((b).length), (b).flatMap encP⟩], [⟨.slice (A19_1) ((a).length) (c19_1), 53, 2, ((a).length), (a).flatMap encP⟩], [⟨.slice (A18_4) ((lbF a b).length) (c18_4), 34, 3, ((lbF a b).length), (lbF a b).flatMap encG⟩], [⟨.slice (A18_3) ((b).length) (c18_3), 53, 2, ((b).length), (b).flatMap encP⟩], [⟨.slice (A18_1) ((a).length) (c18_1), 53, 2, ((a).length), (a).flatMap encP⟩]] := Mem.call (Ma := []) hM11_2 hR12_2 rfl
      refine O.val (v := .bool (false)) rfl (Ru.not (b := true) rfl) rfl ?_
      refine O.nil ?_
      refine C.condF rfl ?_
      refine C.skip ?_
      refine C.seq ?_
      refine C.seq ?_
      refine C.region ?_
      refine O.val (v := .slice (A19_1) ((a).length) (c19_1)) rfl (Ru.move rfl) rfl ?_
      refine O.val (v := .slice (A) ((a).length) (c)) rfl (Ru.move rfl) rfl ?_
      refine O.callg [.slice (A) ((a).length) (c)] rfl en35 rfl rfl (toPairS_fn A c a w12_2 (hA.at hM12_2) (by first | omega | assumption | (simp; omega) | simp | (intros; omega))) ?_
      rintro _ w14_2 ⟨A114_2, c114_2, rfl, hR14_2⟩
      have hM14_2 : Mem w w14_2 [] [[⟨.slice (A114_2) ((a).length) (c114_2), 53, 2, ((a).length), (a).flatMap encP⟩], [⟨.slice (A111_2) ((lbF a b).length) (c111_2), 34, 3, ((lbF a b).length), (lbF a b).flatMap encG⟩], [⟨.slice (A110_1) ((b).length) (c110_1), 53, 2, ((b).length), (b).flatMap encP⟩], [⟨.slice (A19_1) ((a).length) (c19_1), 53, 2, ((a).length), (a).flatMap encP⟩], [⟨.slice (A18_4) ((lbF a b).length) (c18_4), 34, 3, ((lbF a b).length), (lbF a b).flatMap encG⟩], [⟨.slice (A18_3) ((b).length) (c18_3), 53, 2, ((b).length), (b).flatMap encP⟩], [⟨.slice (A18_1) ((a).length) (c18_1), 53, 2, ((a).length), (a).flatMap encP⟩]] := Mem.call (Ma := []) hM12_2 hR14_2 rfl
      have hcr14_2_0 := (hM14_2.cap 0 rfl).1
      refine O.callg [.slice (A19_1) ((a).length) (c19_1), .slice (A114_2) ((a).length) (c114_2)] rfl en36 rfl rfl (eqPairS_fn A19_1 c19_1 a A114_2 c114_2 a w14_2 (hM14_2.rd 3 rfl) (hM14_2.rd 0 rfl) (by omega)) ?_
      rintro _ w14_3 ⟨hv14_3, hR14_3⟩
      obtain rfl : _ = Value.bool true := hv14_3.trans (by simp)
      have hM14_3 : Mem w w14_3 [] [[⟨.slice (A114_2) ((a).length) (c114_2), 53, 2, ((a).length), (a).flatMap encP⟩], [⟨.slice (A111_2) ((lbF a b).length) (c111_2), 34, 3, ((lbF a b).length), (lbF a b).flatMap encG⟩], [⟨.slice (A110_1) ((b).length) (c110_1), 53, 2, ((b).length), (b).flatMap encP⟩], [⟨.slice (A19_1) ((a).length) (c19_1), 53, 2, ((a).length), (a).flatMap encP⟩], [⟨.slice (A18_4) ((lbF a b).length) (c18_4), 34, 3, ((lbF a b).length), (lbF a b).flatMap encG⟩], [⟨.slice (A18_3) ((b).length) (c18_3), 53, 2, ((b).length), (b).flatMap encP⟩], [⟨.slice (A18_1) ((a).length) (c18_1), 53, 2, ((a).length), (a).flatMap encP⟩]] := Mem.call (Ma := []) hM14_2 hR14_3 rfl
      refine O.val (v := .bool (false)) rfl (Ru.not (b := true) rfl) rfl ?_
      refine O.nil ?_
      refine C.condF rfl ?_
      refine C.skip ?_
      refine C.seq ?_
      refine C.seq ?_
      refine C.region ?_
      refine O.val (v := .slice (A110_1) ((b).length) (c110_1)) rfl (Ru.move rfl) rfl ?_
      refine O.val (v := .slice (B) ((b).length) (d)) rfl (Ru.move rfl) rfl ?_
      refine O.callg [.slice (B) ((b).length) (d)] rfl en35 rfl rfl (toPairS_fn B d b w14_3 (hB.at hM14_3) (by first | omega | assumption | (simp; omega) | simp | (intros; omega))) ?_
      rintro _ w16_2 ⟨A116_2, c116_2, rfl, hR16_2⟩
      have hM16_2 : Mem w w16_2 [] [[⟨.slice (A116_2) ((b).length) (c116_2), 53, 2, ((b).length), (b).flatMap encP⟩], [⟨.slice (A114_2) ((a).length) (c114_2), 53, 2, ((a).length), (a).flatMap encP⟩], [⟨.slice (A111_2) ((lbF a b).length) (c111_2), 34, 3, ((lbF a b).length), (lbF a b).flatMap encG⟩], [⟨.slice (A110_1) ((b).length) (c110_1), 53, 2, ((b).length), (b).flatMap encP⟩], [⟨.slice (A19_1) ((a).length) (c19_1), 53, 2, ((a).length), (a).flatMap encP⟩], [⟨.slice (A18_4) ((lbF a b).length) (c18_4), 34, 3, ((lbF a b).length), (lbF a b).flatMap encG⟩], [⟨.slice (A18_3) ((b).length) (c18_3), 53, 2, ((b).length), (b).flatMap encP⟩], [⟨.slice (A18_1) ((a).length) (c18_1), 53, 2, ((a).length), (a).flatMap encP⟩]] := Mem.call (Ma := []) hM14_3 hR16_2 rfl
      have hcr16_2_0 := (hM16_2.cap 0 rfl).1
      refine O.callg [.slice (A110_1) ((b).length) (c110_1), .slice (A116_2) ((b).length) (c116_2)] rfl en36 rfl rfl (eqPairS_fn A110_1 c110_1 b A116_2 c116_2 b w16_2 (hM16_2.rd 3 rfl) (hM16_2.rd 0 rfl) (by omega)) ?_
      rintro _ w16_3 ⟨hv16_3, hR16_3⟩
      obtain rfl : _ = Value.bool true := hv16_3.trans (by simp)
      have hM16_3 : Mem w w16_3 [] [[⟨.slice (A116_2) ((b).length) (c116_2), 53, 2, ((b).length), (b).flatMap encP⟩], [⟨.slice (A114_2) ((a).length) (c114_2), 53, 2, ((a).length), (a).flatMap encP⟩], [⟨.slice (A111_2) ((lbF a b).length) (c111_2), 34, 3, ((lbF a b).length), (lbF a b).flatMap encG⟩], [⟨.slice (A110_1) ((b).length) (c110_1), 53, 2, ((b).length), (b).flatMap encP⟩], [⟨.slice (A19_1) ((a).length) (c19_1), 53, 2, ((a).length), (a).flatMap encP⟩], [⟨.slice (A18_4) ((lbF a b).length) (c18_4), 34, 3, ((lbF a b).length), (lbF a b).flatMap encG⟩], [⟨.slice (A18_3) ((b).length) (c18_3), 53, 2, ((b).length), (b).flatMap encP⟩], [⟨.slice (A18_1) ((a).length) (c18_1), 53, 2, ((a).length), (a).flatMap encP⟩]] := Mem.call (Ma := []) hM16_2 hR16_3 rfl
      refine O.val (v := .bool (false)) rfl (Ru.not (b := true) rfl) rfl ?_
      refine O.nil ?_
      refine C.condF rfl ?_
      refine C.skip ?_
      refine C.seq ?_
      refine C.region ?_
      refine O.val (v := I (1)) rfl (Ru.assign rfl) rfl ?_
      refine O.nil ?_
      refine C.seq ?_
      refine C.region ?_
      refine O.val (v := .slice (A19_1) ((a).length) (c19_1)) rfl (Ru.move rfl) rfl ?_
      refine O.val (v := I (1)) rfl (Ru.move rfl) rfl ?_
      have hMf19_2 : Mem w w16_3 [] [[⟨.slice (A19_1) ((a).length) (c19_1), 53, 2, ((a).length), (a).flatMap encP⟩], [⟨.slice (A116_2) ((b).length) (c116_2), 53, 2, ((b).length), (b).flatMap encP⟩], [⟨.slice (A114_2) ((a).length) (c114_2), 53, 2, ((a).length), (a).flatMap encP⟩], [⟨.slice (A111_2) ((lbF a b).length) (c111_2), 34, 3, ((lbF a b).length), (lbF a b).flatMap encG⟩], [⟨.slice (A110_1) ((b).length) (c110_1), 53, 2, ((b).length), (b).flatMap encP⟩], [⟨.slice (A18_4) ((lbF a b).length) (c18_4), 34, 3, ((lbF a b).length), (lbF a b).flatMap encG⟩], [⟨.slice (A18_3) ((b).length) (c18_3), 53, 2, ((b).length), (b).flatMap encP⟩], [⟨.slice (A18_1) ((a).length) (c18_1), 53, 2, ((a).length), (a).flatMap encP⟩]] := hM16_3.pick [4, 0, 1, 2, 3, 5, 6, 7] (by decide) rfl
      refine O.callg [.slice (A19_1) ((a).length) (c19_1), I (1)] rfl en37 rfl rfl (markPairS_fn A19_1 c19_1 a 1 w16_3 (Mem.focus (Ma := [[⟨.slice (A19_1) ((a).length) (c19_1), 53, 2, ((a).length), (a).flatMap encP⟩]]) (rest := [[⟨.slice (A116_2) ((b).length) (c116_2), 53, 2, ((b).length), (b).flatMap encP⟩], [⟨.slice (A114_2) ((a).length) (c114_2), 53, 2, ((a).length), (a).flatMap encP⟩], [⟨.slice (A111_2) ((lbF a b).length) (c111_2), 34, 3, ((lbF a b).length), (lbF a b).flatMap encG⟩], [⟨.slice (A110_1) ((b).length) (c110_1), 53, 2, ((b).length), (b).flatMap encP⟩], [⟨.slice (A18_4) ((lbF a b).length) (c18_4), 34, 3, ((lbF a b).length), (lbF a b).flatMap encG⟩], [⟨.slice (A18_3) ((b).length) (c18_3), 53, 2, ((b).length), (b).flatMap encP⟩], [⟨.slice (A18_1) ((a).length) (c18_1), 53, 2, ((a).length), (a).flatMap encP⟩]]) hMf19_2 rfl) (by first | omega | assumption | (simp; omega) | simp | (intros; omega)) (by first | omega | assumption | (simp; omega) | simp | (intros; omega))) ?_
      rintro _ w19_2 ⟨rfl, hR19_2⟩
      have hM19_2 : Mem w w19_2 [] [[⟨.slice (A19_1) ((a).length) (c19_1), 53, 2, ((a).length), (mkL (fun t => ⟨((1 + 2 * t : Nat) : Int), ((1 + 2 * t + 1 : Nat) : Int)⟩ : Nat → PairT) a.length).flatMap encP⟩], [⟨.slice (A116_2) ((b).length) (c116_2), 53, 2, ((b).length), (b).flatMap encP⟩], [⟨.slice (A114_2) ((a).length) (c114_2), 53, 2, ((a).length), (a).flatMap encP⟩], [⟨.slice (A111_2) ((lbF a b).length) (c111_2), 34, 3, ((lbF a b).length), (lbF a b).flatMap encG⟩], [⟨.slice (A110_1) ((b).length) (c110_1), 53, 2, ((b).length), (b).flatMap encP⟩], [⟨.slice (A18_4) ((lbF a b).length) (c18_4), 34, 3, ((lbF a b).length), (lbF a b).flatMap encG⟩], [⟨.slice (A18_3) ((b).length) (c18_3), 53, 2, ((b).length), (b).flatMap encP⟩], [⟨.slice (A18_1) ((a).length) (c18_1), 53, 2, ((a).length), (a).flatMap encP⟩]] := Mem.call (Ma := [[⟨.slice (A19_1) ((a).length) (c19_1), 53, 2, ((a).length), (a).flatMap encP⟩]]) hMf19_2 hR19_2 rfl
      have hcr19_2_0 := (hM19_2.cap 0 rfl).1
      refine O.val (v := I (((1 + 2 * a.length : Nat) : Int))) rfl (Ru.assign rfl) rfl ?_
      refine O.nil ?_
      refine C.seq ?_
      refine C.region ?_
      refine O.val (v := .slice (A110_1) ((b).length) (c110_1)) rfl (Ru.move rfl) rfl ?_
      refine O.val (v := I (((1 + 2 * a.length : Nat) : Int))) rfl (Ru.move rfl) rfl ?_
      have hMf20_2 : Mem w w19_2 [] [[⟨.slice (A110_1) ((b).length) (c110_1), 53, 2, ((b).length), (b).flatMap encP⟩], [⟨.slice (A19_1) ((a).length) (c19_1), 53, 2, ((a).length), (mkL (fun t => ⟨((1 + 2 * t : Nat) : Int), ((1 + 2 * t + 1 : Nat) : Int)⟩ : Nat → PairT) a.length).flatMap encP⟩], [⟨.slice (A116_2) ((b).length) (c116_2), 53, 2, ((b).length), (b).flatMap encP⟩], [⟨.slice (A114_2) ((a).length) (c114_2), 53, 2, ((a).length), (a).flatMap encP⟩], [⟨.slice (A111_2) ((lbF a b).length) (c111_2), 34, 3, ((lbF a b).length), (lbF a b).flatMap encG⟩], [⟨.slice (A18_4) ((lbF a b).length) (c18_4), 34, 3, ((lbF a b).length), (lbF a b).flatMap encG⟩], [⟨.slice (A18_3) ((b).length) (c18_3), 53, 2, ((b).length), (b).flatMap encP⟩], [⟨.slice (A18_1) ((a).length) (c18_1), 53, 2, ((a).length), (a).flatMap encP⟩]] := hM19_2.pick [4, 0, 1, 2, 3, 5, 6, 7] (by decide) rfl
      refine O.callg [.slice (A110_1) ((b).length) (c110_1), I (((1 + 2 * a.length : Nat) : Int))] rfl en37 rfl rfl (markPairS_fn A110_1 c110_1 b (1 + 2 * a.length) w19_2 (Mem.focus (Ma := [[⟨.slice (A110_1) ((b).length) (c110_1), 53, 2, ((b).length), (b).flatMap encP⟩]]) (rest := [[⟨.slice (A19_1) ((a).length) (c19_1), 53, 2, ((a).length), (mkL (fun t => ⟨((1 + 2 * t : Nat) : Int), ((1 + 2 * t + 1 : Nat) : Int)⟩ : Nat → PairT) a.length).flatMap encP⟩], [⟨.slice (A116_2) ((b).length) (c116_2), 53, 2, ((b).length), (b).flatMap encP⟩], [⟨.slice (A114_2) ((a).length) (c114_2), 53, 2, ((a).length), (a).flatMap encP⟩], [⟨.slice (A111_2) ((lbF a b).length) (c111_2), 34, 3, ((lbF a b).length), (lbF a b).flatMap encG⟩], [⟨.slice (A18_4) ((lbF a b).length) (c18_4), 34, 3, ((lbF a b).length), (lbF a b).flatMap encG⟩], [⟨.slice (A18_3) ((b).length) (c18_3), 53, 2, ((b).length), (b).flatMap encP⟩], [⟨.slice (A18_1) ((a).length) (c18_1), 53, 2, ((a).length), (a).flatMap encP⟩]]) hMf20_2 rfl) (by first | omega | assumption | (simp; omega) | simp | (intros; omega)) (by first | omega | assumption | (simp; omega) | simp | (intros; omega))) ?_
      rintro _ w20_2 ⟨rfl, hR20_2⟩
      have hM20_2 : Mem w w20_2 [] [[⟨.slice (A110_1) ((b).length) (c110_1), 53, 2, ((b).length), (mkL (fun t => ⟨(((1 + 2 * a.length) + 2 * t : Nat) : Int), (((1 + 2 * a.length) + 2 * t + 1 : Nat) : Int)⟩ : Nat → PairT) b.length).flatMap encP⟩], [⟨.slice (A19_1) ((a).length) (c19_1), 53, 2, ((a).length), (mkL (fun t => ⟨((1 + 2 * t : Nat) : Int), ((1 + 2 * t + 1 : Nat) : Int)⟩ : Nat → PairT) a.length).flatMap encP⟩], [⟨.slice (A116_2) ((b).length) (c116_2), 53, 2, ((b).length), (b).flatMap encP⟩], [⟨.slice (A114_2) ((a).length) (c114_2), 53, 2, ((a).length), (a).flatMap encP⟩], [⟨.slice (A111_2) ((lbF a b).length) (c111_2), 34, 3, ((lbF a b).length), (lbF a b).flatMap encG⟩], [⟨.slice (A18_4) ((lbF a b).length) (c18_4), 34, 3, ((lbF a b).length), (lbF a b).flatMap encG⟩], [⟨.slice (A18_3) ((b).length) (c18_3), 53, 2, ((b).length), (b).flatMap encP⟩], [⟨.slice (A18_1) ((a).length) (c18_1), 53, 2, ((a).length), (a).flatMap encP⟩]] := Mem.call (Ma := [[⟨.slice (A110_1) ((b).length) (c110_1), 53, 2, ((b).length), (b).flatMap encP⟩]]) hMf20_2 hR20_2 rfl
      have hcr20_2_0 := (hM20_2.cap 0 rfl).1
      refine O.val (v := I ((((1 + 2 * a.length) + 2 * b.length : Nat) : Int))) rfl (Ru.assign rfl) rfl ?_
      refine O.nil ?_
      refine C.seq ?_
      refine C.seq ?_
      refine C.region ?_
      refine O.val (v := I ((((1 + 2 * a.length) + 2 * b.length : Nat) : Int))) rfl (Ru.move rfl) rfl ?_
      refine O.val (v := .bool (decide ((((1 + 2 * a.length) + 2 * b.length : Nat) : Int) < 0))) rfl (Ru.lss rfl rfl) rfl ?_
      refine O.val (v := .bool (decide ((((1 + 2 * a.length) + 2 * b.length : Nat) : Int) < 0))) rfl (Ru.move rfl) rfl ?_
      refine O.partp 58 ((((1 + 2 * a.length) + 2 * b.length : Nat) : Int) < 0) rfl (fun g58 => ?_) (fun g58 => ?_)
      · exfalso; omega
      · refine O.val (v := .slice (A111_2) ((lbF a b).length) (c111_2)) rfl (Ru.move rfl) rfl ?_
        refine O.val (v := .slice (A18_4) ((lbF a b).length) (c18_4)) rfl (Ru.move rfl) rfl ?_
        refine O.callg [.slice (A111_2) ((lbF a b).length) (c111_2), .slice (A18_4) ((lbF a b).length) (c18_4)] rfl en23 rfl rfl (eqRecordS_fn A111_2 c111_2 (lbF a b) A18_4 c18_4 (lbF a b) w20_2 (hM20_2.rd 4 rfl) (hM20_2.rd 5 rfl) (by omega)) ?_
        rintro _ w21_5 ⟨hv21_5, hR21_5⟩
        obtain rfl : _ = Value.bool true := hv21_5.trans (by simp)
        have hM21_5 : Mem w w21_5 [] [[⟨.slice (A110_1) ((b).length) (c110_1), 53, 2, ((b).length), (mkL (fun t => ⟨(((1 + 2 * a.length) + 2 * t : Nat) : Int), (((1 + 2 * a.length) + 2 * t + 1 : Nat) : Int)⟩ : Nat → PairT) b.length).flatMap encP⟩], [⟨.slice (A19_1) ((a).length) (c19_1), 53, 2, ((a).length), (mkL (fun t => ⟨((1 + 2 * t : Nat) : Int), ((1 + 2 * t + 1 : Nat) : Int)⟩ : Nat → PairT) a.length).flatMap encP⟩], [⟨.slice (A116_2) ((b).length) (c116_2), 53, 2, ((b).length), (b).flatMap encP⟩], [⟨.slice (A114_2) ((a).length) (c114_2), 53, 2, ((a).length), (a).flatMap encP⟩], [⟨.slice (A111_2) ((lbF a b).length) (c111_2), 34, 3, ((lbF a b).length), (lbF a b).flatMap encG⟩], [⟨.slice (A18_4) ((lbF a b).length) (c18_4), 34, 3, ((lbF a b).length), (lbF a b).flatMap encG⟩], [⟨.slice (A18_3) ((b).length) (c18_3), 53, 2, ((b).length), (b).flatMap encP⟩], [⟨.slice (A18_1) ((a).length) (c18_1), 53, 2, ((a).length), (a).flatMap encP⟩]] := Mem.call (Ma := []) hM20_2 hR21_5 rfl
        refine O.val (v := .bool (false)) rfl (Ru.not (b := true) rfl) rfl ?_
        refine O.val (v := .bool (false)) rfl (Ru.pickF rfl rfl) rfl ?_
        refine O.nil ?_
        refine C.condF rfl ?_
        refine C.skip ?_
        refine C.seq ?_
        refine C.region ?_
        refine O.val (v := I (1)) rfl (Ru.assign rfl) rfl ?_
        refine O.nil ?_
        refine C.seq ?_
        refine C.region ?_
        refine O.val (v := .slice (A111_2) ((lbF a b).length) (c111_2)) rfl (Ru.move rfl) rfl ?_
        refine O.val (v := I (1)) rfl (Ru.move rfl) rfl ?_
        have hMf24_2 : Mem w w21_5 [] [[⟨.slice (A111_2) ((lbF a b).length) (c111_2), 34, 3, ((lbF a b).length), (lbF a b).flatMap encG⟩], [⟨.slice (A110_1) ((b).length) (c110_1), 53, 2, ((b).length), (mkL (fun t => ⟨(((1 + 2 * a.length) + 2 * t : Nat) : Int), (((1 + 2 * a.length) + 2 * t + 1 : Nat) : Int)⟩ : Nat → PairT) b.length).flatMap encP⟩], [⟨.slice (A19_1) ((a).length) (c19_1), 53, 2, ((a).length), (mkL (fun t => ⟨((1 + 2 * t : Nat) : Int), ((1 + 2 * t + 1 : Nat) : Int)⟩ : Nat → PairT) a.length).flatMap encP⟩], [⟨.slice (A116_2) ((b).length) (c116_2), 53, 2, ((b).length), (b).flatMap encP⟩], [⟨.slice (A114_2) ((a).length) (c114_2), 53, 2, ((a).length), (a).flatMap encP⟩], [⟨.slice (A18_4) ((lbF a b).length) (c18_4), 34, 3, ((lbF a b).length), (lbF a b).flatMap encG⟩], [⟨.slice (A18_3) ((b).length) (c18_3), 53, 2, ((b).length), (b).flatMap encP⟩], [⟨.slice (A18_1) ((a).length) (c18_1), 53, 2, ((a).length), (a).flatMap encP⟩]] := hM21_5.pick [4, 0, 1, 2, 3, 5, 6, 7] (by decide) rfl
        refine O.callg [.slice (A111_2) ((lbF a b).length) (c111_2), I (1)] rfl en28 rfl rfl (markRecordS_fn A111_2 c111_2 (lbF a b) 1 w21_5 (Mem.focus (Ma := [[⟨.slice (A111_2) ((lbF a b).length) (c111_2), 34, 3, ((lbF a b).length), (lbF a b).flatMap encG⟩]]) (rest := [[⟨.slice (A110_1) ((b).length) (c110_1), 53, 2, ((b).length), (mkL (fun t => ⟨(((1 + 2 * a.length) + 2 * t : Nat) : Int), (((1 + 2 * a.length) + 2 * t + 1 : Nat) : Int)⟩ : Nat → PairT) b.length).flatMap encP⟩], [⟨.slice (A19_1) ((a).length) (c19_1), 53, 2, ((a).length), (mkL (fun t => ⟨((1 + 2 * t : Nat) : Int), ((1 + 2 * t + 1 : Nat) : Int)⟩ : Nat → PairT) a.length).flatMap encP⟩], [⟨.slice (A116_2) ((b).length) (c116_2), 53, 2, ((b).length), (b).flatMap encP⟩], [⟨.slice (A114_2) ((a).length) (c114_2), 53, 2, ((a).length), (a).flatMap encP⟩], [⟨.slice (A18_4) ((lbF a b).length) (c18_4), 34, 3, ((lbF a b).length), (lbF a b).flatMap encG⟩], [⟨.slice (A18_3) ((b).length) (c18_3), 53, 2, ((b).length), (b).flatMap encP⟩], [⟨.slice (A18_1) ((a).length) (c18_1), 53, 2, ((a).length), (a).flatMap encP⟩]]) hMf24_2 rfl) (by first | omega | assumption | (simp; omega) | simp | (intros; omega)) (by first | omega | assumption | (simp; omega) | simp | (intros; omega))) ?_
        rintro _ w24_2 ⟨rfl, hR24_2⟩
        have hM24_2 : Mem w w24_2 [] [[⟨.slice (A111_2) (((lbF a b)).length) (c111_2), 34, 3, (((lbF a b)).length), (mkL (fun t => ⟨((1 + 3 * t : Nat) : Int), ((1 + 3 * t + 1 : Nat) : Int), ((1 + 3 * t + 2 : Nat) : Int)⟩ : Nat → RecT) (lbF a b).length).flatMap encG⟩], [⟨.slice (A110_1) ((b).length) (c110_1), 53, 2, ((b).length), (mkL (fun t => ⟨(((1 + 2 * a.length) + 2 * t : Nat) : Int), (((1 + 2 * a.length) + 2 * t + 1 : Nat) : Int)⟩ : Nat → PairT) b.length).flatMap encP⟩], [⟨.slice (A19_1) ((a).length) (c19_1), 53, 2, ((a).length), (mkL (fun t => ⟨((1 + 2 * t : Nat) : Int), ((1 + 2 * t + 1 : Nat) : Int)⟩ : Nat → PairT) a.length).flatMap encP⟩], [⟨.slice (A116_2) ((b).length) (c116_2), 53, 2, ((b).length), (b).flatMap encP⟩], [⟨.slice (A114_2) ((a).length) (c114_2), 53, 2, ((a).length), (a).flatMap encP⟩], [⟨.slice (A18_4) ((lbF a b).length) (c18_4), 34, 3, ((lbF a b).length), (lbF a b).flatMap encG⟩], [⟨.slice (A18_3) ((b).length) (c18_3), 53, 2, ((b).length), (b).flatMap encP⟩], [⟨.slice (A18_1) ((a).length) (c18_1), 53, 2, ((a).length), (a).flatMap encP⟩]] := Mem.call (Ma := [[⟨.slice (A111_2) ((lbF a b).length) (c111_2), 34, 3, ((lbF a b).length), (lbF a b).flatMap encG⟩]]) hMf24_2 hR24_2 rfl
        have hcr24_2_0 := (hM24_2.cap 0 rfl).1
        refine O.val (v := I (((1 + 3 * (lbF a b).length : Nat) : Int))) rfl (Ru.assign rfl) rfl ?_
        refine O.nil ?_
        refine C.seq ?_
        refine C.region ?_
        refine O.val (v := I (1)) rfl (Ru.assign rfl) rfl ?_
        refine O.nil ?_
        refine C.seq ?_
        refine C.region ?_
        refine O.val (v := .slice (A111_2) ((lbF a b).length) (c111_2)) rfl (Ru.move rfl) rfl ?_
        refine O.val (v := I (1)) rfl (Ru.move rfl) rfl ?_
        refine O.callg [.slice (A111_2) ((lbF a b).length) (c111_2), I (1)] rfl en29 rfl rfl (heldRecordS_fn A111_2 ((lbF a b).length) c111_2 1 w24_2 (hM24_2.rd 0 rfl) (by first | omega | assumption | (simp; omega) | simp | (intros; omega)) (by first | omega | assumption | (simp; omega) | simp | (intros; omega))) ?_
        rintro _ w26_2 ⟨rfl, hR26_2⟩
        have hM26_2 : Mem w w26_2 [] [[⟨.slice (A111_2) (((lbF a b)).length) (c111_2), 34, 3, (((lbF a b)).length), (mkL (fun t => ⟨((1 + 3 * t : Nat) : Int), ((1 + 3 * t + 1 : Nat) : Int), ((1 + 3 * t + 2 : Nat) : Int)⟩ : Nat → RecT) (lbF a b).length).flatMap encG⟩], [⟨.slice (A110_1) ((b).length) (c110_1), 53, 2, ((b).length), (mkL (fun t => ⟨(((1 + 2 * a.length) + 2 * t : Nat) : Int), (((1 + 2 * a.length) + 2 * t + 1 : Nat) : Int)⟩ : Nat → PairT) b.length).flatMap encP⟩], [⟨.slice (A19_1) ((a).length) (c19_1), 53, 2, ((a).length), (mkL (fun t => ⟨((1 + 2 * t : Nat) : Int), ((1 + 2 * t + 1 : Nat) : Int)⟩ : Nat → PairT) a.length).flatMap encP⟩], [⟨.slice (A116_2) ((b).length) (c116_2), 53, 2, ((b).length), (b).flatMap encP⟩], [⟨.slice (A114_2) ((a).length) (c114_2), 53, 2, ((a).length), (a).flatMap encP⟩], [⟨.slice (A18_4) ((lbF a b).length) (c18_4), 34, 3, ((lbF a b).length), (lbF a b).flatMap encG⟩], [⟨.slice (A18_3) ((b).length) (c18_3), 53, 2, ((b).length), (b).flatMap encP⟩], [⟨.slice (A18_1) ((a).length) (c18_1), 53, 2, ((a).length), (a).flatMap encP⟩]] := Mem.call (Ma := []) hM24_2 hR26_2 rfl
        refine O.val (v := I (((1 + 3 * ((lbF a b).length) : Nat) : Int))) rfl (Ru.assign rfl) rfl ?_
        refine O.nil ?_
        refine C.seq ?_
        refine C.seq ?_
        refine C.region ?_
        refine O.val (v := I (((1 + 3 * ((lbF a b).length) : Nat) : Int))) rfl (Ru.move rfl) rfl ?_
        refine O.val (v := .bool (decide (((1 + 3 * ((lbF a b).length) : Nat) : Int) < 0))) rfl (Ru.lss rfl rfl) rfl ?_
        refine O.nil ?_
        refine C.cond (p := ((1 + 3 * ((lbF a b).length) : Nat) : Int) < 0) rfl (fun c71 => ?_) (fun c71 => ?_)
        · exfalso; omega
        · refine C.skip ?_
          refine C.seq ?_
          refine C.seq ?_
          refine C.region ?_
          refine O.val (v := I (((1 + 3 * ((lbF a b).length) : Nat) : Int))) rfl (Ru.move rfl) rfl ?_
          refine O.val (v := I (((1 + 3 * (lbF a b).length : Nat) : Int))) rfl (Ru.move rfl) rfl ?_
          refine O.val (v := .bool (decide (((1 + 3 * ((lbF a b).length) : Nat) : Int) ≠ ((1 + 3 * (lbF a b).length : Nat) : Int)))) rfl (Ru.neq rfl rfl) rfl ?_
          refine O.nil ?_
          refine C.cond (p := ((1 + 3 * ((lbF a b).length) : Nat) : Int) ≠ ((1 + 3 * (lbF a b).length : Nat) : Int)) rfl (fun c74 => ?_) (fun c74 => ?_)
          · exfalso; omega
          · refine C.skip ?_
            refine C.seq ?_
            refine C.region ?_
            refine O.val (v := .slice (A) ((a).length) (c)) rfl (Ru.move rfl) rfl ?_
            refine O.callg [.slice (A) ((a).length) (c)] rfl en35 rfl rfl (toPairS_fn A c a w26_2 (hA.at hM26_2) (by first | omega | assumption | (simp; omega) | simp | (intros; omega))) ?_
            rintro _ w31_1 ⟨A131_1, c131_1, rfl, hR31_1⟩
            have hM31_1 : Mem w w31_1 [] [[⟨.slice (A131_1) ((a).length) (c131_1), 53, 2, ((a).length), (a).flatMap encP⟩], [⟨.slice (A111_2) (((lbF a b)).length) (c111_2), 34, 3, (((lbF a b)).length), (mkL (fun t => ⟨((1 + 3 * t : Nat) : Int), ((1 + 3 * t + 1 : Nat) : Int), ((1 + 3 * t + 2 : Nat) : Int)⟩ : Nat → RecT) (lbF a b).length).flatMap encG⟩], [⟨.slice (A110_1) ((b).length) (c110_1), 53, 2, ((b).length), (mkL (fun t => ⟨(((1 + 2 * a.length) + 2 * t : Nat) : Int), (((1 + 2 * a.length) + 2 * t + 1 : Nat) : Int)⟩ : Nat → PairT) b.length).flatMap encP⟩], [⟨.slice (A19_1) ((a).length) (c19_1), 53, 2, ((a).length), (mkL (fun t => ⟨((1 + 2 * t : Nat) : Int), ((1 + 2 * t + 1 : Nat) : Int)⟩ : Nat → PairT) a.length).flatMap encP⟩], [⟨.slice (A116_2) ((b).length) (c116_2), 53, 2, ((b).length), (b).flatMap encP⟩], [⟨.slice (A114_2) ((a).length) (c114_2), 53, 2, ((a).length), (a).flatMap encP⟩], [⟨.slice (A18_4) ((lbF a b).length) (c18_4), 34, 3, ((lbF a b).length), (lbF a b).flatMap encG⟩], [⟨.slice (A18_3) ((b).length) (c18_3), 53, 2, ((b).length), (b).flatMap encP⟩], [⟨.slice (A18_1) ((a).length) (c18_1), 53, 2, ((a).length), (a).flatMap encP⟩]] := Mem.call (Ma := []) hM26_2 hR31_1 rfl
            have hcr31_1_0 := (hM31_1.cap 0 rfl).1
            refine O.val (v := .slice (B) ((b).length) (d)) rfl (Ru.move rfl) rfl ?_
            refine O.callg [.slice (B) ((b).length) (d)] rfl en35 rfl rfl (toPairS_fn B d b w31_1 (hB.at hM31_1) (by first | omega | assumption | (simp; omega) | simp | (intros; omega))) ?_
            rintro _ w31_3 ⟨A131_3, c131_3, rfl, hR31_3⟩
            have hM31_3 : Mem w w31_3 [] [[⟨.slice (A131_3) ((b).length) (c131_3), 53, 2, ((b).length), (b).flatMap encP⟩], [⟨.slice (A131_1) ((a).length) (c131_1), 53, 2, ((a).length), (a).flatMap encP⟩], [⟨.slice (A111_2) (((lbF a b)).length) (c111_2), 34, 3, (((lbF a b)).length), (mkL (fun t => ⟨((1 + 3 * t : Nat) : Int), ((1 + 3 * t + 1 : Nat) : Int), ((1 + 3 * t + 2 : Nat) : Int)⟩ : Nat → RecT) (lbF a b).length).flatMap encG⟩], [⟨.slice (A110_1) ((b).length) (c110_1), 53, 2, ((b).length), (mkL (fun t => ⟨(((1 + 2 * a.length) + 2 * t : Nat) : Int), (((1 + 2 * a.length) + 2 * t + 1 : Nat) : Int)⟩ : Nat → PairT) b.length).flatMap encP⟩], [⟨.slice (A19_1) ((a).length) (c19_1), 53, 2, ((a).length), (mkL (fun t => ⟨((1 + 2 * t : Nat) : Int), ((1 + 2 * t + 1 : Nat) : Int)⟩ : Nat → PairT) a.length).flatMap encP⟩], [⟨.slice (A116_2) ((b).length) (c116_2), 53, 2, ((b).length), (b).flatMap encP⟩], [⟨.slice (A114_2) ((a).length) (c114_2), 53, 2, ((a).length), (a).flatMap encP⟩], [⟨.slice (A18_4) ((lbF a b).length) (c18_4), 34, 3, ((lbF a b).length), (lbF a b).flatMap encG⟩], [⟨.slice (A18_3) ((b).length) (c18_3), 53, 2, ((b).length), (b).flatMap encP⟩], [⟨.slice (A18_1) ((a).length) (c18_1), 53, 2, ((a).length), (a).flatMap encP⟩]] := Mem.call (Ma := []) hM31_1 hR31_3 rfl
            have hcr31_3_0 := (hM31_3.cap 0 rfl).1
            refine O.callg [.slice (A131_1) ((a).length) (c131_1), .slice (A131_3) ((b).length) (c131_3)] rfl en31 rfl rfl (LogBetween_fn A131_1 c131_1 a A131_3 c131_3 b w31_3 (hM31_3.rd 1 rfl) (hM31_3.rd 0 rfl) (by first | omega | assumption | (simp; omega) | simp | (intros; omega)) (by first | omega | assumption | (simp; omega) | simp | (intros; omega)) (by first | omega | assumption | (simp; omega) | simp | (intros; omega)) (by first | omega | assumption | (simp; omega) | simp | (intros; omega))) ?_
            rintro _ w31_4 ⟨A131_4, c131_4, rfl, hR31_4⟩
            have hM31_4 : Mem w w31_4 [] [[⟨.slice (A131_4) ((lbF a b).length) (c131_4), 34, 3, ((lbF a b).length), (lbF a b).flatMap encG⟩], [⟨.slice (A131_3) ((b).length) (c131_3), 53, 2, ((b).length), (b).flatMap encP⟩], [⟨.slice (A131_1) ((a).length) (c131_1), 53, 2, ((a).length), (a).flatMap encP⟩], [⟨.slice (A111_2) (((lbF a b)).length) (c111_2), 34, 3, (((lbF a b)).length), (mkL (fun t => ⟨((1 + 3 * t : Nat) : Int), ((1 + 3 * t + 1 : Nat) : Int), ((1 + 3 * t + 2 : Nat) : Int)⟩ : Nat → RecT) (lbF a b).length).flatMap encG⟩], [⟨.slice (A110_1) ((b).length) (c110_1), 53, 2, ((b).length), (mkL (fun t => ⟨(((1 + 2 * a.length) + 2 * t : Nat) : Int), (((1 + 2 * a.length) + 2 * t + 1 : Nat) : Int)⟩ : Nat → PairT) b.length).flatMap encP⟩], [⟨.slice (A19_1) ((a).length) (c19_1), 53, 2, ((a).length), (mkL (fun t => ⟨((1 + 2 * t : Nat) : Int), ((1 + 2 * t + 1 : Nat) : Int)⟩ : Nat → PairT) a.length).flatMap encP⟩], [⟨.slice (A116_2) ((b).length) (c116_2), 53, 2, ((b).length), (b).flatMap encP⟩], [⟨.slice (A114_2) ((a).length) (c114_2), 53, 2, ((a).length), (a).flatMap encP⟩], [⟨.slice (A18_4) ((lbF a b).length) (c18_4), 34, 3, ((lbF a b).length), (lbF a b).flatMap encG⟩], [⟨.slice (A18_3) ((b).length) (c18_3), 53, 2, ((b).length), (b).flatMap encP⟩], [⟨.slice (A18_1) ((a).length) (c18_1), 53, 2, ((a).length), (a).flatMap encP⟩]] := Mem.call (Ma := []) hM31_3 hR31_4 rfl
            have hcr31_4_0 := (hM31_4.cap 0 rfl).1
            refine O.val (v := .slice (A131_4) ((lbF a b).length) (c131_4)) rfl (Ru.assign rfl) rfl ?_
            refine O.nil ?_
            refine C.seq ?_
            refine C.seq ?_
            refine C.region ?_
            refine O.val (v := .slice (A131_4) ((lbF a b).length) (c131_4)) rfl (Ru.move rfl) rfl ?_
            refine O.val (v := .slice (A18_4) ((lbF a b).length) (c18_4)) rfl (Ru.move rfl) rfl ?_
            refine O.callg [.slice (A131_4) ((lbF a b).length) (c131_4), .slice (A18_4) ((lbF a b).length) (c18_4)] rfl en23 rfl rfl (eqRecordS_fn A131_4 c131_4 (lbF a b) A18_4 c18_4 (lbF a b) w31_4 (hM31_4.rd 0 rfl) (hM31_4.rd 8 rfl) (by omega)) ?_
            rintro _ w32_2 ⟨hv32_2, hR32_2⟩
            obtain rfl : _ = Value.bool true := hv32_2.trans (by simp)
            have hM32_2 : Mem w w32_2 [] [[⟨.slice (A131_4) ((lbF a b).length) (c131_4), 34, 3, ((lbF a b).length), (lbF a b).flatMap encG⟩], [⟨.slice (A131_3) ((b).length) (c131_3), 53, 2, ((b).length), (b).flatMap encP⟩], [⟨.slice (A131_1) ((a).length) (c131_1), 53, 2, ((a).length), (a).flatMap encP⟩], [⟨.slice (A111_2) (((lbF a b)).length) (c111_2), 34, 3, (((lbF a b)).length), (mkL (fun t => ⟨((1 + 3 * t : Nat) : Int), ((1 + 3 * t + 1 : Nat) : Int), ((1 + 3 * t + 2 : Nat) : Int)⟩ : Nat → RecT) (lbF a b).length).flatMap encG⟩], [⟨.slice (A110_1) ((b).length) (c110_1), 53, 2, ((b).length), (mkL (fun t => ⟨(((1 + 2 * a.length) + 2 * t : Nat) : Int), (((1 + 2 * a.length) + 2 * t + 1 : Nat) : Int)⟩ : Nat → PairT) b.length).flatMap encP⟩], [⟨.slice (A19_1) ((a).length) (c19_1), 53, 2, ((a).length), (mkL (fun t => ⟨((1 + 2 * t : Nat) : Int), ((1 + 2 * t + 1 : Nat) : Int)⟩ : Nat → PairT) a.length).flatMap encP⟩], [⟨.slice (A116_2) ((b).length) (c116_2), 53, 2, ((b).length), (b).flatMap encP⟩], [⟨.slice (A114_2) ((a).length) (c114_2), 53, 2, ((a).length), (a).flatMap encP⟩], [⟨.slice (A18_4) ((lbF a b).length) (c18_4), 34, 3, ((lbF a b).length), (lbF a b).flatMap encG⟩], [⟨.slice (A18_3) ((b).length) (c18_3), 53, 2, ((b).length), (b).flatMap encP⟩], [⟨.slice (A18_1) ((a).length) (c18_1), 53, 2, ((a).length), (a).flatMap encP⟩]] := Mem.call (Ma := []) hM31_4 hR32_2 rfl
            refine O.val (v := .bool (false)) rfl (Ru.not (b := true) rfl) rfl ?_
            refine O.nil ?_
            refine C.condF rfl ?_
            refine C.skip ?_
            refine C.seq ?_
            refine C.region ?_
            refine O.val (v := I (1)) rfl (Ru.assign rfl) rfl ?_
            refine O.nil ?_
            refine C.seq ?_
            refine C.region ?_
            refine O.val (v := .slice (A111_2) ((lbF a b).length) (c111_2)) rfl (Ru.move rfl) rfl ?_
            refine O.val (v := I (1)) rfl (Ru.move rfl) rfl ?_
            refine O.callg [.slice (A111_2) ((lbF a b).length) (c111_2), I (1)] rfl en29 rfl rfl (heldRecordS_fn A111_2 ((lbF a b).length) c111_2 1 w32_2 (hM32_2.rd 3 rfl) (by first | omega | assumption | (simp; omega) | simp | (intros; omega)) (by first | omega | assumption | (simp; omega) | simp | (intros; omega))) ?_
            rintro _ w35_2 ⟨rfl, hR35_2⟩
            have hM35_2 : Mem w w35_2 [] [[⟨.slice (A131_4) ((lbF a b).length) (c131_4), 34, 3, ((lbF a b).length), (lbF a b).flatMap encG⟩], [⟨.slice (A131_3) ((b).length) (c131_3), 53, 2, ((b).length), (b).flatMap encP⟩], [⟨.slice (A131_1) ((a).length) (c131_1), 53, 2, ((a).length), (a).flatMap encP⟩], [⟨.slice (A111_2) (((lbF a b)).length) (c111_2), 34, 3, (((lbF a b)).length), (mkL (fun t => ⟨((1 + 3 * t : Nat) : Int), ((1 + 3 * t + 1 : Nat) : Int), ((1 + 3 * t + 2 : Nat) : Int)⟩ : Nat → RecT) (lbF a b).length).flatMap encG⟩], [⟨.slice (A110_1) ((b).length) (c110_1), 53, 2, ((b).length), (mkL (fun t => ⟨(((1 + 2 * a.length) + 2 * t : Nat) : Int), (((1 + 2 * a.length) + 2 * t + 1 : Nat) : Int)⟩ : Nat → PairT) b.length).flatMap encP⟩], [⟨.slice (A19_1) ((a).length) (c19_1), 53, 2, ((a).length), (mkL (fun t => ⟨((1 + 2 * t : Nat) : Int), ((1 + 2 * t + 1 : Nat) : Int)⟩ : Nat → PairT) a.length).flatMap encP⟩], [⟨.slice (A116_2) ((b).length) (c116_2), 53, 2, ((b).length), (b).flatMap encP⟩], [⟨.slice (A114_2) ((a).length) (c114_2), 53, 2, ((a).length), (a).flatMap encP⟩], [⟨.slice (A18_4) ((lbF a b).length) (c18_4), 34, 3, ((lbF a b).length), (lbF a b).flatMap encG⟩], [⟨.slice (A18_3) ((b).length) (c18_3), 53, 2, ((b).length), (b).flatMap encP⟩], [⟨.slice (A18_1) ((a).length) (c18_1), 53, 2, ((a).length), (a).flatMap encP⟩]] := Mem.call (Ma := []) hM32_2 hR35_2 rfl
            refine O.val (v := I (((1 + 3 * ((lbF a b).length) : Nat) : Int))) rfl (Ru.assign rfl) rfl ?_
            refine O.nil ?_
            refine C.seq ?_
            refine C.seq ?_
            refine C.region ?_
            refine O.val (v := I (((1 + 3 * ((lbF a b).length) : Nat) : Int))) rfl (Ru.move rfl) rfl ?_
            refine O.val (v := .bool (decide (((1 + 3 * ((lbF a b).length) : Nat) : Int) < 0))) rfl (Ru.lss rfl rfl) rfl ?_
            refine O.nil ?_
            refine C.cond (p := ((1 + 3 * ((lbF a b).length) : Nat) : Int) < 0) rfl (fun c88 => ?_) (fun c88 => ?_)
            · exfalso; omega
            · refine C.skip ?_
              refine C.seq ?_
              refine C.seq ?_
              refine C.region ?_
              refine O.val (v := I (((1 + 3 * ((lbF a b).length) : Nat) : Int))) rfl (Ru.move rfl) rfl ?_
              refine O.val (v := I (((1 + 3 * (lbF a b).length : Nat) : Int))) rfl (Ru.move rfl) rfl ?_
              refine O.val (v := .bool (decide (((1 + 3 * ((lbF a b).length) : Nat) : Int) ≠ ((1 + 3 * (lbF a b).length : Nat) : Int)))) rfl (Ru.neq rfl rfl) rfl ?_
              refine O.nil ?_
              refine C.cond (p := ((1 + 3 * ((lbF a b).length) : Nat) : Int) ≠ ((1 + 3 * (lbF a b).length : Nat) : Int)) rfl (fun c91 => ?_) (fun c91 => ?_)
              · exfalso; omega
              · refine C.skip ?_
                refine C.seq ?_
                refine C.region ?_
                refine O.val (v := .bool (true)) rfl (Ru.assign rfl) rfl ?_
                refine O.nil ?_
                refine C.ret ?_
                refine P1 (v := .bool (true)) rfl ?_
                exact ⟨rfl, (Mem.none hM35_2)⟩
end Go.Proofs.Ytgflcaeibbnkcaa
namespace Go.Proofs.Ytgflcaeibbnkcaa.fnExactLogBetween
open Go.ChangeShapes Go.WideShapes Go.ChangeAt Go.RowKit Go.Px
open Go.ChangeMaps (open_string shut_string)
set_option linter.unusedVariables false

theorem own : ownKnob Try.prog.godebug = none := by kernel_rfl
theorem laidOut : laidOutB Try.prog = true := by kernel_rfl

set_option maxRecDepth 100000 in
theorem lifted (os : Os) (started : os.Started) (H : Type) (enc : TypeId × Value → H) :
    ReturnsInHanded {} Try.checked os 9 .any (Rows.fnExactLogBetweenSpec.pre6 enc Try.prog Try.f9 Rows.fnExactLogBetweenRow.domain false) (Rows.fnExactLogBetweenSpec.post enc Try.prog Try.f9 false true false false) := by
  refine returnsInHanded_of_change (C := Try.checked) own started (by kernel_rfl) Try.func9
    (ChangeSpec.witness6 (enc := enc) (C := Try.checked) false ⟨#[], #[.slice none 0 0, .slice none 0 0], []⟩ 8 (by kernel_rfl) (by kernel_rfl) (by kernel_rfl) (by kernel_rfl)) ?_
  intro W base args ds gs before hval0 hW hcnd _
  have hval : ∀ (j : Nat) t v, Try.f9.params[j]? = some t → args[j]? = some v → Value.okWide Try.prog W .any base t v := hval0
  have hW' := hW
  obtain ⟨p, q, hA0, hV, rfl, hfz, hnd⟩ := hW
  have hA : DataW.TrodAll enc Try.prog W 0 (fun _ => true) true Try.f9.params.toList args.toList ds p := hA0
  rw [Try.params9] at hA hval
  obtain ⟨v0, vs0, d0, ds0, p0, q0, hargs, rfl, rfl, h0, r0⟩ := trodAll_cons hA
  obtain ⟨v1, vs1, d1, ds1, p1, q1, rfl, rfl, rfl, h1, r1⟩ := trodAll_cons r0
  obtain ⟨rfl, rfl, rfl⟩ := trodAll_nil r1
  obtain rfl : args = #[v0, v1] := by cases args; simp_all
  obtain ⟨rfl, rfl⟩ := trodVars_none hV
  have k0 := h0
  have lt0 : ∀ x ∈ p0, x.block < W.heap.size := by obtain ⟨m, hm⟩ := k0; exact DataW.trod_lt m _ _ _ hm
  obtain ⟨a0, len0, cap0, rfl⟩ := okWide_slice Try.underlying41 (hval 0 41 v0 rfl rfl)
  have kk0 := k0
  obtain ⟨fuel0, hf0⟩ := kk0
  obtain ⟨z0, rfl, hz0, hc0, hw0, hRd0⟩ := slice_in (α := PairT) (f := encP) (c := 2) (ok := fun r : PairT => (-9223372036854775808 ≤ r.key ∧ r.key ≤ 9223372036854775807) ∧ (-9223372036854775808 ≤ r.val ∧ r.val ≤ 9223372036854775807)) Try.underlying41 (by kernel_rfl) (fun _ => rfl) (fun n cs y h => by
    obtain ⟨hl, hf⟩ := struct_els (l := [(3, 0, 1), (3, 1, 1)]) (k := 2) (by kernel_rfl) (by kernel_rfl) h
    match cs, hl with
    | [b0, b1], _ =>
      obtain ⟨_, _, h0⟩ := hf (3, 0, 1) (by simp)
      obtain ⟨x0, e0, k0⟩ := int_el Try.underlying3 _ _ _ h0
      obtain ⟨_, _, h1⟩ := hf (3, 1, 1) (by simp)
      obtain ⟨x1, e1, k1⟩ := int_el Try.underlying3 _ _ _ h1
      refine ⟨⟨x0, x1⟩, ?_, ⟨k0, k1⟩⟩
      simp at e0 e1
      simp [encP, e0, e1]) hf0
  have k1 := h1
  have lt1 : ∀ x ∈ p1, x.block < W.heap.size := by obtain ⟨m, hm⟩ := k1; exact DataW.trod_lt m _ _ _ hm
  obtain ⟨a1, len1, cap1, rfl⟩ := okWide_slice Try.underlying41 (hval 1 41 v1 rfl rfl)
  have kk1 := k1
  obtain ⟨fuel1, hf1⟩ := kk1
  obtain ⟨z1, rfl, hz1, hc1, hw1, hRd1⟩ := slice_in (α := PairT) (f := encP) (c := 2) (ok := fun r : PairT => (-9223372036854775808 ≤ r.key ∧ r.key ≤ 9223372036854775807) ∧ (-9223372036854775808 ≤ r.val ∧ r.val ≤ 9223372036854775807)) Try.underlying41 (by kernel_rfl) (fun _ => rfl) (fun n cs y h => by
    obtain ⟨hl, hf⟩ := struct_els (l := [(3, 0, 1), (3, 1, 1)]) (k := 2) (by kernel_rfl) (by kernel_rfl) h
    match cs, hl with
    | [b0, b1], _ =>
      obtain ⟨_, _, h0⟩ := hf (3, 0, 1) (by simp)
      obtain ⟨x0, e0, k0⟩ := int_el Try.underlying3 _ _ _ h0
      obtain ⟨_, _, h1⟩ := hf (3, 1, 1) (by simp)
      obtain ⟨x1, e1, k1⟩ := int_el Try.underlying3 _ _ _ h1
      refine ⟨⟨x0, x1⟩, ?_, ⟨k0, k1⟩⟩
      simp at e0 e1
      simp [encP, e0, e1]) hf1
  clear hA0 hval0
  refine (FnExactLogBetween_fn a0 cap0 z0 a1 cap1 z1 W hRd0 hRd1 hz0 hz1).out.mono fun e W' ⟨v, he, hv, hg⟩ => ?_
  subst he hv
  have bel : Below W.heap.size W W' := ⟨hg.os, hg.tape, hg.output, hg.size, fun k hk => hg.block k hk (by simp)⟩
  exact ⟨_, rfl, _, _, _, [], _, [], hW', trodAll_mk1 (shut_bool Try.underlying4 _), (trodAll_cons_mk (Below.trod laidOut (by kernel_rfl) (of_decide_eq_true (by kernel_rfl)) k0 bel lt0) (trodAll_cons_mk (Below.trod laidOut (by kernel_rfl) (of_decide_eq_true (by kernel_rfl)) k1 bel lt1) trodAll_mk0)), rfl, bel.frame _, fun h => by cases h⟩

theorem named_ : Try.prog.funcNamed Rows.fnExactLogBetweenRow.func = some 9 := by kernel_rfl
theorem closed : joinedFacts Try.prog 9 Try.f9 Rows.fnExactLogBetweenSpec Rows.fnExactLogBetweenRow = true := by
  unfold joinedFacts
  rw [enter_, lifts_, made_]
  kernel_rfl
theorem inst_ : Try.f9.isInstance Try.prog Rows.fnExactLogBetweenRow.origin Rows.fnExactLogBetweenRow.targs := of_decide_eq_true (by kernel_rfl)
theorem wrap_ : Try.f9.isWrapper Try.prog Rows.fnExactLogBetweenRow.wrapper Rows.fnExactLogBetweenRow.mainSum := by
  unfold Func.isWrapper
  rw [if_neg (by decide +kernel)]
  exact ⟨rfl, rfl⟩
theorem over : Rows.fnExactLogBetweenRow.holds Try.pinned (OpenSpec.ofChange Rows.fnExactLogBetweenSpec) :=
  OpenClaim.holds_of_wide 9 Try.f9 rfl rfl rfl rfl rfl rfl rfl ⟨rfl, rfl, rfl, rfl, rfl⟩ rfl rfl rfl rfl rfl named_ Try.func9 closed inst_ wrap_
    (fun os started H enc _ => lifted os started H enc)
theorem proved : Rows.FnExactLogBetweenSaid := over
end Go.Proofs.Ytgflcaeibbnkcaa.fnExactLogBetween
