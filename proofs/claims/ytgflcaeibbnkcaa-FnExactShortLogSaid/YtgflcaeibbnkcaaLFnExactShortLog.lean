/- The statement Rows.FnExactShortLogSaid: the Go function laws.FnExactShortLog returns true for every input, and each argument reads afterwards as it read before. No conditions. -/
import Derived.Test.YtgflcaeibbnkcaaRows
import Derived.Test.YtgflcaeibbnkcaaPxO
import Derived.Test.YtgflcaeibbnkcaaLI
import Derived.Test.YtgflcaeibbnkcaaH0
import Derived.WalkKit
import Derived.ProofKit
import Derived.OpenShut
import Derived.ShutString
import Derived.ChangeOld
import Derived.SliceStrings
import Derived.Deep.Slices
import Derived.Deep.Fields
import Derived.ChangeSame
import Derived.Below
set_option linter.unusedVariables false
set_option linter.unusedSimpArgs false
namespace Go.Proofs.Ytgflcaeibbnkcaa
open Go.Px
set_option linter.unusedVariables false
theorem FnExactShortLog_fn (A : Option Addr) (c : Nat) (l : List RecT) (w : World) (hA : Rd w A ((l).flatMap encG)) (hl : l.length ≤ 9223372036854775807) :
    Does Try.prog 7 [.slice (A) ((l).length) (c)] w (fun v w1 => v = .bool (true) ∧ Mem w w1 [] []) := by
  have hM : Mem w w [] [] := Mem.refl
  refine Does.enter1 Try.func7 rfl Try.results7 Try.ntmps7 rfl ?_
  refine C.seq ?_
  refine C.region ?_
  refine O.val (v := .bool (false)) rfl (Ru.assign rfl) rfl ?_
  refine O.nil ?_
  refine C.seq ?_
  refine C.region ?_
  refine O.val (v := I (1048576)) rfl (Ru.assign rfl) rfl ?_
  refine O.nil ?_
  refine C.seq ?_
  refine C.region ?_
  refine O.val (v := .slice (A) ((l).length) (c)) rfl (Ru.move rfl) rfl ?_
  refine O.val (v := I (1048576)) rfl (Ru.move rfl) rfl ?_
  refine O.callg [.slice (A) ((l).length) (c), I (1048576)] rfl en21 rfl rfl (szRecordS_fn A c l 1048576 w (hA.at hM) (by first | omega | assumption | (simp; omega) | simp | (intros; omega)) (by first | omega | assumption | (simp; omega) | simp | (intros; omega))) ?_
  rintro _ w2_2 ⟨rfl, hR2_2⟩
  have hM2_2 : Mem w w2_2 [] [] := Mem.call (Ma := []) hM hR2_2 rfl
  refine O.val (v := I ((if 1048576 < (l.length : Int) then (-1 : Int) else 1048576 - (l.length : Int)))) rfl (Ru.assign rfl) rfl ?_
  refine O.nil ?_
  refine C.seq ?_
  refine C.seq ?_
  refine C.region ?_
  refine O.val (v := I ((if 1048576 < (l.length : Int) then (-1 : Int) else 1048576 - (l.length : Int)))) rfl (Ru.move rfl) rfl ?_
  refine O.val (v := .bool (decide ((if 1048576 < (l.length : Int) then (-1 : Int) else 1048576 - (l.length : Int)) < 0))) rfl (Ru.lss rfl rfl) rfl ?_
  refine O.nil ?_
  refine C.cond (p := (if 1048576 < (l.length : Int) then (-1 : Int) else 1048576 - (l.length : Int)) < 0) rfl (fun c15 => ?_) (fun c15 => ?_)
  · refine C.seq ?_
    refine C.region ?_
    refine O.val (v := .bool (true)) rfl (Ru.assign rfl) rfl ?_
    refine O.nil ?_
    refine C.ret ?_
    refine P1 (v := .bool (true)) rfl ?_
    exact ⟨rfl, (Mem.none hM2_2)⟩
  · have hz1 : l.length ≤ 1048576 := by split at c15 <;> omega
    have hsl := shF_len (log := l)
    refine C.skip ?_
    refine C.seq ?_
    refine C.region ?_
    refine O.val (v := .slice (A) ((l).length) (c)) rfl (Ru.move rfl) rfl ?_
    refine O.callg [.slice (A) ((l).length) (c)] rfl en22 rfl rfl (toRecordS_fn A c l w2_2 (hA.at hM2_2) (by first | omega | assumption | (simp; omega) | simp | (intros; omega))) ?_
    rintro _ w5_1 ⟨A15_1, c15_1, rfl, hR5_1⟩
    have hM5_1 : Mem w w5_1 [] [[⟨.slice (A15_1) ((l).length) (c15_1), 34, 3, ((l).length), (l).flatMap encG⟩]] := Mem.call (Ma := []) hM2_2 hR5_1 rfl
    have hcr5_1_0 := (hM5_1.cap 0 rfl).1
    refine O.callg [.slice (A15_1) ((l).length) (c15_1)] rfl en27 rfl rfl (sShortLog_fn A15_1 c15_1 l w5_1 (hM5_1.rd 0 rfl) (by first | omega | assumption | (simp; omega) | simp | (intros; omega))) ?_
    rintro _ w5_2 ⟨A15_2, c15_2, rfl, hR5_2⟩
    have hM5_2 : Mem w w5_2 [] [[⟨.slice (A15_2) ((shF l).length) (c15_2), 34, 3, ((shF l).length), (shF l).flatMap encG⟩], [⟨.slice (A15_1) ((l).length) (c15_1), 34, 3, ((l).length), (l).flatMap encG⟩]] := Mem.call (Ma := []) hM5_1 hR5_2 rfl
    have hcr5_2_0 := (hM5_2.cap 0 rfl).1
    refine O.val (v := .slice (A15_2) ((shF l).length) (c15_2)) rfl (Ru.assign rfl) rfl ?_
    refine O.nil ?_
    refine C.seq ?_
    refine C.region ?_
    refine O.val (v := .slice (A) ((l).length) (c)) rfl (Ru.move rfl) rfl ?_
    refine O.callg [.slice (A) ((l).length) (c)] rfl en22 rfl rfl (toRecordS_fn A c l w5_2 (hA.at hM5_2) (by first | omega | assumption | (simp; omega) | simp | (intros; omega))) ?_
    rintro _ w6_1 ⟨A16_1, c16_1, rfl, hR6_1⟩
    have hM6_1 : Mem w w6_1 [] [[⟨.slice (A16_1) ((l).length) (c16_1), 34, 3, ((l).length), (l).flatMap encG⟩], [⟨.slice (A15_2) ((shF l).length) (c15_2), 34, 3, ((shF l).length), (shF l).flatMap encG⟩], [⟨.slice (A15_1) ((l).length) (c15_1), 34, 3, ((l).length), (l).flatMap encG⟩]] := Mem.call (Ma := []) hM5_2 hR6_1 rfl
    have hcr6_1_0 := (hM6_1.cap 0 rfl).1
    refine O.val (v := .slice (A16_1) ((l).length) (c16_1)) rfl (Ru.assign rfl) rfl ?_
    refine O.nil ?_
    refine C.seq ?_
    refine C.region ?_
    refine O.val (v := .slice (A16_1) ((l).length) (c16_1)) rfl (Ru.move rfl) rfl ?_
    refine O.callg [.slice (A16_1) ((l).length) (c16_1)] rfl en25 rfl rfl (ShortLog_fn A16_1 c16_1 l w6_1 (hM6_1.rd 0 rfl) (by first | omega | assumption | (simp; omega) | simp | (intros; omega)) (by first | omega | assumption | (simp; omega) | simp | (intros; omega))) ?_
    rintro _ w7_1 ⟨A17_1, c17_1, rfl, hR7_1⟩
    have hM7_1 : Mem w w7_1 [] [[⟨.slice (A17_1) ((shF l).length) (c17_1), 34, 3, ((shF l).length), (shF l).flatMap encG⟩], [⟨.slice (A16_1) ((l).length) (c16_1), 34, 3, ((l).length), (l).flatMap encG⟩], [⟨.slice (A15_2) ((shF l).length) (c15_2), 34, 3, ((shF l).length), (shF l).flatMap encG⟩], [⟨.slice (A15_1) ((l).length) (c15_1), 34, 3, ((l).length), (l).flatMap encG⟩]] := Mem.call (Ma := []) hM6_1 hR7_1 rfl
    have hcr7_1_0 := (hM7_1.cap 0 rfl).1
    refine O.val (v := .slice (A17_1) ((shF l).length) (c17_1)) rfl (Ru.assign rfl) rfl ?_
    refine O.nil ?_
    refine C.seq ?_
    refine C.seq ?_
    refine C.region ?_
    refine O.val (v := .slice (A17_1) ((shF l).length) (c17_1)) rfl (Ru.move rfl) rfl ?_
    refine O.val (v := .slice (A15_2) ((shF l).length) (c15_2)) rfl (Ru.move rfl) rfl ?_
    refine O.callg [.slice (A17_1) ((shF l).length) (c17_1), .slice (A15_2) ((shF l).length) (c15_2)] rfl en23 rfl rfl (eqRecordS_fn A17_1 c17_1 (shF l) A15_2 c15_2 (shF l) w7_1 (hM7_1.rd 0 rfl) (hM7_1.rd 2 rfl) (by omega)) ?_
    rintro _ w8_2 ⟨hv8_2, hR8_2⟩
    obtain rfl : _ = Value.bool true := hv8_2.trans (by simp)
    have hM8_2 : Mem w w8_2 [] [[⟨.slice (A17_1) ((shF l).length) (c17_1), 34, 3, ((shF l).length), (shF l).flatMap encG⟩], [⟨.slice (A16_1) ((l).length) (c16_1), 34, 3, ((l).length), (l).flatMap encG⟩], [⟨.slice (A15_2) ((shF l).length) (c15_2), 34, 3, ((shF l).length), (shF l).flatMap encG⟩], [⟨.slice (A15_1) ((l).length) (c15_1), 34, 3, ((l).length), (l).flatMap encG⟩]] := Mem.call (Ma := []) hM7_1 hR8_2 rfl
    refine O.val (v := .bool (false)) rfl (Ru.not (b := true) rfl) rfl ?_
    refine O.nil ?_
    refine C.condF rfl ?_
    refine C.skip ?_
    refine C.seq ?_
    refine C.seq ?_
    refine C.region ?_
    refine O.val (v := .slice (A16_1) ((l).length) (c16_1)) rfl (Ru.move rfl) rfl ?_
    refine O.val (v := .slice (A) ((l).length) (c)) rfl (Ru.move rfl) rfl ?_
    refine O.callg [.slice (A) ((l).length) (c)] rfl en22 rfl rfl (toRecordS_fn A c l w8_2 (hA.at hM8_2) (by first | omega | assumption | (simp; omega) | simp | (intros; omega))) ?_
    rintro _ w10_2 ⟨A110_2, c110_2, rfl, hR10_2⟩
    have hM10_2 : Mem w w10_2 [] [[⟨.slice (A110_2) ((l).length) (c110_2), 34, 3, ((l).length), (l).flatMap encG⟩], [⟨.slice (A17_1) ((shF l).length) (c17_1), 34, 3, ((shF l).length), (shF l).flatMap encG⟩], [⟨.slice (A16_1) ((l).length) (c16_1), 34, 3, ((l).length), (l).flatMap encG⟩], [⟨.slice (A15_2) ((shF l).length) (c15_2), 34, 3, ((shF l).length), (shF l).flatMap encG⟩], [⟨.slice (A15_1) ((l).length) (c15_1), 34, 3, ((l).length), (l).flatMap encG⟩]] := Mem.call (Ma := []) hM8_2 hR10_2 rfl
    have hcr10_2_0 := (hM10_2.cap 0 rfl).1
    refine O.callg [.slice (A16_1) ((l).length) (c16_1), .slice (A110_2) ((l).length) (c110_2)] rfl en23 rfl rfl (eqRecordS_fn A16_1 c16_1 l A110_2 c110_2 l w10_2 (hM10_2.rd 2 rfl) (hM10_2.rd 0 rfl) (by first | omega | assumption | (simp; omega) | simp | (intros; omega))) ?_
    rintro _ w10_3 ⟨hv10_3, hR10_3⟩
    obtain rfl : _ = Value.bool true := hv10_3.trans (by simp)
    have hM10_3 : Mem w w10_3 [] [[⟨.slice (A110_2) ((l).length) (c110_2), 34, 3, ((l).length), (l).flatMap encG⟩], [⟨.slice (A17_1) ((shF l).length) (c17_1), 34, 3, ((shF l).length), (shF l).flatMap encG⟩], [⟨.slice (A16_1) ((l).length) (c16_1), 34, 3, ((l).length), (l).flatMap encG⟩], [⟨.slice (A15_2) ((shF l).length) (c15_2), 34, 3, ((shF l).length), (shF l).flatMap encG⟩], [⟨.slice (A15_1) ((l).length) (c15_1), 34, 3, ((l).length), (l).flatMap encG⟩]] := Mem.call (Ma := []) hM10_2 hR10_3 rfl
    refine O.val (v := .bool (false)) rfl (Ru.not (b := true) rfl) rfl ?_
    refine O.nil ?_
    refine C.condF rfl ?_
    refine C.skip ?_
    refine C.seq ?_
    refine C.region ?_
    refine O.val (v := I (1)) rfl (Ru.assign rfl) rfl ?_
    refine O.nil ?_
    refine C.seq ?_
    refine C.region ?_
    refine O.val (v := .slice (A16_1) ((l).length) (c16_1)) rfl (Ru.move rfl) rfl ?_
    refine O.val (v := I (1)) rfl (Ru.move rfl) rfl ?_
    have hMf13_2 : Mem w w10_3 [] [[⟨.slice (A16_1) ((l).length) (c16_1), 34, 3, ((l).length), (l).flatMap encG⟩], [⟨.slice (A110_2) ((l).length) (c110_2), 34, 3, ((l).length), (l).flatMap encG⟩], [⟨.slice (A17_1) ((shF l).length) (c17_1), 34, 3, ((shF l).length), (shF l).flatMap encG⟩], [⟨.slice (A15_2) ((shF l).length) (c15_2), 34, 3, ((shF l).length), (shF l).flatMap encG⟩], [⟨.slice (A15_1) ((l).length) (c15_1), 34, 3, ((l).length), (l).flatMap encG⟩]] := hM10_3.pick [2, 0, 1, 3, 4] (by decide) rfl
    refine O.callg [.slice (A16_1) ((l).length) (c16_1), I (1)] rfl en28 rfl rfl (markRecordS_fn A16_1 c16_1 l 1 w10_3 (Mem.focus (Ma := [[⟨.slice (A16_1) ((l).length) (c16_1), 34, 3, ((l).length), (l).flatMap encG⟩]]) (rest := [[⟨.slice (A110_2) ((l).length) (c110_2), 34, 3, ((l).length), (l).flatMap encG⟩], [⟨.slice (A17_1) ((shF l).length) (c17_1), 34, 3, ((shF l).length), (shF l).flatMap encG⟩], [⟨.slice (A15_2) ((shF l).length) (c15_2), 34, 3, ((shF l).length), (shF l).flatMap encG⟩], [⟨.slice (A15_1) ((l).length) (c15_1), 34, 3, ((l).length), (l).flatMap encG⟩]]) hMf13_2 rfl) (by first | omega | assumption | (simp; omega) | simp | (intros; omega)) (by first | omega | assumption | (simp; omega) | simp | (intros; omega))) ?_
    rintro _ w13_2 ⟨rfl, hR13_2⟩
    have hM13_2 : Mem w w13_2 [] [[⟨.slice (A16_1) ((l).length) (c16_1), 34, 3, ((l).length), (mkL (fun t => ⟨((1 + 3 * t : Nat) : Int), ((1 + 3 * t + 1 : Nat) : Int), ((1 + 3 * t + 2 : Nat) : Int)⟩ : Nat → RecT) l.length).flatMap encG⟩], [⟨.slice (A110_2) ((l).length) (c110_2), 34, 3, ((l).length), (l).flatMap encG⟩], [⟨.slice (A17_1) ((shF l).length) (c17_1), 34, 3, ((shF l).length), (shF l).flatMap encG⟩], [⟨.slice (A15_2) ((shF l).length) (c15_2), 34, 3, ((shF l).length), (shF l).flatMap encG⟩], [⟨.slice (A15_1) ((l).length) (c15_1), 34, 3, ((l).length), (l).flatMap encG⟩]] := Mem.call (Ma := [[⟨.slice (A16_1) ((l).length) (c16_1), 34, 3, ((l).length), (l).flatMap encG⟩]]) hMf13_2 hR13_2 rfl
    have hcr13_2_0 := (hM13_2.cap 0 rfl).1
    refine O.val (v := I (((1 + 3 * l.length : Nat) : Int))) rfl (Ru.assign rfl) rfl ?_
    refine O.nil ?_
    refine C.seq ?_
    refine C.seq ?_
    refine C.region ?_
    refine O.val (v := I (((1 + 3 * l.length : Nat) : Int))) rfl (Ru.move rfl) rfl ?_
    refine O.val (v := .bool (decide (((1 + 3 * l.length : Nat) : Int) < 0))) rfl (Ru.lss rfl rfl) rfl ?_
    refine O.val (v := .bool (decide (((1 + 3 * l.length : Nat) : Int) < 0))) rfl (Ru.move rfl) rfl ?_
    refine O.partp 37 (((1 + 3 * l.length : Nat) : Int) < 0) rfl (fun g37 => ?_) (fun g37 => ?_)
    · exfalso; omega
    · refine O.val (v := .slice (A17_1) ((shF l).length) (c17_1)) rfl (Ru.move rfl) rfl ?_
      refine O.val (v := .slice (A15_2) ((shF l).length) (c15_2)) rfl (Ru.move rfl) rfl ?_
      refine O.callg [.slice (A17_1) ((shF l).length) (c17_1), .slice (A15_2) ((shF l).length) (c15_2)] rfl en23 rfl rfl (eqRecordS_fn A17_1 c17_1 (shF l) A15_2 c15_2 (shF l) w13_2 (hM13_2.rd 2 rfl) (hM13_2.rd 3 rfl) (by omega)) ?_
      rintro _ w14_5 ⟨hv14_5, hR14_5⟩
      obtain rfl : _ = Value.bool true := hv14_5.trans (by simp)
      have hM14_5 : Mem w w14_5 [] [[⟨.slice (A16_1) ((l).length) (c16_1), 34, 3, ((l).length), (mkL (fun t => ⟨((1 + 3 * t : Nat) : Int), ((1 + 3 * t + 1 : Nat) : Int), ((1 + 3 * t + 2 : Nat) : Int)⟩ : Nat → RecT) l.length).flatMap encG⟩], [⟨.slice (A110_2) ((l).length) (c110_2), 34, 3, ((l).length), (l).flatMap encG⟩], [⟨.slice (A17_1) ((shF l).length) (c17_1), 34, 3, ((shF l).length), (shF l).flatMap encG⟩], [⟨.slice (A15_2) ((shF l).length) (c15_2), 34, 3, ((shF l).length), (shF l).flatMap encG⟩], [⟨.slice (A15_1) ((l).length) (c15_1), 34, 3, ((l).length), (l).flatMap encG⟩]] := Mem.call (Ma := []) hM13_2 hR14_5 rfl
      refine O.val (v := .bool (false)) rfl (Ru.not (b := true) rfl) rfl ?_
      refine O.val (v := .bool (false)) rfl (Ru.pickF rfl rfl) rfl ?_
      refine O.nil ?_
      refine C.condF rfl ?_
      refine C.skip ?_
      refine C.seq ?_
      refine C.region ?_
      refine O.val (v := I (1)) rfl (Ru.assign rfl) rfl ?_
      refine O.nil ?_
      refine C.seq ?_
      refine C.region ?_
      refine O.val (v := .slice (A17_1) ((shF l).length) (c17_1)) rfl (Ru.move rfl) rfl ?_
      refine O.val (v := I (1)) rfl (Ru.move rfl) rfl ?_
      have hMf17_2 : Mem w w14_5 [] [[⟨.slice (A17_1) ((shF l).length) (c17_1), 34, 3, ((shF l).length), (shF l).flatMap encG⟩], [⟨.slice (A16_1) ((l).length) (c16_1), 34, 3, ((l).length), (mkL (fun t => ⟨((1 + 3 * t : Nat) : Int), ((1 + 3 * t + 1 : Nat) : Int), ((1 + 3 * t + 2 : Nat) : Int)⟩ : Nat → RecT) l.length).flatMap encG⟩], [⟨.slice (A110_2) ((l).length) (c110_2), 34, 3, ((l).length), (l).flatMap encG⟩], [⟨.slice (A15_2) ((shF l).length) (c15_2), 34, 3, ((shF l).length), (shF l).flatMap encG⟩], [⟨.slice (A15_1) ((l).length) (c15_1), 34, 3, ((l).length), (l).flatMap encG⟩]] := hM14_5.pick [2, 0, 1, 3, 4] (by decide) rfl
      refine O.callg [.slice (A17_1) ((shF l).length) (c17_1), I (1)] rfl en28 rfl rfl (markRecordS_fn A17_1 c17_1 (shF l) 1 w14_5 (Mem.focus (Ma := [[⟨.slice (A17_1) ((shF l).length) (c17_1), 34, 3, ((shF l).length), (shF l).flatMap encG⟩]]) (rest := [[⟨.slice (A16_1) ((l).length) (c16_1), 34, 3, ((l).length), (mkL (fun t => ⟨((1 + 3 * t : Nat) : Int), ((1 + 3 * t + 1 : Nat) : Int), ((1 + 3 * t + 2 : Nat) : Int)⟩ : Nat → RecT) l.length).flatMap encG⟩], [⟨.slice (A110_2) ((l).length) (c110_2), 34, 3, ((l).length), (l).flatMap encG⟩], [⟨.slice (A15_2) ((shF l).length) (c15_2), 34, 3, ((shF l).length), (shF l).flatMap encG⟩], [⟨.slice (A15_1) ((l).length) (c15_1), 34, 3, ((l).length), (l).flatMap encG⟩]]) hMf17_2 rfl) (by first | omega | assumption | (simp; omega) | simp | (intros; omega)) (by first | omega | assumption | (simp; omega) | simp | (intros; omega))) ?_
      rintro _ w17_2 ⟨rfl, hR17_2⟩
      have hM17_2 : Mem w w17_2 [] [[⟨.slice (A17_1) (((shF l)).length) (c17_1), 34, 3, (((shF l)).length), (mkL (fun t => ⟨((1 + 3 * t : Nat) : Int), ((1 + 3 * t + 1 : Nat) : Int), ((1 + 3 * t + 2 : Nat) : Int)⟩ : Nat → RecT) (shF l).length).flatMap encG⟩], [⟨.slice (A16_1) ((l).length) (c16_1), 34, 3, ((l).length), (mkL (fun t => ⟨((1 + 3 * t : Nat) : Int), ((1 + 3 * t + 1 : Nat) : Int), ((1 + 3 * t + 2 : Nat) : Int)⟩ : Nat → RecT) l.length).flatMap encG⟩], [⟨.slice (A110_2) ((l).length) (c110_2), 34, 3, ((l).length), (l).flatMap encG⟩], [⟨.slice (A15_2) ((shF l).length) (c15_2), 34, 3, ((shF l).length), (shF l).flatMap encG⟩], [⟨.slice (A15_1) ((l).length) (c15_1), 34, 3, ((l).length), (l).flatMap encG⟩]] := Mem.call (Ma := [[⟨.slice (A17_1) ((shF l).length) (c17_1), 34, 3, ((shF l).length), (shF l).flatMap encG⟩]]) hMf17_2 hR17_2 rfl
      have hcr17_2_0 := (hM17_2.cap 0 rfl).1
      refine O.val (v := I (((1 + 3 * (shF l).length : Nat) : Int))) rfl (Ru.assign rfl) rfl ?_
      refine O.nil ?_
      refine C.seq ?_
      refine C.region ?_
      refine O.val (v := I (1)) rfl (Ru.assign rfl) rfl ?_
      refine O.nil ?_
      refine C.seq ?_
      refine C.region ?_
      refine O.val (v := .slice (A17_1) ((shF l).length) (c17_1)) rfl (Ru.move rfl) rfl ?_
      refine O.val (v := I (1)) rfl (Ru.move rfl) rfl ?_
      refine O.callg [.slice (A17_1) ((shF l).length) (c17_1), I (1)] rfl en29 rfl rfl (heldRecordS_fn A17_1 ((shF l).length) c17_1 1 w17_2 (hM17_2.rd 0 rfl) (by first | omega | assumption | (simp; omega) | simp | (intros; omega)) (by first | omega | assumption | (simp; omega) | simp | (intros; omega))) ?_
      rintro _ w19_2 ⟨rfl, hR19_2⟩
      have hM19_2 : Mem w w19_2 [] [[⟨.slice (A17_1) (((shF l)).length) (c17_1), 34, 3, (((shF l)).length), (mkL (fun t => ⟨((1 + 3 * t : Nat) : Int), ((1 + 3 * t + 1 : Nat) : Int), ((1 + 3 * t + 2 : Nat) : Int)⟩ : Nat → RecT) (shF l).length).flatMap encG⟩], [⟨.slice (A16_1) ((l).length) (c16_1), 34, 3, ((l).length), (mkL (fun t => ⟨((1 + 3 * t : Nat) : Int), ((1 + 3 * t + 1 : Nat) : Int), ((1 + 3 * t + 2 : Nat) : Int)⟩ : Nat → RecT) l.length).flatMap encG⟩], [⟨.slice (A110_2) ((l).length) (c110_2), 34, 3, ((l).length), (l).flatMap encG⟩], [⟨.slice (A15_2) ((shF l).length) (c15_2), 34, 3, ((shF l).length), (shF l).flatMap encG⟩], [⟨.slice (A15_1) ((l).length) (c15_1), 34, 3, ((l).length), (l).flatMap encG⟩]] := Mem.call (Ma := []) hM17_2 hR19_2 rfl
      refine O.val (v := I (((1 + 3 * ((shF l).length) : Nat) : Int))) rfl (Ru.assign rfl) rfl ?_
      refine O.nil ?_
      refine C.seq ?_
      refine C.seq ?_
      refine C.region ?_
      refine O.val (v := I (((1 + 3 * ((shF l).length) : Nat) : Int))) rfl (Ru.move rfl) rfl ?_
      refine O.val (v := .bool (decide (((1 + 3 * ((shF l).length) : Nat) : Int) < 0))) rfl (Ru.lss rfl rfl) rfl ?_
      refine O.nil ?_
      refine C.cond (p := ((1 + 3 * ((shF l).length) : Nat) : Int) < 0) rfl (fun c50 => ?_) (fun c50 => ?_)
      · exfalso; omega
      · refine C.skip ?_
        refine C.seq ?_
        refine C.seq ?_
        refine C.region ?_
        refine O.val (v := I (((1 + 3 * ((shF l).length) : Nat) : Int))) rfl (Ru.move rfl) rfl ?_
        refine O.val (v := I (((1 + 3 * (shF l).length : Nat) : Int))) rfl (Ru.move rfl) rfl ?_
        refine O.val (v := .bool (decide (((1 + 3 * ((shF l).length) : Nat) : Int) ≠ ((1 + 3 * (shF l).length : Nat) : Int)))) rfl (Ru.neq rfl rfl) rfl ?_
        refine O.nil ?_
        refine C.cond (p := ((1 + 3 * ((shF l).length) : Nat) : Int) ≠ ((1 + 3 * (shF l).length : Nat) : Int)) rfl (fun c53 => ?_) (fun c53 => ?_)
        · exfalso; omega
        · refine C.skip ?_
          refine C.seq ?_
          refine C.region ?_
          refine O.val (v := .slice (A) ((l).length) (c)) rfl (Ru.move rfl) rfl ?_
          refine O.callg [.slice (A) ((l).length) (c)] rfl en22 rfl rfl (toRecordS_fn A c l w19_2 (hA.at hM19_2) (by first | omega | assumption | (simp; omega) | simp | (intros; omega))) ?_
          rintro _ w24_1 ⟨A124_1, c124_1, rfl, hR24_1⟩
          have hM24_1 : Mem w w24_1 [] [[⟨.slice (A124_1) ((l).length) (c124_1), 34, 3, ((l).length), (l).flatMap encG⟩], [⟨.slice (A17_1) (((shF l)).length) (c17_1), 34, 3, (((shF l)).length), (mkL (fun t => ⟨((1 + 3 * t : Nat) : Int), ((1 + 3 * t + 1 : Nat) : Int), ((1 + 3 * t + 2 : Nat) : Int)⟩ : Nat → RecT) (shF l).length).flatMap encG⟩], [⟨.slice (A16_1) ((l).length) (c16_1), 34, 3, ((l).length), (mkL (fun t => ⟨((1 + 3 * t : Nat) : Int), ((1 + 3 * t + 1 : Nat) : Int), ((1 + 3 * t + 2 : Nat) : Int)⟩ : Nat → RecT) l.length).flatMap encG⟩], [⟨.slice (A110_2) ((l).length) (c110_2), 34, 3, ((l).length), (l).flatMap encG⟩], [⟨.slice (A15_2) ((shF l).length) (c15_2), 34, 3, ((shF l).length), (shF l).flatMap encG⟩], [⟨.slice (A15_1) ((l).length) (c15_1), 34, 3, ((l).length), (l).flatMap encG⟩]] := Mem.call (Ma := []) hM19_2 hR24_1 rfl
          have hcr24_1_0 := (hM24_1.cap 0 rfl).1
          refine O.callg [.slice (A124_1) ((l).length) (c124_1)] rfl en25 rfl rfl (ShortLog_fn A124_1 c124_1 l w24_1 (hM24_1.rd 0 rfl) (by first | omega | assumption | (simp; omega) | simp | (intros; omega)) (by first | omega | assumption | (simp; omega) | simp | (intros; omega))) ?_
          rintro _ w24_2 ⟨A124_2, c124_2, rfl, hR24_2⟩
          have hM24_2 : Mem w w24_2 [] [[⟨.slice (A124_2) ((shF l).length) (c124_2), 34, 3, ((shF l).length), (shF l).flatMap encG⟩], [⟨.slice (A124_1) ((l).length) (c124_1), 34, 3, ((l).length), (l).flatMap encG⟩], [⟨.slice (A17_1) (((shF l)).length) (c17_1), 34, 3, (((shF l)).length), (mkL (fun t => ⟨((1 + 3 * t : Nat) : Int), ((1 + 3 * t + 1 : Nat) : Int), ((1 + 3 * t + 2 : Nat) : Int)⟩ : Nat → RecT) (shF l).length).flatMap encG⟩], [⟨.slice (A16_1) ((l).length) (c16_1), 34, 3, ((l).length), (mkL (fun t => ⟨((1 + 3 * t : Nat) : Int), ((1 + 3 * t + 1 : Nat) : Int), ((1 + 3 * t + 2 : Nat) : Int)⟩ : Nat → RecT) l.length).flatMap encG⟩], [⟨.slice (A110_2) ((l).length) (c110_2), 34, 3, ((l).length), (l).flatMap encG⟩], [⟨.slice (A15_2) ((shF l).length) (c15_2), 34, 3, ((shF l).length), (shF l).flatMap encG⟩], [⟨.slice (A15_1) ((l).length) (c15_1), 34, 3, ((l).length), (l).flatMap encG⟩]] := Mem.call (Ma := []) hM24_1 hR24_2 rfl
          have hcr24_2_0 := (hM24_2.cap 0 rfl).1
          refine O.val (v := .slice (A124_2) ((shF l).length) (c124_2)) rfl (Ru.assign rfl) rfl ?_
          refine O.nil ?_
          refine C.seq ?_
          refine C.seq ?_
          refine C.region ?_
          refine O.val (v := .slice (A124_2) ((shF l).length) (c124_2)) rfl (Ru.move rfl) rfl ?_
          refine O.val (v := .slice (A15_2) ((shF l).length) (c15_2)) rfl (Ru.move rfl) rfl ?_
          refine O.callg [.slice (A124_2) ((shF l).length) (c124_2), .slice (A15_2) ((shF l).length) (c15_2)] rfl en23 rfl rfl (eqRecordS_fn A124_2 c124_2 (shF l) A15_2 c15_2 (shF l) w24_2 (hM24_2.rd 0 rfl) (hM24_2.rd 5 rfl) (by omega)) ?_
          rintro _ w25_2 ⟨hv25_2, hR25_2⟩
          obtain rfl : _ = Value.bool true := hv25_2.trans (by simp)
          have hM25_2 : Mem w w25_2 [] [[⟨.slice (A124_2) ((shF l).length) (c124_2), 34, 3, ((shF l).length), (shF l).flatMap encG⟩], [⟨.slice (A124_1) ((l).length) (c124_1), 34, 3, ((l).length), (l).flatMap encG⟩], [⟨.slice (A17_1) (((shF l)).length) (c17_1), 34, 3, (((shF l)).length), (mkL (fun t => ⟨((1 + 3 * t : Nat) : Int), ((1 + 3 * t + 1 : Nat) : Int), ((1 + 3 * t + 2 : Nat) : Int)⟩ : Nat → RecT) (shF l).length).flatMap encG⟩], [⟨.slice (A16_1) ((l).length) (c16_1), 34, 3, ((l).length), (mkL (fun t => ⟨((1 + 3 * t : Nat) : Int), ((1 + 3 * t + 1 : Nat) : Int), ((1 + 3 * t + 2 : Nat) : Int)⟩ : Nat → RecT) l.length).flatMap encG⟩], [⟨.slice (A110_2) ((l).length) (c110_2), 34, 3, ((l).length), (l).flatMap encG⟩], [⟨.slice (A15_2) ((shF l).length) (c15_2), 34, 3, ((shF l).length), (shF l).flatMap encG⟩], [⟨.slice (A15_1) ((l).length) (c15_1), 34, 3, ((l).length), (l).flatMap encG⟩]] := Mem.call (Ma := []) hM24_2 hR25_2 rfl
          refine O.val (v := .bool (false)) rfl (Ru.not (b := true) rfl) rfl ?_
          refine O.nil ?_
          refine C.condF rfl ?_
          refine C.skip ?_
          refine C.seq ?_
          refine C.region ?_
          refine O.val (v := I (1)) rfl (Ru.assign rfl) rfl ?_
          refine O.nil ?_
          refine C.seq ?_
          refine C.region ?_
          refine O.val (v := .slice (A17_1) ((shF l).length) (c17_1)) rfl (Ru.move rfl) rfl ?_
          refine O.val (v := I (1)) rfl (Ru.move rfl) rfl ?_
          refine O.callg [.slice (A17_1) ((shF l).length) (c17_1), I (1)] rfl en29 rfl rfl (heldRecordS_fn A17_1 ((shF l).length) c17_1 1 w25_2 (hM25_2.rd 2 rfl) (by first | omega | assumption | (simp; omega) | simp | (intros; omega)) (by first | omega | assumption | (simp; omega) | simp | (intros; omega))) ?_
          rintro _ w28_2 ⟨rfl, hR28_2⟩
          have hM28_2 : Mem w w28_2 [] [[⟨.slice (A124_2) ((shF l).length) (c124_2), 34, 3, ((shF l).length), (shF l).flatMap encG⟩], [⟨.slice (A124_1) ((l).length) (c124_1), 34, 3, ((l).length), (l).flatMap encG⟩], [⟨.slice (A17_1) (((shF l)).length) (c17_1), 34, 3, (((shF l)).length), (mkL (fun t => ⟨((1 + 3 * t : Nat) : Int), ((1 + 3 * t + 1 : Nat) : Int), ((1 + 3 * t + 2 : Nat) : Int)⟩ : Nat → RecT) (shF l).length).flatMap encG⟩], [⟨.slice (A16_1) ((l).length) (c16_1), 34, 3, ((l).length), (mkL (fun t => ⟨((1 + 3 * t : Nat) : Int), ((1 + 3 * t + 1 : Nat) : Int), ((1 + 3 * t + 2 : Nat) : Int)⟩ : Nat → RecT) l.length).flatMap encG⟩], [⟨.slice (A110_2) ((l).length) (c110_2), 34, 3, ((l).length), (l).flatMap encG⟩], [⟨.slice (A15_2) ((shF l).length) (c15_2), 34, 3, ((shF l).length), (shF l).flatMap encG⟩], [⟨.slice (A15_1) ((l).length) (c15_1), 34, 3, ((l).length), (l).flatMap encG⟩]] := Mem.call (Ma := []) hM25_2 hR28_2 rfl
          refine O.val (v := I (((1 + 3 * ((shF l).length) : Nat) : Int))) rfl (Ru.assign rfl) rfl ?_
          refine O.nil ?_
          refine C.seq ?_
          refine C.seq ?_
          refine C.region ?_
          refine O.val (v := I (((1 + 3 * ((shF l).length) : Nat) : Int))) rfl (Ru.move rfl) rfl ?_
          refine O.val (v := .bool (decide (((1 + 3 * ((shF l).length) : Nat) : Int) < 0))) rfl (Ru.lss rfl rfl) rfl ?_
          refine O.nil ?_
          refine C.cond (p := ((1 + 3 * ((shF l).length) : Nat) : Int) < 0) rfl (fun c65 => ?_) (fun c65 => ?_)
          · exfalso; omega
          · refine C.skip ?_
            refine C.seq ?_
            refine C.seq ?_
            refine C.region ?_
            refine O.val (v := I (((1 + 3 * ((shF l).length) : Nat) : Int))) rfl (Ru.move rfl) rfl ?_
            refine O.val (v := I (((1 + 3 * (shF l).length : Nat) : Int))) rfl (Ru.move rfl) rfl ?_
            refine O.val (v := .bool (decide (((1 + 3 * ((shF l).length) : Nat) : Int) ≠ ((1 + 3 * (shF l).length : Nat) : Int)))) rfl (Ru.neq rfl rfl) rfl ?_
            refine O.nil ?_
            refine C.cond (p := ((1 + 3 * ((shF l).length) : Nat) : Int) ≠ ((1 + 3 * (shF l).length : Nat) : Int)) rfl (fun c68 => ?_) (fun c68 => ?_)
            · exfalso; omega
            · refine C.skip ?_
              refine C.seq ?_
              refine C.region ?_
              refine O.val (v := .bool (true)) rfl (Ru.assign rfl) rfl ?_
              refine O.nil ?_
              refine C.ret ?_
              refine P1 (v := .bool (true)) rfl ?_
              exact ⟨rfl, (Mem.none hM28_2)⟩
end Go.Proofs.Ytgflcaeibbnkcaa
namespace Go.Proofs.Ytgflcaeibbnkcaa.fnExactShortLog
open Go.ChangeShapes Go.WideShapes Go.ChangeAt Go.RowKit Go.Px
open Go.ChangeMaps (open_string shut_string)
set_option linter.unusedVariables false

theorem own : ownKnob Try.prog.godebug = none := by kernel_rfl
theorem laidOut : laidOutB Try.prog = true := by kernel_rfl

set_option maxRecDepth 100000 in
theorem lifted (os : Os) (started : os.Started) (H : Type) (enc : TypeId × Value → H) :
    ReturnsInHanded {} Try.checked os 7 .any (Rows.fnExactShortLogSpec.pre6 enc Try.prog Try.f7 Rows.fnExactShortLogRow.domain false) (Rows.fnExactShortLogSpec.post enc Try.prog Try.f7 false true false false) := by
  refine returnsInHanded_of_change (C := Try.checked) own started (by kernel_rfl) Try.func7
    (ChangeSpec.witness6 (enc := enc) (C := Try.checked) false ⟨#[], #[.slice none 0 0], []⟩ 8 (by kernel_rfl) (by kernel_rfl) (by kernel_rfl) (by kernel_rfl)) ?_
  intro W base args ds gs before hval0 hW hcnd _
  have hval : ∀ (j : Nat) t v, Try.f7.params[j]? = some t → args[j]? = some v → Value.okWide Try.prog W .any base t v := hval0
  have hW' := hW
  obtain ⟨p, q, hA0, hV, rfl, hfz, hnd⟩ := hW
  have hA : DataW.TrodAll enc Try.prog W 0 (fun _ => true) true Try.f7.params.toList args.toList ds p := hA0
  rw [Try.params7] at hA hval
  obtain ⟨v0, vs0, d0, ds0, p0, q0, hargs, rfl, rfl, h0, r0⟩ := trodAll_cons hA
  obtain ⟨rfl, rfl, rfl⟩ := trodAll_nil r0
  obtain rfl : args = #[v0] := by cases args; simp_all
  obtain ⟨rfl, rfl⟩ := trodVars_none hV
  have k0 := h0
  have lt0 : ∀ x ∈ p0, x.block < W.heap.size := by obtain ⟨m, hm⟩ := k0; exact DataW.trod_lt m _ _ _ hm
  obtain ⟨a0, len0, cap0, rfl⟩ := okWide_slice Try.underlying27 (hval 0 27 v0 rfl rfl)
  have kk0 := k0
  obtain ⟨fuel0, hf0⟩ := kk0
  obtain ⟨z0, rfl, hz0, hc0, hw0, hRd0⟩ := slice_in (α := RecT) (f := encG) (c := 3) (ok := fun r : RecT => (-9223372036854775808 ≤ r.kind ∧ r.kind ≤ 9223372036854775807) ∧ (-9223372036854775808 ≤ r.key ∧ r.key ≤ 9223372036854775807) ∧ (-9223372036854775808 ≤ r.val ∧ r.val ≤ 9223372036854775807)) Try.underlying27 (by kernel_rfl) (fun _ => rfl) (fun n cs y h => by
    obtain ⟨hl, hf⟩ := struct_els (l := [(3, 0, 1), (3, 1, 1), (3, 2, 1)]) (k := 3) (by kernel_rfl) (by kernel_rfl) h
    match cs, hl with
    | [b0, b1, b2], _ =>
      obtain ⟨_, _, h0⟩ := hf (3, 0, 1) (by simp)
      obtain ⟨x0, e0, k0⟩ := int_el Try.underlying3 _ _ _ h0
      obtain ⟨_, _, h1⟩ := hf (3, 1, 1) (by simp)
      obtain ⟨x1, e1, k1⟩ := int_el Try.underlying3 _ _ _ h1
      obtain ⟨_, _, h2⟩ := hf (3, 2, 1) (by simp)
      obtain ⟨x2, e2, k2⟩ := int_el Try.underlying3 _ _ _ h2
      refine ⟨⟨x0, x1, x2⟩, ?_, ⟨k0, k1, k2⟩⟩
      simp at e0 e1 e2
      simp [encG, e0, e1, e2]) hf0
  clear hA0 hval0
  refine (FnExactShortLog_fn a0 cap0 z0 W hRd0 hz0).out.mono fun e W' ⟨v, he, hv, hg⟩ => ?_
  subst he hv
  have bel : Below W.heap.size W W' := ⟨hg.os, hg.tape, hg.output, hg.size, fun k hk => hg.block k hk (by simp)⟩
  exact ⟨_, rfl, _, _, _, [], _, [], hW', trodAll_mk1 (shut_bool Try.underlying4 _), (trodAll_cons_mk (Below.trod laidOut (by kernel_rfl) (of_decide_eq_true (by kernel_rfl)) k0 bel lt0) trodAll_mk0), rfl, bel.frame _, fun h => by cases h⟩

theorem named_ : Try.prog.funcNamed Rows.fnExactShortLogRow.func = some 7 := by kernel_rfl
theorem closed : joinedFacts Try.prog 7 Try.f7 Rows.fnExactShortLogSpec Rows.fnExactShortLogRow = true := by
  unfold joinedFacts
  rw [enter_, lifts_, made_]
  kernel_rfl
theorem inst_ : Try.f7.isInstance Try.prog Rows.fnExactShortLogRow.origin Rows.fnExactShortLogRow.targs := of_decide_eq_true (by kernel_rfl)
theorem wrap_ : Try.f7.isWrapper Try.prog Rows.fnExactShortLogRow.wrapper Rows.fnExactShortLogRow.mainSum := by
  unfold Func.isWrapper
  rw [if_neg (by decide +kernel)]
  exact ⟨rfl, rfl⟩
theorem over : Rows.fnExactShortLogRow.holds Try.pinned (OpenSpec.ofChange Rows.fnExactShortLogSpec) :=
  OpenClaim.holds_of_wide 7 Try.f7 rfl rfl rfl rfl rfl rfl rfl ⟨rfl, rfl, rfl, rfl, rfl⟩ rfl rfl rfl rfl rfl named_ Try.func7 closed inst_ wrap_
    (fun os started H enc _ => lifted os started H enc)
theorem proved : Rows.FnExactShortLogSaid := over
end Go.Proofs.Ytgflcaeibbnkcaa.fnExactShortLog
