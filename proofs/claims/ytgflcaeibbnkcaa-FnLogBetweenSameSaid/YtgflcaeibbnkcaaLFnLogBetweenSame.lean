/- The statement Rows.FnLogBetweenSameSaid: the Go function laws.FnLogBetweenSame returns true for every input, and each argument reads afterwards as it read before. No conditions. -/
import Derived.Test.YtgflcaeibbnkcaaRows
import Derived.Test.YtgflcaeibbnkcaaPxO
import Derived.Test.YtgflcaeibbnkcaaLI
import Derived.Test.YtgflcaeibbnkcaaH0
import Derived.WalkKit
import Derived.ProofKit
import Derived.OpenShut
import Derived.ShutString
import Derived.ChangeOld
import Derived.SliceStrings
import Derived.Deep.Slices
import Derived.Deep.Fields
import Derived.ChangeSame
import Derived.Below
set_option linter.unusedVariables false
set_option linter.unusedSimpArgs false
namespace Go.Proofs.Ytgflcaeibbnkcaa
open Go.Px
set_option linter.unusedVariables false
theorem FnLogBetweenSame_fn (A : Option Addr) (c : Nat) (l : List UInt8) (w : World) (hA : Rd w A ((l).map byteV)) (hl : l.length ≤ 9223372036854775807) (hc : l.length ≤ c) :
    Does Try.prog 8 [.slice (A) ((l).length) (c)] w (fun v w1 => v = .bool (true) ∧ Mem w w1 [] []) := by
  have hM : Mem w w [] [] := Mem.refl
  refine Does.enter1 Try.func8 rfl Try.results8 Try.ntmps8 rfl ?_
  refine C.seq ?_
  refine C.region ?_
  refine O.val (v := .bool (false)) rfl (Ru.assign rfl) rfl ?_
  refine O.nil ?_
  refine C.seq ?_
  refine C.seq ?_
  refine C.region ?_
  refine O.val (v := .slice (A) ((l).length) (c)) rfl (Ru.move rfl) rfl ?_
  refine O.val (v := I ((((l).length : Nat) : Int))) rfl (Ru.blenSlice Try.underlying22 rfl) rfl ?_
  refine O.val (v := .bool (decide ((((l).length : Nat) : Int) > 1048576))) rfl (Ru.gtr rfl rfl) rfl ?_
  refine O.nil ?_
  refine C.cond (p := (((l).length : Nat) : Int) > 1048576) rfl (fun c8 => ?_) (fun c8 => ?_)
  · refine C.seq ?_
    refine C.region ?_
    refine O.val (v := .bool (true)) rfl (Ru.assign rfl) rfl ?_
    refine O.nil ?_
    refine C.ret ?_
    refine P1 (v := .bool (true)) rfl ?_
    exact ⟨rfl, (Mem.none hM)⟩
  · refine C.skip ?_
    refine C.seq ?_
    refine C.region ?_
    refine O.val (v := .slice (A) ((l).length) (c)) rfl (Ru.move rfl) rfl ?_
    refine O.callg [.slice (A) ((l).length) (c)] rfl en30 rfl rfl (DrawLogBetween_fn A c l w (hA.at hM) (by first | omega | assumption | (simp; omega) | simp | (intros; omega)) (by first | omega | assumption | (simp; omega) | simp | (intros; omega))) ?_
    rintro _ w3_1 ⟨l13_1, A13_1, c13_1, l23_1, A23_1, c23_1, rfl, hl3_1, hl23_1, hR3_1⟩
    have hM3_1 : Mem w w3_1 [] [[⟨.slice (A13_1) ((l13_1).length) (c13_1), 53, 2, ((l13_1).length), (l13_1).flatMap encP⟩], [⟨.slice (A23_1) ((l23_1).length) (c23_1), 53, 2, ((l23_1).length), (l23_1).flatMap encP⟩]] := Mem.call (Ma := []) hM hR3_1 rfl
    have hcr3_1_0 := (hM3_1.cap 0 rfl).1
    have hcr3_1_1 := (hM3_1.cap 1 rfl).1
    refine O.val (v := .tuple #[.slice (A13_1) ((l13_1).length) (c13_1), .slice (A23_1) ((l23_1).length) (c23_1)]) rfl (Ru.move rfl) rfl ?_
    refine O.val (v := .slice (A13_1) ((l13_1).length) (c13_1)) rfl (Ru.extract rfl rfl) rfl ?_
    refine O.val (v := .slice (A23_1) ((l23_1).length) (c23_1)) rfl (Ru.extract rfl rfl) rfl ?_
    refine O.val (v := .slice (A13_1) ((l13_1).length) (c13_1)) rfl (Ru.assign rfl) rfl ?_
    refine O.val (v := .slice (A23_1) ((l23_1).length) (c23_1)) rfl (Ru.assign rfl) rfl ?_
    refine O.nil ?_
    refine C.seq ?_
    refine C.region ?_
    refine O.val (v := .slice (A13_1) ((l13_1).length) (c13_1)) rfl (Ru.move rfl) rfl ?_
    refine O.val (v := .slice (A23_1) ((l23_1).length) (c23_1)) rfl (Ru.move rfl) rfl ?_
    refine O.callg [.slice (A13_1) ((l13_1).length) (c13_1), .slice (A23_1) ((l23_1).length) (c23_1)] rfl en31 rfl rfl (LogBetween_fn A13_1 c13_1 l13_1 A23_1 c23_1 l23_1 w3_1 (hM3_1.rd 0 rfl) (hM3_1.rd 1 rfl) (by first | omega | assumption | (simp; omega) | simp | (intros; omega)) (by first | omega | assumption | (simp; omega) | simp | (intros; omega)) (by first | omega | assumption | (simp; omega) | simp | (intros; omega)) (by first | omega | assumption | (simp; omega) | simp | (intros; omega))) ?_
    rintro _ w4_2 ⟨A14_2, c14_2, rfl, hR4_2⟩
    have hM4_2 : Mem w w4_2 [] [[⟨.slice (A14_2) ((lbF l13_1 l23_1).length) (c14_2), 34, 3, ((lbF l13_1 l23_1).length), (lbF l13_1 l23_1).flatMap encG⟩], [⟨.slice (A13_1) ((l13_1).length) (c13_1), 53, 2, ((l13_1).length), (l13_1).flatMap encP⟩], [⟨.slice (A23_1) ((l23_1).length) (c23_1), 53, 2, ((l23_1).length), (l23_1).flatMap encP⟩]] := Mem.call (Ma := []) hM3_1 hR4_2 rfl
    have hcr4_2_0 := (hM4_2.cap 0 rfl).1
    have hbl := lbF_len (a := l13_1) (b := l23_1)
    refine O.val (v := .slice (A14_2) ((lbF l13_1 l23_1).length) (c14_2)) rfl (Ru.assign rfl) rfl ?_
    refine O.nil ?_
    refine C.seq ?_
    refine C.seq ?_
    refine C.region ?_
    refine O.val (v := .slice (A14_2) ((lbF l13_1 l23_1).length) (c14_2)) rfl (Ru.move rfl) rfl ?_
    refine O.val (v := .slice (A13_1) ((l13_1).length) (c13_1)) rfl (Ru.move rfl) rfl ?_
    refine O.val (v := .slice (A23_1) ((l23_1).length) (c23_1)) rfl (Ru.move rfl) rfl ?_
    refine O.callg [.slice (A13_1) ((l13_1).length) (c13_1), .slice (A23_1) ((l23_1).length) (c23_1)] rfl en32 rfl rfl (sLogBetween_fn A13_1 c13_1 l13_1 A23_1 c23_1 l23_1 w4_2 (hM4_2.rd 1 rfl) (hM4_2.rd 2 rfl) (by first | omega | assumption | (simp; omega) | simp | (intros; omega)) (by first | omega | assumption | (simp; omega) | simp | (intros; omega))) ?_
    rintro _ w5_3 ⟨A15_3, c15_3, rfl, hR5_3⟩
    have hM5_3 : Mem w w5_3 [] [[⟨.slice (A15_3) ((lbF l13_1 l23_1).length) (c15_3), 34, 3, ((lbF l13_1 l23_1).length), (lbF l13_1 l23_1).flatMap encG⟩], [⟨.slice (A14_2) ((lbF l13_1 l23_1).length) (c14_2), 34, 3, ((lbF l13_1 l23_1).length), (lbF l13_1 l23_1).flatMap encG⟩], [⟨.slice (A13_1) ((l13_1).length) (c13_1), 53, 2, ((l13_1).length), (l13_1).flatMap encP⟩], [⟨.slice (A23_1) ((l23_1).length) (c23_1), 53, 2, ((l23_1).length), (l23_1).flatMap encP⟩]] := Mem.call (Ma := []) hM4_2 hR5_3 rfl
    have hcr5_3_0 := (hM5_3.cap 0 rfl).1
    refine O.callg [.slice (A14_2) ((lbF l13_1 l23_1).length) (c14_2), .slice (A15_3) ((lbF l13_1 l23_1).length) (c15_3)] rfl en26 rfl rfl (equalRecords_fn A14_2 c14_2 (lbF l13_1 l23_1) A15_3 c15_3 (lbF l13_1 l23_1) w5_3 (hM5_3.rd 1 rfl) (hM5_3.rd 0 rfl) (by omega)) ?_
    rintro _ w5_4 ⟨hv5_4, hR5_4⟩
    obtain rfl : _ = Value.bool true := hv5_4.trans (by simp)
    have hM5_4 : Mem w w5_4 [] [[⟨.slice (A15_3) ((lbF l13_1 l23_1).length) (c15_3), 34, 3, ((lbF l13_1 l23_1).length), (lbF l13_1 l23_1).flatMap encG⟩], [⟨.slice (A14_2) ((lbF l13_1 l23_1).length) (c14_2), 34, 3, ((lbF l13_1 l23_1).length), (lbF l13_1 l23_1).flatMap encG⟩], [⟨.slice (A13_1) ((l13_1).length) (c13_1), 53, 2, ((l13_1).length), (l13_1).flatMap encP⟩], [⟨.slice (A23_1) ((l23_1).length) (c23_1), 53, 2, ((l23_1).length), (l23_1).flatMap encP⟩]] := Mem.call (Ma := []) hM5_3 hR5_4 rfl
    refine O.val (v := .bool (false)) rfl (Ru.not (b := true) rfl) rfl ?_
    refine O.val (v := .bool (false)) rfl (Ru.move rfl) rfl ?_
    refine O.val (v := .slice (A13_1) ((l13_1).length) (c13_1)) rfl (Ru.move rfl) rfl ?_
    refine O.callg [.slice (A13_1) ((l13_1).length) (c13_1)] rfl en33 rfl rfl (ValidRow_fn A13_1 c13_1 l13_1 w5_4 (hM5_4.rd 2 rfl) (by first | omega | assumption | (simp; omega) | simp | (intros; omega))) ?_
    rintro _ w5_8 ⟨rfl, hR5_8⟩
    have hM5_8 : Mem w w5_8 [] [[⟨.slice (A15_3) ((lbF l13_1 l23_1).length) (c15_3), 34, 3, ((lbF l13_1 l23_1).length), (lbF l13_1 l23_1).flatMap encG⟩], [⟨.slice (A14_2) ((lbF l13_1 l23_1).length) (c14_2), 34, 3, ((lbF l13_1 l23_1).length), (lbF l13_1 l23_1).flatMap encG⟩], [⟨.slice (A13_1) ((l13_1).length) (c13_1), 53, 2, ((l13_1).length), (l13_1).flatMap encP⟩], [⟨.slice (A23_1) ((l23_1).length) (c23_1), 53, 2, ((l23_1).length), (l23_1).flatMap encP⟩]] := Mem.call (Ma := []) hM5_4 hR5_8 rfl
    refine O.val (v := .bool (!(validR l13_1))) rfl (Ru.not rfl) rfl ?_
    refine O.val (v := .bool (!(validR l13_1))) rfl (Ru.pickF rfl rfl) rfl ?_
    refine O.nil ?_
    refine C.condn (b := (validR l13_1)) rfl (fun c27 => ?_) (fun c27 => ?_)
    · refine C.seq ?_
      refine C.region ?_
      refine O.val (v := .slice (A14_2) ((lbF l13_1 l23_1).length) (c14_2)) rfl (Ru.move rfl) rfl ?_
      refine O.val (v := .slice (A13_1) ((l13_1).length) (c13_1)) rfl (Ru.move rfl) rfl ?_
      refine O.val (v := .slice (A23_1) ((l23_1).length) (c23_1)) rfl (Ru.move rfl) rfl ?_
      refine O.callg [.slice (A13_1) ((l13_1).length) (c13_1), .slice (A23_1) ((l23_1).length) (c23_1)] rfl en32 rfl rfl (sLogBetween_fn A13_1 c13_1 l13_1 A23_1 c23_1 l23_1 w5_8 (hM5_8.rd 2 rfl) (hM5_8.rd 3 rfl) (by first | omega | assumption | (simp; omega) | simp | (intros; omega)) (by first | omega | assumption | (simp; omega) | simp | (intros; omega))) ?_
      rintro _ w6_3 ⟨A16_3, c16_3, rfl, hR6_3⟩
      have hM6_3 : Mem w w6_3 [] [[⟨.slice (A16_3) ((lbF l13_1 l23_1).length) (c16_3), 34, 3, ((lbF l13_1 l23_1).length), (lbF l13_1 l23_1).flatMap encG⟩], [⟨.slice (A15_3) ((lbF l13_1 l23_1).length) (c15_3), 34, 3, ((lbF l13_1 l23_1).length), (lbF l13_1 l23_1).flatMap encG⟩], [⟨.slice (A14_2) ((lbF l13_1 l23_1).length) (c14_2), 34, 3, ((lbF l13_1 l23_1).length), (lbF l13_1 l23_1).flatMap encG⟩], [⟨.slice (A13_1) ((l13_1).length) (c13_1), 53, 2, ((l13_1).length), (l13_1).flatMap encP⟩], [⟨.slice (A23_1) ((l23_1).length) (c23_1), 53, 2, ((l23_1).length), (l23_1).flatMap encP⟩]] := Mem.call (Ma := []) hM5_8 hR6_3 rfl
      have hcr6_3_0 := (hM6_3.cap 0 rfl).1
      refine O.callg [.slice (A14_2) ((lbF l13_1 l23_1).length) (c14_2), .slice (A16_3) ((lbF l13_1 l23_1).length) (c16_3)] rfl en26 rfl rfl (equalRecords_fn A14_2 c14_2 (lbF l13_1 l23_1) A16_3 c16_3 (lbF l13_1 l23_1) w6_3 (hM6_3.rd 2 rfl) (hM6_3.rd 0 rfl) (by omega)) ?_
      rintro _ w6_4 ⟨hv6_4, hR6_4⟩
      obtain rfl : _ = Value.bool true := hv6_4.trans (by simp)
      have hM6_4 : Mem w w6_4 [] [[⟨.slice (A16_3) ((lbF l13_1 l23_1).length) (c16_3), 34, 3, ((lbF l13_1 l23_1).length), (lbF l13_1 l23_1).flatMap encG⟩], [⟨.slice (A15_3) ((lbF l13_1 l23_1).length) (c15_3), 34, 3, ((lbF l13_1 l23_1).length), (lbF l13_1 l23_1).flatMap encG⟩], [⟨.slice (A14_2) ((lbF l13_1 l23_1).length) (c14_2), 34, 3, ((lbF l13_1 l23_1).length), (lbF l13_1 l23_1).flatMap encG⟩], [⟨.slice (A13_1) ((l13_1).length) (c13_1), 53, 2, ((l13_1).length), (l13_1).flatMap encP⟩], [⟨.slice (A23_1) ((l23_1).length) (c23_1), 53, 2, ((l23_1).length), (l23_1).flatMap encP⟩]] := Mem.call (Ma := []) hM6_3 hR6_4 rfl
      refine O.val (v := .bool (true)) rfl (Ru.assign rfl) rfl ?_
      refine O.nil ?_
      refine C.ret ?_
      refine P1 (v := .bool (true)) rfl ?_
      exact ⟨rfl, (Mem.none hM6_4)⟩
    · have hva : validR l13_1 = true := by simp_all
      have hl1 := lbF_nilL hva
      have hl2 := lbF_nilR hva
      have hl3 := lbF_same (a := l13_1)
      refine C.skip ?_
      refine C.seq ?_
      refine C.region ?_
      refine O.val (v := .slice (A13_1) ((l13_1).length) (c13_1)) rfl (Ru.move rfl) rfl ?_
      refine O.val (v := .slice (A13_1) ((l13_1).length) (c13_1)) rfl (Ru.move rfl) rfl ?_
      refine O.callg [.slice (A13_1) ((l13_1).length) (c13_1), .slice (A13_1) ((l13_1).length) (c13_1)] rfl en31 rfl rfl (LogBetween_fn A13_1 c13_1 l13_1 A13_1 c13_1 l13_1 w5_8 (hM5_8.rd 2 rfl) (hM5_8.rd 2 rfl) (by first | omega | assumption | (simp; omega) | simp | (intros; omega)) (by first | omega | assumption | (simp; omega) | simp | (intros; omega)) (by first | omega | assumption | (simp; omega) | simp | (intros; omega)) (by first | omega | assumption | (simp; omega) | simp | (intros; omega))) ?_
      rintro _ w7_2 ⟨A17_2, c17_2, rfl, hR7_2⟩
      have hM7_2 : Mem w w7_2 [] [[⟨.slice (A17_2) ((lbF l13_1 l13_1).length) (c17_2), 34, 3, ((lbF l13_1 l13_1).length), (lbF l13_1 l13_1).flatMap encG⟩], [⟨.slice (A15_3) ((lbF l13_1 l23_1).length) (c15_3), 34, 3, ((lbF l13_1 l23_1).length), (lbF l13_1 l23_1).flatMap encG⟩], [⟨.slice (A14_2) ((lbF l13_1 l23_1).length) (c14_2), 34, 3, ((lbF l13_1 l23_1).length), (lbF l13_1 l23_1).flatMap encG⟩], [⟨.slice (A13_1) ((l13_1).length) (c13_1), 53, 2, ((l13_1).length), (l13_1).flatMap encP⟩], [⟨.slice (A23_1) ((l23_1).length) (c23_1), 53, 2, ((l23_1).length), (l23_1).flatMap encP⟩]] := Mem.call (Ma := []) hM5_8 hR7_2 rfl
      have hcr7_2_0 := (hM7_2.cap 0 rfl).1
      refine O.val (v := I ((((lbF l13_1 l13_1).length : Nat) : Int))) rfl (Ru.blenSlice Try.underlying23 rfl) rfl ?_
      refine O.val (v := .bool (decide ((((lbF l13_1 l13_1).length : Nat) : Int) = 0))) rfl (Ru.eql rfl rfl) rfl ?_
      refine O.val (v := .bool (decide ((((lbF l13_1 l13_1).length : Nat) : Int) = 0))) rfl (Ru.move rfl) rfl ?_
      refine O.partp 38 ((((lbF l13_1 l13_1).length : Nat) : Int) = 0) rfl (fun g38 => ?_) (fun g38 => ?_)
      · refine O.val (v := .slice (A13_1) ((l13_1).length) (c13_1)) rfl (Ru.move rfl) rfl ?_
        refine O.callg [.slice (none) (0) (0), .slice (A13_1) ((l13_1).length) (c13_1)] rfl en31 rfl rfl (LogBetween_fn none 0 [] A13_1 c13_1 l13_1 w7_2 Rd.nil (hM7_2.rd 3 rfl) (by first | omega | assumption | (simp; omega) | simp | (intros; omega)) (by first | omega | assumption | (simp; omega) | simp | (intros; omega)) (by first | omega | assumption | (simp; omega) | simp | (intros; omega)) (by first | omega | assumption | (simp; omega) | simp | (intros; omega))) ?_
        rintro _ w7_7 ⟨A17_7, c17_7, rfl, hR7_7⟩
        have hM7_7 : Mem w w7_7 [] [[⟨.slice (A17_7) ((lbF [] l13_1).length) (c17_7), 34, 3, ((lbF [] l13_1).length), (lbF [] l13_1).flatMap encG⟩], [⟨.slice (A17_2) ((lbF l13_1 l13_1).length) (c17_2), 34, 3, ((lbF l13_1 l13_1).length), (lbF l13_1 l13_1).flatMap encG⟩], [⟨.slice (A15_3) ((lbF l13_1 l23_1).length) (c15_3), 34, 3, ((lbF l13_1 l23_1).length), (lbF l13_1 l23_1).flatMap encG⟩], [⟨.slice (A14_2) ((lbF l13_1 l23_1).length) (c14_2), 34, 3, ((lbF l13_1 l23_1).length), (lbF l13_1 l23_1).flatMap encG⟩], [⟨.slice (A13_1) ((l13_1).length) (c13_1), 53, 2, ((l13_1).length), (l13_1).flatMap encP⟩], [⟨.slice (A23_1) ((l23_1).length) (c23_1), 53, 2, ((l23_1).length), (l23_1).flatMap encP⟩]] := Mem.call (Ma := []) hM7_2 hR7_7 rfl
        have hcr7_7_0 := (hM7_7.cap 0 rfl).1
        refine O.val (v := I ((((lbF [] l13_1).length : Nat) : Int))) rfl (Ru.blenSlice Try.underlying23 rfl) rfl ?_
        refine O.val (v := .slice (A13_1) ((l13_1).length) (c13_1)) rfl (Ru.move rfl) rfl ?_
        refine O.val (v := I ((((l13_1).length : Nat) : Int))) rfl (Ru.blenSlice Try.underlying36 rfl) rfl ?_
        refine O.val (v := .bool (decide ((((lbF [] l13_1).length : Nat) : Int) = (((l13_1).length : Nat) : Int)))) rfl (Ru.eql rfl rfl) rfl ?_
        refine O.val (v := .bool (decide ((((lbF [] l13_1).length : Nat) : Int) = (((l13_1).length : Nat) : Int)))) rfl (Ru.pickT rfl rfl) rfl ?_
        refine O.val (v := .bool (decide ((((lbF [] l13_1).length : Nat) : Int) = (((l13_1).length : Nat) : Int)))) rfl (Ru.move rfl) rfl ?_
        refine O.partp 46 ((((lbF [] l13_1).length : Nat) : Int) = (((l13_1).length : Nat) : Int)) rfl (fun g46 => ?_) (fun g46 => ?_)
        · refine O.val (v := .slice (A13_1) ((l13_1).length) (c13_1)) rfl (Ru.move rfl) rfl ?_
          refine O.callg [.slice (A13_1) ((l13_1).length) (c13_1), .slice (none) (0) (0)] rfl en31 rfl rfl (LogBetween_fn A13_1 c13_1 l13_1 none 0 [] w7_7 (hM7_7.rd 4 rfl) Rd.nil (by first | omega | assumption | (simp; omega) | simp | (intros; omega)) (by first | omega | assumption | (simp; omega) | simp | (intros; omega)) (by first | omega | assumption | (simp; omega) | simp | (intros; omega)) (by first | omega | assumption | (simp; omega) | simp | (intros; omega))) ?_
          rintro _ w7_15 ⟨A17_15, c17_15, rfl, hR7_15⟩
          have hM7_15 : Mem w w7_15 [] [[⟨.slice (A17_15) ((lbF l13_1 []).length) (c17_15), 34, 3, ((lbF l13_1 []).length), (lbF l13_1 []).flatMap encG⟩], [⟨.slice (A17_7) ((lbF [] l13_1).length) (c17_7), 34, 3, ((lbF [] l13_1).length), (lbF [] l13_1).flatMap encG⟩], [⟨.slice (A17_2) ((lbF l13_1 l13_1).length) (c17_2), 34, 3, ((lbF l13_1 l13_1).length), (lbF l13_1 l13_1).flatMap encG⟩], [⟨.slice (A15_3) ((lbF l13_1 l23_1).length) (c15_3), 34, 3, ((lbF l13_1 l23_1).length), (lbF l13_1 l23_1).flatMap encG⟩], [⟨.slice (A14_2) ((lbF l13_1 l23_1).length) (c14_2), 34, 3, ((lbF l13_1 l23_1).length), (lbF l13_1 l23_1).flatMap encG⟩], [⟨.slice (A13_1) ((l13_1).length) (c13_1), 53, 2, ((l13_1).length), (l13_1).flatMap encP⟩], [⟨.slice (A23_1) ((l23_1).length) (c23_1), 53, 2, ((l23_1).length), (l23_1).flatMap encP⟩]] := Mem.call (Ma := []) hM7_7 hR7_15 rfl
          have hcr7_15_0 := (hM7_15.cap 0 rfl).1
          refine O.val (v := I ((((lbF l13_1 []).length : Nat) : Int))) rfl (Ru.blenSlice Try.underlying23 rfl) rfl ?_
          refine O.val (v := .slice (A13_1) ((l13_1).length) (c13_1)) rfl (Ru.move rfl) rfl ?_
          refine O.val (v := I ((((l13_1).length : Nat) : Int))) rfl (Ru.blenSlice Try.underlying36 rfl) rfl ?_
          refine O.val (v := .bool (decide ((((lbF l13_1 []).length : Nat) : Int) = (((l13_1).length : Nat) : Int)))) rfl (Ru.eql rfl rfl) rfl ?_
          refine O.val (v := .bool (decide ((((lbF l13_1 []).length : Nat) : Int) = (((l13_1).length : Nat) : Int)))) rfl (Ru.pickT rfl rfl) rfl ?_
          refine O.val (v := .bool (decide ((((lbF l13_1 []).length : Nat) : Int) = (((l13_1).length : Nat) : Int)))) rfl (Ru.assign rfl) rfl ?_
          refine O.nil ?_
          refine C.ret ?_
          refine P1 (v := .bool (decide ((((lbF l13_1 []).length : Nat) : Int) = (((l13_1).length : Nat) : Int)))) rfl ?_
          exact ⟨(by first | rfl | (rw [hl3] at *; simp_all) | (simp_all)), (Mem.none hM7_15)⟩
        · refine O.pass rfl rfl rfl rfl rfl ?_
          refine O.pass rfl rfl rfl rfl rfl ?_
          refine O.pass rfl rfl rfl rfl rfl ?_
          refine O.pass rfl rfl rfl rfl rfl ?_
          refine O.pass rfl rfl rfl rfl rfl ?_
          refine O.pass rfl rfl rfl rfl rfl ?_
          refine O.val (v := .bool (false)) rfl (Ru.pickF rfl rfl) rfl ?_
          refine O.val (v := .bool (false)) rfl (Ru.assign rfl) rfl ?_
          refine O.nil ?_
          refine C.ret ?_
          refine P1 (v := .bool (false)) rfl ?_
          exact ⟨(by first | rfl | (rw [hl3] at *; simp_all) | (simp_all)), (Mem.none hM7_7)⟩
      · refine O.pass rfl rfl rfl rfl rfl ?_
        refine O.pass rfl rfl rfl rfl rfl ?_
        refine O.pass rfl rfl rfl rfl rfl ?_
        refine O.pass rfl rfl rfl rfl rfl ?_
        refine O.pass rfl rfl rfl rfl rfl ?_
        refine O.pass rfl rfl rfl rfl rfl ?_
        refine O.val (v := .bool (false)) rfl (Ru.pickF rfl rfl) rfl ?_
        refine O.val (v := .bool (false)) rfl (Ru.move rfl) rfl ?_
        refine O.pass rfl rfl rfl rfl rfl ?_
        refine O.pass rfl rfl rfl rfl rfl ?_
        refine O.pass rfl rfl rfl rfl rfl ?_
        refine O.pass rfl rfl rfl rfl rfl ?_
        refine O.pass rfl rfl rfl rfl rfl ?_
        refine O.pass rfl rfl rfl rfl rfl ?_
        refine O.val (v := .bool (false)) rfl (Ru.pickF rfl rfl) rfl ?_
        refine O.val (v := .bool (false)) rfl (Ru.assign rfl) rfl ?_
        refine O.nil ?_
        refine C.ret ?_
        refine P1 (v := .bool (false)) rfl ?_
        exact ⟨(by first | rfl | (rw [hl3] at *; simp_all) | (simp_all)), (Mem.none hM7_2)⟩
end Go.Proofs.Ytgflcaeibbnkcaa
namespace Go.Proofs.Ytgflcaeibbnkcaa.fnLogBetweenSame
open Go.ChangeShapes Go.WideShapes Go.ChangeAt Go.RowKit Go.Px
open Go.ChangeMaps (open_string shut_string)
set_option linter.unusedVariables false

theorem own : ownKnob Try.prog.godebug = none := by kernel_rfl
theorem laidOut : laidOutB Try.prog = true := by kernel_rfl

set_option maxRecDepth 100000 in
theorem lifted (os : Os) (started : os.Started) (H : Type) (enc : TypeId × Value → H) :
    ReturnsInHanded {} Try.checked os 8 .any (Rows.fnLogBetweenSameSpec.pre6 enc Try.prog Try.f8 Rows.fnLogBetweenSameRow.domain false) (Rows.fnLogBetweenSameSpec.post enc Try.prog Try.f8 false true false false) := by
  refine returnsInHanded_of_change (C := Try.checked) own started (by kernel_rfl) Try.func8
    (ChangeSpec.witness6 (enc := enc) (C := Try.checked) false ⟨#[], #[.slice none 0 0], []⟩ 8 (by kernel_rfl) (by kernel_rfl) (by kernel_rfl) (by kernel_rfl)) ?_
  intro W base args ds gs before hval0 hW hcnd _
  have hval : ∀ (j : Nat) t v, Try.f8.params[j]? = some t → args[j]? = some v → Value.okWide Try.prog W .any base t v := hval0
  have hW' := hW
  obtain ⟨p, q, hA0, hV, rfl, hfz, hnd⟩ := hW
  have hA : DataW.TrodAll enc Try.prog W 0 (fun _ => true) true Try.f8.params.toList args.toList ds p := hA0
  rw [Try.params8] at hA hval
  obtain ⟨v0, vs0, d0, ds0, p0, q0, hargs, rfl, rfl, h0, r0⟩ := trodAll_cons hA
  obtain ⟨rfl, rfl, rfl⟩ := trodAll_nil r0
  obtain rfl : args = #[v0] := by cases args; simp_all
  obtain ⟨rfl, rfl⟩ := trodVars_none hV
  have k0 := h0
  have lt0 : ∀ x ∈ p0, x.block < W.heap.size := by obtain ⟨m, hm⟩ := k0; exact DataW.trod_lt m _ _ _ hm
  obtain ⟨a0, len0, cap0, rfl⟩ := okWide_slice Try.underlying22 (hval 0 22 v0 rfl rfl)
  have kk0 := k0
  obtain ⟨fuel0, hf0⟩ := kk0
  obtain ⟨z0, rfl, hz0, hc0, hw0, hRd0⟩ := slice_in (α := UInt8) (f := fun a : UInt8 => [byteV a]) (c := 1) Try.underlying22 (by kernel_rfl) (fun _ => rfl) (byte_el Try.underlying5) hf0
  rw [flat_one] at hRd0
  clear hA0 hval0
  refine (FnLogBetweenSame_fn a0 cap0 z0 W hRd0 hz0 hc0).out.mono fun e W' ⟨v, he, hv, hg⟩ => ?_
  subst he hv
  have bel : Below W.heap.size W W' := ⟨hg.os, hg.tape, hg.output, hg.size, fun k hk => hg.block k hk (by simp)⟩
  exact ⟨_, rfl, _, _, _, [], _, [], hW', trodAll_mk1 (shut_bool Try.underlying4 _), (trodAll_cons_mk (Below.trod laidOut (by kernel_rfl) (of_decide_eq_true (by kernel_rfl)) k0 bel lt0) trodAll_mk0), rfl, bel.frame _, fun h => by cases h⟩

theorem named_ : Try.prog.funcNamed Rows.fnLogBetweenSameRow.func = some 8 := by kernel_rfl
theorem closed : joinedFacts Try.prog 8 Try.f8 Rows.fnLogBetweenSameSpec Rows.fnLogBetweenSameRow = true := by
  unfold joinedFacts
  rw [enter_, lifts_, made_]
  kernel_rfl
theorem inst_ : Try.f8.isInstance Try.prog Rows.fnLogBetweenSameRow.origin Rows.fnLogBetweenSameRow.targs := of_decide_eq_true (by kernel_rfl)
theorem wrap_ : Try.f8.isWrapper Try.prog Rows.fnLogBetweenSameRow.wrapper Rows.fnLogBetweenSameRow.mainSum := by
  unfold Func.isWrapper
  rw [if_neg (by decide +kernel)]
  exact ⟨rfl, rfl⟩
theorem over : Rows.fnLogBetweenSameRow.holds Try.pinned (OpenSpec.ofChange Rows.fnLogBetweenSameSpec) :=
  OpenClaim.holds_of_wide 8 Try.f8 rfl rfl rfl rfl rfl rfl rfl ⟨rfl, rfl, rfl, rfl, rfl⟩ rfl rfl rfl rfl rfl named_ Try.func8 closed inst_ wrap_
    (fun os started H enc _ => lifted os started H enc)
theorem proved : Rows.FnLogBetweenSameSaid := over
end Go.Proofs.Ytgflcaeibbnkcaa.fnLogBetweenSame
