/- The statement Rows.FnLogBetweenSaid: the Go function laws.FnLogBetween returns true for every input, and each argument reads afterwards as it read before. No conditions. -/
import Derived.Test.YtgflcaeibbnkcaaRows
import Derived.Test.YtgflcaeibbnkcaaPxO
import Derived.Test.YtgflcaeibbnkcaaLI
import Derived.Test.YtgflcaeibbnkcaaH0
import Derived.WalkKit
import Derived.ProofKit
import Derived.OpenShut
import Derived.ShutString
import Derived.ChangeOld
import Derived.SliceStrings
import Derived.Deep.Slices
import Derived.Deep.Fields
import Derived.ChangeSame
import Derived.Below
set_option linter.unusedVariables false
set_option linter.unusedSimpArgs false
namespace Go.Proofs.Ytgflcaeibbnkcaa
open Go.Px
set_option linter.unusedVariables false
theorem FnLogBetween_fn (A : Option Addr) (c : Nat) (l : List UInt8) (w : World) (hA : Rd w A ((l).map byteV)) (hl : l.length ≤ 9223372036854775807) (hc : l.length ≤ c) :
    Does Try.prog 14 [.slice (A) ((l).length) (c)] w (fun v w1 => v = .bool (true) ∧ Mem w w1 [] []) := by
  have hM : Mem w w [] [] := Mem.refl
  refine Does.enter1 Try.func14 rfl Try.results14 Try.ntmps14 rfl ?_
  refine C.seq ?_
  refine C.region ?_
  refine O.val (v := .bool (false)) rfl (Ru.assign rfl) rfl ?_
  refine O.nil ?_
  refine C.seq ?_
  refine C.seq ?_
  refine C.region ?_
  refine O.val (v := .slice (A) ((l).length) (c)) rfl (Ru.move rfl) rfl ?_
  refine O.val (v := I ((((l).length : Nat) : Int))) rfl (Ru.blenSlice Try.underlying22 rfl) rfl ?_
  refine O.val (v := .bool (decide ((((l).length : Nat) : Int) > 1048576))) rfl (Ru.gtr rfl rfl) rfl ?_
  refine O.nil ?_
  refine C.cond (p := (((l).length : Nat) : Int) > 1048576) rfl (fun c10 => ?_) (fun c10 => ?_)
  · refine C.seq ?_
    refine C.region ?_
    refine O.val (v := .bool (true)) rfl (Ru.assign rfl) rfl ?_
    refine O.nil ?_
    refine C.ret ?_
    refine P1 (v := .bool (true)) rfl ?_
    exact ⟨rfl, (Mem.none hM)⟩
  · refine C.skip ?_
    refine C.seq ?_
    refine C.region ?_
    refine O.val (v := .slice (A) ((l).length) (c)) rfl (Ru.move rfl) rfl ?_
    refine O.callg [.slice (A) ((l).length) (c)] rfl en30 rfl rfl (DrawLogBetween_fn A c l w (hA.at hM) (by first | omega | assumption | (simp; omega) | simp | (intros; omega)) (by first | omega | assumption | (simp; omega) | simp | (intros; omega))) ?_
    rintro _ w3_1 ⟨l13_1, A13_1, c13_1, l23_1, A23_1, c23_1, rfl, hl3_1, hl23_1, hR3_1⟩
    have hM3_1 : Mem w w3_1 [] [[⟨.slice (A13_1) ((l13_1).length) (c13_1), 53, 2, ((l13_1).length), (l13_1).flatMap encP⟩], [⟨.slice (A23_1) ((l23_1).length) (c23_1), 53, 2, ((l23_1).length), (l23_1).flatMap encP⟩]] := Mem.call (Ma := []) hM hR3_1 rfl
    have hcr3_1_0 := (hM3_1.cap 0 rfl).1
    have hcr3_1_1 := (hM3_1.cap 1 rfl).1
    refine O.val (v := .tuple #[.slice (A13_1) ((l13_1).length) (c13_1), .slice (A23_1) ((l23_1).length) (c23_1)]) rfl (Ru.move rfl) rfl ?_
    refine O.val (v := .slice (A13_1) ((l13_1).length) (c13_1)) rfl (Ru.extract rfl rfl) rfl ?_
    refine O.val (v := .slice (A23_1) ((l23_1).length) (c23_1)) rfl (Ru.extract rfl rfl) rfl ?_
    refine O.val (v := .slice (A13_1) ((l13_1).length) (c13_1)) rfl (Ru.assign rfl) rfl ?_
    refine O.val (v := .slice (A23_1) ((l23_1).length) (c23_1)) rfl (Ru.assign rfl) rfl ?_
    refine O.nil ?_
    refine C.seq ?_
    refine C.region ?_
    refine O.val (v := .slice (A13_1) ((l13_1).length) (c13_1)) rfl (Ru.move rfl) rfl ?_
    refine O.val (v := .slice (A23_1) ((l23_1).length) (c23_1)) rfl (Ru.move rfl) rfl ?_
    refine O.callg [.slice (A13_1) ((l13_1).length) (c13_1), .slice (A23_1) ((l23_1).length) (c23_1)] rfl en31 rfl rfl (LogBetween_fn A13_1 c13_1 l13_1 A23_1 c23_1 l23_1 w3_1 (hM3_1.rd 0 rfl) (hM3_1.rd 1 rfl) (by first | omega | assumption | (simp; omega) | simp | (intros; omega)) (by first | omega | assumption | (simp; omega) | simp | (intros; omega)) (by first | omega | assumption | (simp; omega) | simp | (intros; omega)) (by first | omega | assumption | (simp; omega) | simp | (intros; omega))) ?_
    rintro _ w4_2 ⟨A14_2, c14_2, rfl, hR4_2⟩
    have hM4_2 : Mem w w4_2 [] [[⟨.slice (A14_2) ((lbF l13_1 l23_1).length) (c14_2), 34, 3, ((lbF l13_1 l23_1).length), (lbF l13_1 l23_1).flatMap encG⟩], [⟨.slice (A13_1) ((l13_1).length) (c13_1), 53, 2, ((l13_1).length), (l13_1).flatMap encP⟩], [⟨.slice (A23_1) ((l23_1).length) (c23_1), 53, 2, ((l23_1).length), (l23_1).flatMap encP⟩]] := Mem.call (Ma := []) hM3_1 hR4_2 rfl
    have hcr4_2_0 := (hM4_2.cap 0 rfl).1
    have hbl := lbF_len (a := l13_1) (b := l23_1)
    refine O.val (v := .slice (A14_2) ((lbF l13_1 l23_1).length) (c14_2)) rfl (Ru.assign rfl) rfl ?_
    refine O.nil ?_
    refine C.seq ?_
    refine C.seq ?_
    refine C.region ?_
    refine O.val (v := .slice (A14_2) ((lbF l13_1 l23_1).length) (c14_2)) rfl (Ru.move rfl) rfl ?_
    refine O.val (v := .slice (A13_1) ((l13_1).length) (c13_1)) rfl (Ru.move rfl) rfl ?_
    refine O.val (v := .slice (A23_1) ((l23_1).length) (c23_1)) rfl (Ru.move rfl) rfl ?_
    refine O.callg [.slice (A13_1) ((l13_1).length) (c13_1), .slice (A23_1) ((l23_1).length) (c23_1)] rfl en32 rfl rfl (sLogBetween_fn A13_1 c13_1 l13_1 A23_1 c23_1 l23_1 w4_2 (hM4_2.rd 1 rfl) (hM4_2.rd 2 rfl) (by first | omega | assumption | (simp; omega) | simp | (intros; omega)) (by first | omega | assumption | (simp; omega) | simp | (intros; omega))) ?_
    rintro _ w5_3 ⟨A15_3, c15_3, rfl, hR5_3⟩
    have hM5_3 : Mem w w5_3 [] [[⟨.slice (A15_3) ((lbF l13_1 l23_1).length) (c15_3), 34, 3, ((lbF l13_1 l23_1).length), (lbF l13_1 l23_1).flatMap encG⟩], [⟨.slice (A14_2) ((lbF l13_1 l23_1).length) (c14_2), 34, 3, ((lbF l13_1 l23_1).length), (lbF l13_1 l23_1).flatMap encG⟩], [⟨.slice (A13_1) ((l13_1).length) (c13_1), 53, 2, ((l13_1).length), (l13_1).flatMap encP⟩], [⟨.slice (A23_1) ((l23_1).length) (c23_1), 53, 2, ((l23_1).length), (l23_1).flatMap encP⟩]] := Mem.call (Ma := []) hM4_2 hR5_3 rfl
    have hcr5_3_0 := (hM5_3.cap 0 rfl).1
    refine O.callg [.slice (A14_2) ((lbF l13_1 l23_1).length) (c14_2), .slice (A15_3) ((lbF l13_1 l23_1).length) (c15_3)] rfl en26 rfl rfl (equalRecords_fn A14_2 c14_2 (lbF l13_1 l23_1) A15_3 c15_3 (lbF l13_1 l23_1) w5_3 (hM5_3.rd 1 rfl) (hM5_3.rd 0 rfl) (by omega)) ?_
    rintro _ w5_4 ⟨hv5_4, hR5_4⟩
    obtain rfl : _ = Value.bool true := hv5_4.trans (by simp)
    have hM5_4 : Mem w w5_4 [] [[⟨.slice (A15_3) ((lbF l13_1 l23_1).length) (c15_3), 34, 3, ((lbF l13_1 l23_1).length), (lbF l13_1 l23_1).flatMap encG⟩], [⟨.slice (A14_2) ((lbF l13_1 l23_1).length) (c14_2), 34, 3, ((lbF l13_1 l23_1).length), (lbF l13_1 l23_1).flatMap encG⟩], [⟨.slice (A13_1) ((l13_1).length) (c13_1), 53, 2, ((l13_1).length), (l13_1).flatMap encP⟩], [⟨.slice (A23_1) ((l23_1).length) (c23_1), 53, 2, ((l23_1).length), (l23_1).flatMap encP⟩]] := Mem.call (Ma := []) hM5_3 hR5_4 rfl
    refine O.val (v := .bool (false)) rfl (Ru.not (b := true) rfl) rfl ?_
    refine O.val (v := .bool (false)) rfl (Ru.move rfl) rfl ?_
    refine O.val (v := .slice (A13_1) ((l13_1).length) (c13_1)) rfl (Ru.move rfl) rfl ?_
    refine O.callg [.slice (A13_1) ((l13_1).length) (c13_1)] rfl en33 rfl rfl (ValidRow_fn A13_1 c13_1 l13_1 w5_4 (hM5_4.rd 2 rfl) (by first | omega | assumption | (simp; omega) | simp | (intros; omega))) ?_
    rintro _ w5_8 ⟨rfl, hR5_8⟩
    have hM5_8 : Mem w w5_8 [] [[⟨.slice (A15_3) ((lbF l13_1 l23_1).length) (c15_3), 34, 3, ((lbF l13_1 l23_1).length), (lbF l13_1 l23_1).flatMap encG⟩], [⟨.slice (A14_2) ((lbF l13_1 l23_1).length) (c14_2), 34, 3, ((lbF l13_1 l23_1).length), (lbF l13_1 l23_1).flatMap encG⟩], [⟨.slice (A13_1) ((l13_1).length) (c13_1), 53, 2, ((l13_1).length), (l13_1).flatMap encP⟩], [⟨.slice (A23_1) ((l23_1).length) (c23_1), 53, 2, ((l23_1).length), (l23_1).flatMap encP⟩]] := Mem.call (Ma := []) hM5_4 hR5_8 rfl
    refine O.val (v := .bool (!(validR l13_1))) rfl (Ru.not rfl) rfl ?_
    refine O.val (v := .bool (!(validR l13_1))) rfl (Ru.pickF rfl rfl) rfl ?_
    refine O.val (v := .bool (!(validR l13_1))) rfl (Ru.move rfl) rfl ?_
    refine O.part 30 (!(validR l13_1)) rfl (fun g30 => ?_) (fun g30 => ?_)
    · refine O.pass rfl rfl rfl rfl rfl ?_
      refine O.pass rfl rfl rfl rfl rfl ?_
      refine O.pass rfl rfl rfl rfl rfl ?_
      refine O.val (v := .bool (true)) rfl (Ru.pickT rfl rfl) rfl ?_
      refine O.val (v := .bool (true)) rfl (Ru.move rfl) rfl ?_
      refine O.pass rfl rfl rfl rfl rfl ?_
      refine O.pass rfl rfl rfl rfl rfl ?_
      refine O.pass rfl rfl rfl rfl rfl ?_
      refine O.val (v := .bool (true)) rfl (Ru.pickT rfl rfl) rfl ?_
      refine O.val (v := .bool (true)) rfl (Ru.move rfl) rfl ?_
      refine O.pass rfl rfl rfl rfl rfl ?_
      refine O.pass rfl rfl rfl rfl rfl ?_
      refine O.pass rfl rfl rfl rfl rfl ?_
      refine O.val (v := .bool (true)) rfl (Ru.pickT rfl rfl) rfl ?_
      refine O.nil ?_
      refine C.condT rfl ?_
      refine C.seq ?_
      refine C.region ?_
      refine O.val (v := .slice (A14_2) ((lbF l13_1 l23_1).length) (c14_2)) rfl (Ru.move rfl) rfl ?_
      refine O.val (v := .slice (A13_1) ((l13_1).length) (c13_1)) rfl (Ru.move rfl) rfl ?_
      refine O.val (v := .slice (A23_1) ((l23_1).length) (c23_1)) rfl (Ru.move rfl) rfl ?_
      refine O.callg [.slice (A13_1) ((l13_1).length) (c13_1), .slice (A23_1) ((l23_1).length) (c23_1)] rfl en32 rfl rfl (sLogBetween_fn A13_1 c13_1 l13_1 A23_1 c23_1 l23_1 w5_8 (hM5_8.rd 2 rfl) (hM5_8.rd 3 rfl) (by first | omega | assumption | (simp; omega) | simp | (intros; omega)) (by first | omega | assumption | (simp; omega) | simp | (intros; omega))) ?_
      rintro _ w6_3 ⟨A16_3, c16_3, rfl, hR6_3⟩
      have hM6_3 : Mem w w6_3 [] [[⟨.slice (A16_3) ((lbF l13_1 l23_1).length) (c16_3), 34, 3, ((lbF l13_1 l23_1).length), (lbF l13_1 l23_1).flatMap encG⟩], [⟨.slice (A15_3) ((lbF l13_1 l23_1).length) (c15_3), 34, 3, ((lbF l13_1 l23_1).length), (lbF l13_1 l23_1).flatMap encG⟩], [⟨.slice (A14_2) ((lbF l13_1 l23_1).length) (c14_2), 34, 3, ((lbF l13_1 l23_1).length), (lbF l13_1 l23_1).flatMap encG⟩], [⟨.slice (A13_1) ((l13_1).length) (c13_1), 53, 2, ((l13_1).length), (l13_1).flatMap encP⟩], [⟨.slice (A23_1) ((l23_1).length) (c23_1), 53, 2, ((l23_1).length), (l23_1).flatMap encP⟩]] := Mem.call (Ma := []) hM5_8 hR6_3 rfl
      have hcr6_3_0 := (hM6_3.cap 0 rfl).1
      refine O.callg [.slice (A14_2) ((lbF l13_1 l23_1).length) (c14_2), .slice (A16_3) ((lbF l13_1 l23_1).length) (c16_3)] rfl en26 rfl rfl (equalRecords_fn A14_2 c14_2 (lbF l13_1 l23_1) A16_3 c16_3 (lbF l13_1 l23_1) w6_3 (hM6_3.rd 2 rfl) (hM6_3.rd 0 rfl) (by omega)) ?_
      rintro _ w6_4 ⟨hv6_4, hR6_4⟩
      obtain rfl : _ = Value.bool true := hv6_4.trans (by simp)
      have hM6_4 : Mem w w6_4 [] [[⟨.slice (A16_3) ((lbF l13_1 l23_1).length) (c16_3), 34, 3, ((lbF l13_1 l23_1).length), (lbF l13_1 l23_1).flatMap encG⟩], [⟨.slice (A15_3) ((lbF l13_1 l23_1).length) (c15_3), 34, 3, ((lbF l13_1 l23_1).length), (lbF l13_1 l23_1).flatMap encG⟩], [⟨.slice (A14_2) ((lbF l13_1 l23_1).length) (c14_2), 34, 3, ((lbF l13_1 l23_1).length), (lbF l13_1 l23_1).flatMap encG⟩], [⟨.slice (A13_1) ((l13_1).length) (c13_1), 53, 2, ((l13_1).length), (l13_1).flatMap encP⟩], [⟨.slice (A23_1) ((l23_1).length) (c23_1), 53, 2, ((l23_1).length), (l23_1).flatMap encP⟩]] := Mem.call (Ma := []) hM6_3 hR6_4 rfl
      refine O.val (v := .bool (true)) rfl (Ru.assign rfl) rfl ?_
      refine O.nil ?_
      refine C.ret ?_
      refine P1 (v := .bool (true)) rfl ?_
      exact ⟨rfl, (Mem.none hM6_4)⟩
    · refine O.val (v := .slice (A23_1) ((l23_1).length) (c23_1)) rfl (Ru.move rfl) rfl ?_
      refine O.callg [.slice (A23_1) ((l23_1).length) (c23_1)] rfl en33 rfl rfl (ValidRow_fn A23_1 c23_1 l23_1 w5_8 (hM5_8.rd 3 rfl) (by first | omega | assumption | (simp; omega) | simp | (intros; omega))) ?_
      rintro _ w5_13 ⟨rfl, hR5_13⟩
      have hM5_13 : Mem w w5_13 [] [[⟨.slice (A15_3) ((lbF l13_1 l23_1).length) (c15_3), 34, 3, ((lbF l13_1 l23_1).length), (lbF l13_1 l23_1).flatMap encG⟩], [⟨.slice (A14_2) ((lbF l13_1 l23_1).length) (c14_2), 34, 3, ((lbF l13_1 l23_1).length), (lbF l13_1 l23_1).flatMap encG⟩], [⟨.slice (A13_1) ((l13_1).length) (c13_1), 53, 2, ((l13_1).length), (l13_1).flatMap encP⟩], [⟨.slice (A23_1) ((l23_1).length) (c23_1), 53, 2, ((l23_1).length), (l23_1).flatMap encP⟩]] := Mem.call (Ma := []) hM5_8 hR5_13 rfl
      refine O.val (v := .bool (!(validR l23_1))) rfl (Ru.not rfl) rfl ?_
      refine O.val (v := .bool (!(validR l23_1))) rfl (Ru.pickF rfl rfl) rfl ?_
      refine O.val (v := .bool (!(validR l23_1))) rfl (Ru.move rfl) rfl ?_
      refine O.part 35 (!(validR l23_1)) rfl (fun g35 => ?_) (fun g35 => ?_)
      · refine O.pass rfl rfl rfl rfl rfl ?_
        refine O.pass rfl rfl rfl rfl rfl ?_
        refine O.pass rfl rfl rfl rfl rfl ?_
        refine O.val (v := .bool (true)) rfl (Ru.pickT rfl rfl) rfl ?_
        refine O.val (v := .bool (true)) rfl (Ru.move rfl) rfl ?_
        refine O.pass rfl rfl rfl rfl rfl ?_
        refine O.pass rfl rfl rfl rfl rfl ?_
        refine O.pass rfl rfl rfl rfl rfl ?_
        refine O.val (v := .bool (true)) rfl (Ru.pickT rfl rfl) rfl ?_
        refine O.nil ?_
        refine C.condT rfl ?_
        refine C.seq ?_
        refine C.region ?_
        refine O.val (v := .slice (A14_2) ((lbF l13_1 l23_1).length) (c14_2)) rfl (Ru.move rfl) rfl ?_
        refine O.val (v := .slice (A13_1) ((l13_1).length) (c13_1)) rfl (Ru.move rfl) rfl ?_
        refine O.val (v := .slice (A23_1) ((l23_1).length) (c23_1)) rfl (Ru.move rfl) rfl ?_
        refine O.callg [.slice (A13_1) ((l13_1).length) (c13_1), .slice (A23_1) ((l23_1).length) (c23_1)] rfl en32 rfl rfl (sLogBetween_fn A13_1 c13_1 l13_1 A23_1 c23_1 l23_1 w5_13 (hM5_13.rd 2 rfl) (hM5_13.rd 3 rfl) (by first | omega | assumption | (simp; omega) | simp | (intros; omega)) (by first | omega | assumption | (simp; omega) | simp | (intros; omega))) ?_
        rintro _ w6_3 ⟨A16_3, c16_3, rfl, hR6_3⟩
        have hM6_3 : Mem w w6_3 [] [[⟨.slice (A16_3) ((lbF l13_1 l23_1).length) (c16_3), 34, 3, ((lbF l13_1 l23_1).length), (lbF l13_1 l23_1).flatMap encG⟩], [⟨.slice (A15_3) ((lbF l13_1 l23_1).length) (c15_3), 34, 3, ((lbF l13_1 l23_1).length), (lbF l13_1 l23_1).flatMap encG⟩], [⟨.slice (A14_2) ((lbF l13_1 l23_1).length) (c14_2), 34, 3, ((lbF l13_1 l23_1).length), (lbF l13_1 l23_1).flatMap encG⟩], [⟨.slice (A13_1) ((l13_1).length) (c13_1), 53, 2, ((l13_1).length), (l13_1).flatMap encP⟩], [⟨.slice (A23_1) ((l23_1).length) (c23_1), 53, 2, ((l23_1).length), (l23_1).flatMap encP⟩]] := Mem.call (Ma := []) hM5_13 hR6_3 rfl
        have hcr6_3_0 := (hM6_3.cap 0 rfl).1
        refine O.callg [.slice (A14_2) ((lbF l13_1 l23_1).length) (c14_2), .slice (A16_3) ((lbF l13_1 l23_1).length) (c16_3)] rfl en26 rfl rfl (equalRecords_fn A14_2 c14_2 (lbF l13_1 l23_1) A16_3 c16_3 (lbF l13_1 l23_1) w6_3 (hM6_3.rd 2 rfl) (hM6_3.rd 0 rfl) (by omega)) ?_
        rintro _ w6_4 ⟨hv6_4, hR6_4⟩
        obtain rfl : _ = Value.bool true := hv6_4.trans (by simp)
        have hM6_4 : Mem w w6_4 [] [[⟨.slice (A16_3) ((lbF l13_1 l23_1).length) (c16_3), 34, 3, ((lbF l13_1 l23_1).length), (lbF l13_1 l23_1).flatMap encG⟩], [⟨.slice (A15_3) ((lbF l13_1 l23_1).length) (c15_3), 34, 3, ((lbF l13_1 l23_1).length), (lbF l13_1 l23_1).flatMap encG⟩], [⟨.slice (A14_2) ((lbF l13_1 l23_1).length) (c14_2), 34, 3, ((lbF l13_1 l23_1).length), (lbF l13_1 l23_1).flatMap encG⟩], [⟨.slice (A13_1) ((l13_1).length) (c13_1), 53, 2, ((l13_1).length), (l13_1).flatMap encP⟩], [⟨.slice (A23_1) ((l23_1).length) (c23_1), 53, 2, ((l23_1).length), (l23_1).flatMap encP⟩]] := Mem.call (Ma := []) hM6_3 hR6_4 rfl
        refine O.val (v := .bool (true)) rfl (Ru.assign rfl) rfl ?_
        refine O.nil ?_
        refine C.ret ?_
        refine P1 (v := .bool (true)) rfl ?_
        exact ⟨rfl, (Mem.none hM6_4)⟩
      · refine O.val (v := .slice (A14_2) ((lbF l13_1 l23_1).length) (c14_2)) rfl (Ru.move rfl) rfl ?_
        refine O.val (v := I ((((lbF l13_1 l23_1).length : Nat) : Int))) rfl (Ru.blenSlice Try.underlying23 rfl) rfl ?_
        refine O.val (v := .bool (decide ((((lbF l13_1 l23_1).length : Nat) : Int) ≥ 24))) rfl (Ru.geq rfl rfl) rfl ?_
        refine O.val (v := .bool (decide ((((lbF l13_1 l23_1).length : Nat) : Int) ≥ 24))) rfl (Ru.pickF rfl rfl) rfl ?_
        refine O.val (v := .bool (decide ((((lbF l13_1 l23_1).length : Nat) : Int) ≥ 24))) rfl (Ru.move rfl) rfl ?_
        refine O.partp 40 ((((lbF l13_1 l23_1).length : Nat) : Int) ≥ 24) rfl (fun g40 => ?_) (fun g40 => ?_)
        · refine O.pass rfl rfl rfl rfl rfl ?_
          refine O.pass rfl rfl rfl rfl rfl ?_
          refine O.pass rfl rfl rfl rfl rfl ?_
          refine O.val (v := .bool (true)) rfl (Ru.pickT rfl rfl) rfl ?_
          refine O.nil ?_
          refine C.condT rfl ?_
          refine C.seq ?_
          refine C.region ?_
          refine O.val (v := .slice (A14_2) ((lbF l13_1 l23_1).length) (c14_2)) rfl (Ru.move rfl) rfl ?_
          refine O.val (v := .slice (A13_1) ((l13_1).length) (c13_1)) rfl (Ru.move rfl) rfl ?_
          refine O.val (v := .slice (A23_1) ((l23_1).length) (c23_1)) rfl (Ru.move rfl) rfl ?_
          refine O.callg [.slice (A13_1) ((l13_1).length) (c13_1), .slice (A23_1) ((l23_1).length) (c23_1)] rfl en32 rfl rfl (sLogBetween_fn A13_1 c13_1 l13_1 A23_1 c23_1 l23_1 w5_13 (hM5_13.rd 2 rfl) (hM5_13.rd 3 rfl) (by first | omega | assumption | (simp; omega) | simp | (intros; omega)) (by first | omega | assumption | (simp; omega) | simp | (intros; omega))) ?_
          rintro _ w6_3 ⟨A16_3, c16_3, rfl, hR6_3⟩
          have hM6_3 : Mem w w6_3 [] [[⟨.slice (A16_3) ((lbF l13_1 l23_1).length) (c16_3), 34, 3, ((lbF l13_1 l23_1).length), (lbF l13_1 l23_1).flatMap encG⟩], [⟨.slice (A15_3) ((lbF l13_1 l23_1).length) (c15_3), 34, 3, ((lbF l13_1 l23_1).length), (lbF l13_1 l23_1).flatMap encG⟩], [⟨.slice (A14_2) ((lbF l13_1 l23_1).length) (c14_2), 34, 3, ((lbF l13_1 l23_1).length), (lbF l13_1 l23_1).flatMap encG⟩], [⟨.slice (A13_1) ((l13_1).length) (c13_1), 53, 2, ((l13_1).length), (l13_1).flatMap encP⟩], [⟨.slice (A23_1) ((l23_1).length) (c23_1), 53, 2, ((l23_1).length), (l23_1).flatMap encP⟩]] := Mem.call (Ma := []) hM5_13 hR6_3 rfl
          have hcr6_3_0 := (hM6_3.cap 0 rfl).1
          refine O.callg [.slice (A14_2) ((lbF l13_1 l23_1).length) (c14_2), .slice (A16_3) ((lbF l13_1 l23_1).length) (c16_3)] rfl en26 rfl rfl (equalRecords_fn A14_2 c14_2 (lbF l13_1 l23_1) A16_3 c16_3 (lbF l13_1 l23_1) w6_3 (hM6_3.rd 2 rfl) (hM6_3.rd 0 rfl) (by omega)) ?_
          rintro _ w6_4 ⟨hv6_4, hR6_4⟩
          obtain rfl : _ = Value.bool true := hv6_4.trans (by simp)
          have hM6_4 : Mem w w6_4 [] [[⟨.slice (A16_3) ((lbF l13_1 l23_1).length) (c16_3), 34, 3, ((lbF l13_1 l23_1).length), (lbF l13_1 l23_1).flatMap encG⟩], [⟨.slice (A15_3) ((lbF l13_1 l23_1).length) (c15_3), 34, 3, ((lbF l13_1 l23_1).length), (lbF l13_1 l23_1).flatMap encG⟩], [⟨.slice (A14_2) ((lbF l13_1 l23_1).length) (c14_2), 34, 3, ((lbF l13_1 l23_1).length), (lbF l13_1 l23_1).flatMap encG⟩], [⟨.slice (A13_1) ((l13_1).length) (c13_1), 53, 2, ((l13_1).length), (l13_1).flatMap encP⟩], [⟨.slice (A23_1) ((l23_1).length) (c23_1), 53, 2, ((l23_1).length), (l23_1).flatMap encP⟩]] := Mem.call (Ma := []) hM6_3 hR6_4 rfl
          refine O.val (v := .bool (true)) rfl (Ru.assign rfl) rfl ?_
          refine O.nil ?_
          refine C.ret ?_
          refine P1 (v := .bool (true)) rfl ?_
          exact ⟨rfl, (Mem.none hM6_4)⟩
        · refine O.val (v := .slice (A14_2) ((lbF l13_1 l23_1).length) (c14_2)) rfl (Ru.move rfl) rfl ?_
          refine O.val (v := I ((((lbF l13_1 l23_1).length : Nat) : Int))) rfl (Ru.blenSlice Try.underlying23 rfl) rfl ?_
          refine O.val (v := .bool (decide ((((lbF l13_1 l23_1).length : Nat) : Int) = 0))) rfl (Ru.eql rfl rfl) rfl ?_
          refine O.val (v := .bool (decide ((((lbF l13_1 l23_1).length : Nat) : Int) = 0))) rfl (Ru.pickF rfl rfl) rfl ?_
          refine O.nil ?_
          refine C.cond (p := (((lbF l13_1 l23_1).length : Nat) : Int) = 0) rfl (fun c44 => ?_) (fun c44 => ?_)
          · refine C.seq ?_
            refine C.region ?_
            refine O.val (v := .slice (A14_2) ((lbF l13_1 l23_1).length) (c14_2)) rfl (Ru.move rfl) rfl ?_
            refine O.val (v := .slice (A13_1) ((l13_1).length) (c13_1)) rfl (Ru.move rfl) rfl ?_
            refine O.val (v := .slice (A23_1) ((l23_1).length) (c23_1)) rfl (Ru.move rfl) rfl ?_
            refine O.callg [.slice (A13_1) ((l13_1).length) (c13_1), .slice (A23_1) ((l23_1).length) (c23_1)] rfl en32 rfl rfl (sLogBetween_fn A13_1 c13_1 l13_1 A23_1 c23_1 l23_1 w5_13 (hM5_13.rd 2 rfl) (hM5_13.rd 3 rfl) (by first | omega | assumption | (simp; omega) | simp | (intros; omega)) (by first | omega | assumption | (simp; omega) | simp | (intros; omega))) ?_
            rintro _ w6_3 ⟨A16_3, c16_3, rfl, hR6_3⟩
            have hM6_3 : Mem w w6_3 [] [[⟨.slice (A16_3) ((lbF l13_1 l23_1).length) (c16_3), 34, 3, ((lbF l13_1 l23_1).length), (lbF l13_1 l23_1).flatMap encG⟩], [⟨.slice (A15_3) ((lbF l13_1 l23_1).length) (c15_3), 34, 3, ((lbF l13_1 l23_1).length), (lbF l13_1 l23_1).flatMap encG⟩], [⟨.slice (A14_2) ((lbF l13_1 l23_1).length) (c14_2), 34, 3, ((lbF l13_1 l23_1).length), (lbF l13_1 l23_1).flatMap encG⟩], [⟨.slice (A13_1) ((l13_1).length) (c13_1), 53, 2, ((l13_1).length), (l13_1).flatMap encP⟩], [⟨.slice (A23_1) ((l23_1).length) (c23_1), 53, 2, ((l23_1).length), (l23_1).flatMap encP⟩]] := Mem.call (Ma := []) hM5_13 hR6_3 rfl
            have hcr6_3_0 := (hM6_3.cap 0 rfl).1
            refine O.callg [.slice (A14_2) ((lbF l13_1 l23_1).length) (c14_2), .slice (A16_3) ((lbF l13_1 l23_1).length) (c16_3)] rfl en26 rfl rfl (equalRecords_fn A14_2 c14_2 (lbF l13_1 l23_1) A16_3 c16_3 (lbF l13_1 l23_1) w6_3 (hM6_3.rd 2 rfl) (hM6_3.rd 0 rfl) (by omega)) ?_
            rintro _ w6_4 ⟨hv6_4, hR6_4⟩
            obtain rfl : _ = Value.bool true := hv6_4.trans (by simp)
            have hM6_4 : Mem w w6_4 [] [[⟨.slice (A16_3) ((lbF l13_1 l23_1).length) (c16_3), 34, 3, ((lbF l13_1 l23_1).length), (lbF l13_1 l23_1).flatMap encG⟩], [⟨.slice (A15_3) ((lbF l13_1 l23_1).length) (c15_3), 34, 3, ((lbF l13_1 l23_1).length), (lbF l13_1 l23_1).flatMap encG⟩], [⟨.slice (A14_2) ((lbF l13_1 l23_1).length) (c14_2), 34, 3, ((lbF l13_1 l23_1).length), (lbF l13_1 l23_1).flatMap encG⟩], [⟨.slice (A13_1) ((l13_1).length) (c13_1), 53, 2, ((l13_1).length), (l13_1).flatMap encP⟩], [⟨.slice (A23_1) ((l23_1).length) (c23_1), 53, 2, ((l23_1).length), (l23_1).flatMap encP⟩]] := Mem.call (Ma := []) hM6_3 hR6_4 rfl
            refine O.val (v := .bool (true)) rfl (Ru.assign rfl) rfl ?_
            refine O.nil ?_
            refine C.ret ?_
            refine P1 (v := .bool (true)) rfl ?_
            exact ⟨rfl, (Mem.none hM6_4)⟩
          · have hps : 0 < (lbF l13_1 l23_1).length := by omega
            have hlr := lb_replay hps (by omega)
            refine C.skip ?_
            refine C.seq ?_
            refine C.region ?_
            refine O.val (v := .slice (A13_1) ((l13_1).length) (c13_1)) rfl (Ru.move rfl) rfl ?_
            refine O.mlit (sz := 3) (cs := []) hM5_13 rfl Try.underlying23 el34 rfl rfl rfl (by kernel_rfl) (by kernel_rfl) rfl rfl (fun w7_1 b7_1 hb7_1 (hM7_1 : Mem w w7_1 [] [[⟨.slice (bl b7_1) (0) (0), 34, 3, 0, ([]).flatMap encG⟩], [⟨.slice (A15_3) ((lbF l13_1 l23_1).length) (c15_3), 34, 3, ((lbF l13_1 l23_1).length), (lbF l13_1 l23_1).flatMap encG⟩], [⟨.slice (A14_2) ((lbF l13_1 l23_1).length) (c14_2), 34, 3, ((lbF l13_1 l23_1).length), (lbF l13_1 l23_1).flatMap encG⟩], [⟨.slice (A13_1) ((l13_1).length) (c13_1), 53, 2, ((l13_1).length), (l13_1).flatMap encP⟩], [⟨.slice (A23_1) ((l23_1).length) (c23_1), 53, 2, ((l23_1).length), (l23_1).flatMap encP⟩]]) => ?_)
            refine O.val (v := .slice (A14_2) ((lbF l13_1 l23_1).length) (c14_2)) rfl (Ru.move rfl) rfl ?_
            refine O.mappend (sz := 3) (news := (lbF l13_1 l23_1).flatMap encG) (m1 := (lbF l13_1 l23_1).length) (xs1 := (lbF l13_1 l23_1).flatMap encG) (M' := fun A7_3 c7_3 => [[⟨.slice (A7_3) ((lbF l13_1 l23_1).length) (c7_3), 34, 3, ((lbF l13_1 l23_1).length), (lbF l13_1 l23_1).flatMap encG⟩], [⟨.slice (A15_3) ((lbF l13_1 l23_1).length) (c15_3), 34, 3, ((lbF l13_1 l23_1).length), (lbF l13_1 l23_1).flatMap encG⟩], [⟨.slice (A14_2) ((lbF l13_1 l23_1).length) (c14_2), 34, 3, ((lbF l13_1 l23_1).length), (lbF l13_1 l23_1).flatMap encG⟩], [⟨.slice (A13_1) ((l13_1).length) (c13_1), 53, 2, ((l13_1).length), (l13_1).flatMap encP⟩], [⟨.slice (A23_1) ((l23_1).length) (c23_1), 53, 2, ((l23_1).length), (l23_1).flatMap encP⟩]]) 0 0 hM7_1 rfl rfl rfl Try.underlying23 el34 ⟨rfl, by decide⟩ rfl rfl rfl (hM7_1.rd 2 rfl) (by rw [flat_len encG_len]; first | done | (simp; done) | (simp; omega)) (all_flat_one (fun _ => rfl) _) (by first | omega | (simp; omega)) (by first | omega | (simp; omega)) (by first | (simp; done) | (simp; omega)) (by simp) (fun _ _ => rfl) (fun w7_3 A7_3 c7_3 hc7_3 hM7_3 => ?_)
            try dsimp only at hM7_3
            refine O.val (v := .agg #[I (3), I (0), I (0)]) rfl (Ru.build of34 rfl rfl rfl) rfl ?_
            refine O.mlit (sz := 3) (cs := [I (3), I (0), I (0)]) hM7_3 rfl Try.underlying23 el34 rfl rfl rfl (by kernel_rfl) (by kernel_rfl) rfl rfl (fun w7_5 b7_5 hb7_5 (hM7_5 : Mem w w7_5 [] [[⟨.slice (bl b7_5) (1) (1), 34, 3, 1, ([(⟨3, 0, 0⟩ : RecT)]).flatMap encG⟩], [⟨.slice (A7_3) ((lbF l13_1 l23_1).length) (c7_3), 34, 3, ((lbF l13_1 l23_1).length), (lbF l13_1 l23_1).flatMap encG⟩], [⟨.slice (A15_3) ((lbF l13_1 l23_1).length) (c15_3), 34, 3, ((lbF l13_1 l23_1).length), (lbF l13_1 l23_1).flatMap encG⟩], [⟨.slice (A14_2) ((lbF l13_1 l23_1).length) (c14_2), 34, 3, ((lbF l13_1 l23_1).length), (lbF l13_1 l23_1).flatMap encG⟩], [⟨.slice (A13_1) ((l13_1).length) (c13_1), 53, 2, ((l13_1).length), (l13_1).flatMap encP⟩], [⟨.slice (A23_1) ((l23_1).length) (c23_1), 53, 2, ((l23_1).length), (l23_1).flatMap encP⟩]]) => ?_)
            refine O.mappend (sz := 3) (news := ([(⟨3, 0, 0⟩ : RecT)]).flatMap encG) (m1 := (lbF l13_1 l23_1 ++ [(⟨3, 0, 0⟩ : RecT)]).length) (xs1 := (lbF l13_1 l23_1 ++ [(⟨3, 0, 0⟩ : RecT)]).flatMap encG) (M' := fun A7_6 c7_6 => [[⟨.slice (bl b7_5) (1) (1), 34, 3, 1, ([(⟨3, 0, 0⟩ : RecT)]).flatMap encG⟩], [⟨.slice (A7_6) ((lbF l13_1 l23_1 ++ [(⟨3, 0, 0⟩ : RecT)]).length) (c7_6), 34, 3, ((lbF l13_1 l23_1 ++ [(⟨3, 0, 0⟩ : RecT)]).length), (lbF l13_1 l23_1 ++ [(⟨3, 0, 0⟩ : RecT)]).flatMap encG⟩], [⟨.slice (A15_3) ((lbF l13_1 l23_1).length) (c15_3), 34, 3, ((lbF l13_1 l23_1).length), (lbF l13_1 l23_1).flatMap encG⟩], [⟨.slice (A14_2) ((lbF l13_1 l23_1).length) (c14_2), 34, 3, ((lbF l13_1 l23_1).length), (lbF l13_1 l23_1).flatMap encG⟩], [⟨.slice (A13_1) ((l13_1).length) (c13_1), 53, 2, ((l13_1).length), (l13_1).flatMap encP⟩], [⟨.slice (A23_1) ((l23_1).length) (c23_1), 53, 2, ((l23_1).length), (l23_1).flatMap encP⟩]]) 1 0 hM7_5 rfl rfl rfl Try.underlying23 el34 ⟨rfl, by decide⟩ rfl rfl rfl (hM7_5.rd 0 rfl) (by rw [flat_len encG_len]; first | done | (simp; done) | (simp; omega)) (all_flat_one (fun _ => rfl) _) (by first | omega | (simp; omega)) (by first | omega | (simp; omega)) (by first | (simp; done) | (simp; omega)) (by simp) (fun _ _ => rfl) (fun w7_6 A7_6 c7_6 hc7_6 hM7_6 => ?_)
            try dsimp only at hM7_6
            refine O.callg [.slice (A13_1) ((l13_1).length) (c13_1), .slice (A7_6) ((lbF l13_1 l23_1 ++ [(⟨3, 0, 0⟩ : RecT)]).length) (c7_6)] rfl en39 rfl rfl (ReplayLog_fn A13_1 c13_1 l13_1 A7_6 c7_6 (lbF l13_1 l23_1 ++ [(⟨3, 0, 0⟩ : RecT)]) w7_6 (hM7_6.rd 4 rfl) (hM7_6.rd 1 rfl) (by omega) (by simp; omega) (by simp at *; omega)) ?_
            rintro _ w7_7 ⟨A17_7, c17_7, rfl, hR7_7⟩
            have hM7_7 : Mem w w7_7 [] [[⟨.slice (A17_7) (((repF l13_1 (lbF l13_1 l23_1 ++ [(⟨3, 0, 0⟩ : RecT)])).getD []).length) (c17_7), 53, 2, (((repF l13_1 (lbF l13_1 l23_1 ++ [(⟨3, 0, 0⟩ : RecT)])).getD []).length), ((repF l13_1 (lbF l13_1 l23_1 ++ [(⟨3, 0, 0⟩ : RecT)])).getD []).flatMap encP⟩], [⟨.slice (bl b7_5) (1) (1), 34, 3, 1, ([(⟨3, 0, 0⟩ : RecT)]).flatMap encG⟩], [⟨.slice (A7_6) ((lbF l13_1 l23_1 ++ [(⟨3, 0, 0⟩ : RecT)]).length) (c7_6), 34, 3, ((lbF l13_1 l23_1 ++ [(⟨3, 0, 0⟩ : RecT)]).length), (lbF l13_1 l23_1 ++ [(⟨3, 0, 0⟩ : RecT)]).flatMap encG⟩], [⟨.slice (A15_3) ((lbF l13_1 l23_1).length) (c15_3), 34, 3, ((lbF l13_1 l23_1).length), (lbF l13_1 l23_1).flatMap encG⟩], [⟨.slice (A14_2) ((lbF l13_1 l23_1).length) (c14_2), 34, 3, ((lbF l13_1 l23_1).length), (lbF l13_1 l23_1).flatMap encG⟩], [⟨.slice (A13_1) ((l13_1).length) (c13_1), 53, 2, ((l13_1).length), (l13_1).flatMap encP⟩], [⟨.slice (A23_1) ((l23_1).length) (c23_1), 53, 2, ((l23_1).length), (l23_1).flatMap encP⟩]] := Mem.call (Ma := []) hM7_6 hR7_7 rfl
            have hcr7_7_0 := (hM7_7.cap 0 rfl).1
            refine O.val (v := .tuple #[.slice (A17_7) (((repF l13_1 (lbF l13_1 l23_1 ++ [(⟨3, 0, 0⟩ : RecT)])).getD []).length) (c17_7), .bool ((repF l13_1 (lbF l13_1 l23_1 ++ [(⟨3, 0, 0⟩ : RecT)])).isSome)]) rfl (Ru.move rfl) rfl ?_
            refine O.val (v := .slice (A17_7) (((repF l13_1 (lbF l13_1 l23_1 ++ [(⟨3, 0, 0⟩ : RecT)])).getD []).length) (c17_7)) rfl (Ru.extract rfl rfl) rfl ?_
            refine O.val (v := .bool ((repF l13_1 (lbF l13_1 l23_1 ++ [(⟨3, 0, 0⟩ : RecT)])).isSome)) rfl (Ru.extract rfl rfl) rfl ?_
            refine O.val (v := .slice (A17_7) (((repF l13_1 (lbF l13_1 l23_1 ++ [(⟨3, 0, 0⟩ : RecT)])).getD []).length) (c17_7)) rfl (Ru.assign rfl) rfl ?_
            refine O.val (v := .bool ((repF l13_1 (lbF l13_1 l23_1 ++ [(⟨3, 0, 0⟩ : RecT)])).isSome)) rfl (Ru.assign rfl) rfl ?_
            refine O.nil ?_
            refine C.seq ?_
            refine C.region ?_
            refine O.val (v := .bool ((repF l13_1 (lbF l13_1 l23_1 ++ [(⟨3, 0, 0⟩ : RecT)])).isSome)) rfl (Ru.move rfl) rfl ?_
            refine O.val (v := .bool ((repF l13_1 (lbF l13_1 l23_1 ++ [(⟨3, 0, 0⟩ : RecT)])).isSome)) rfl (Ru.move rfl) rfl ?_
            refine O.part 62 ((repF l13_1 (lbF l13_1 l23_1 ++ [(⟨3, 0, 0⟩ : RecT)])).isSome) rfl (fun g62 => ?_) (fun g62 => ?_)
            · refine O.val (v := .slice (A17_7) (((repF l13_1 (lbF l13_1 l23_1 ++ [(⟨3, 0, 0⟩ : RecT)])).getD []).length) (c17_7)) rfl (Ru.move rfl) rfl ?_
              refine O.val (v := .slice (A23_1) ((l23_1).length) (c23_1)) rfl (Ru.move rfl) rfl ?_
              refine O.callg [.slice (A17_7) (((repF l13_1 (lbF l13_1 l23_1 ++ [(⟨3, 0, 0⟩ : RecT)])).getD []).length) (c17_7), .slice (A23_1) ((l23_1).length) (c23_1)] rfl en41 rfl rfl (equalPairs_fn A17_7 c17_7 ((repF l13_1 (lbF l13_1 l23_1 ++ [(⟨3, 0, 0⟩ : RecT)])).getD []) A23_1 c23_1 l23_1 w7_7 (hM7_7.rd 0 rfl) (hM7_7.rd 6 rfl) (by rw [hlr]; simp; omega)) ?_
              rintro _ w8_4 ⟨rfl, hR8_4⟩
              have hM8_4 : Mem w w8_4 [] [[⟨.slice (A17_7) (((repF l13_1 (lbF l13_1 l23_1 ++ [(⟨3, 0, 0⟩ : RecT)])).getD []).length) (c17_7), 53, 2, (((repF l13_1 (lbF l13_1 l23_1 ++ [(⟨3, 0, 0⟩ : RecT)])).getD []).length), ((repF l13_1 (lbF l13_1 l23_1 ++ [(⟨3, 0, 0⟩ : RecT)])).getD []).flatMap encP⟩], [⟨.slice (bl b7_5) (1) (1), 34, 3, 1, ([(⟨3, 0, 0⟩ : RecT)]).flatMap encG⟩], [⟨.slice (A7_6) ((lbF l13_1 l23_1 ++ [(⟨3, 0, 0⟩ : RecT)]).length) (c7_6), 34, 3, ((lbF l13_1 l23_1 ++ [(⟨3, 0, 0⟩ : RecT)]).length), (lbF l13_1 l23_1 ++ [(⟨3, 0, 0⟩ : RecT)]).flatMap encG⟩], [⟨.slice (A15_3) ((lbF l13_1 l23_1).length) (c15_3), 34, 3, ((lbF l13_1 l23_1).length), (lbF l13_1 l23_1).flatMap encG⟩], [⟨.slice (A14_2) ((lbF l13_1 l23_1).length) (c14_2), 34, 3, ((lbF l13_1 l23_1).length), (lbF l13_1 l23_1).flatMap encG⟩], [⟨.slice (A13_1) ((l13_1).length) (c13_1), 53, 2, ((l13_1).length), (l13_1).flatMap encP⟩], [⟨.slice (A23_1) ((l23_1).length) (c23_1), 53, 2, ((l23_1).length), (l23_1).flatMap encP⟩]] := Mem.call (Ma := []) hM7_7 hR8_4 rfl
              refine O.val (v := .bool (decide (((repF l13_1 (lbF l13_1 l23_1 ++ [(⟨3, 0, 0⟩ : RecT)])).getD []) = l23_1))) rfl (Ru.pickT rfl rfl) rfl ?_
              refine O.val (v := .bool (decide (((repF l13_1 (lbF l13_1 l23_1 ++ [(⟨3, 0, 0⟩ : RecT)])).getD []) = l23_1))) rfl (Ru.assign rfl) rfl ?_
              refine O.nil ?_
              refine C.ret ?_
              refine P1 (v := .bool (decide (((repF l13_1 (lbF l13_1 l23_1 ++ [(⟨3, 0, 0⟩ : RecT)])).getD []) = l23_1))) rfl ?_
              exact ⟨(by first | rfl | (rw [hlr] at *; simp_all)), (Mem.none hM8_4)⟩
            · refine O.pass rfl rfl rfl rfl rfl ?_
              refine O.pass rfl rfl rfl rfl rfl ?_
              refine O.pass rfl rfl rfl rfl rfl ?_
              refine O.val (v := .bool (false)) rfl (Ru.pickF rfl rfl) rfl ?_
              refine O.val (v := .bool (false)) rfl (Ru.assign rfl) rfl ?_
              refine O.nil ?_
              refine C.ret ?_
              refine P1 (v := .bool (false)) rfl ?_
              exact ⟨(by first | rfl | (rw [hlr] at *; simp_all)), (Mem.none hM7_7)⟩
end Go.Proofs.Ytgflcaeibbnkcaa
namespace Go.Proofs.Ytgflcaeibbnkcaa.fnLogBetween
open Go.ChangeShapes Go.WideShapes Go.ChangeAt Go.RowKit Go.Px
open Go.ChangeMaps (open_string shut_string)
set_option linter.unusedVariables false

theorem own : ownKnob Try.prog.godebug = none := by kernel_rfl
theorem laidOut : laidOutB Try.prog = true := by kernel_rfl

set_option maxRecDepth 100000 in
theorem lifted (os : Os) (started : os.Started) (H : Type) (enc : TypeId × Value → H) :
    ReturnsInHanded {} Try.checked os 14 .any (Rows.fnLogBetweenSpec.pre6 enc Try.prog Try.f14 Rows.fnLogBetweenRow.domain false) (Rows.fnLogBetweenSpec.post enc Try.prog Try.f14 false true false false) := by
  refine returnsInHanded_of_change (C := Try.checked) own started (by kernel_rfl) Try.func14
    (ChangeSpec.witness6 (enc := enc) (C := Try.checked) false ⟨#[], #[.slice none 0 0], []⟩ 8 (by kernel_rfl) (by kernel_rfl) (by kernel_rfl) (by kernel_rfl)) ?_
  intro W base args ds gs before hval0 hW hcnd _
  have hval : ∀ (j : Nat) t v, Try.f14.params[j]? = some t → args[j]? = some v → Value.okWide Try.prog W .any base t v := hval0
  have hW' := hW
  obtain ⟨p, q, hA0, hV, rfl, hfz, hnd⟩ := hW
  have hA : DataW.TrodAll enc Try.prog W 0 (fun _ => true) true Try.f14.params.toList args.toList ds p := hA0
  rw [Try.params14] at hA hval
  obtain ⟨v0, vs0, d0, ds0, p0, q0, hargs, rfl, rfl, h0, r0⟩ := trodAll_cons hA
  obtain ⟨rfl, rfl, rfl⟩ := trodAll_nil r0
  obtain rfl : args = #[v0] := by cases args; simp_all
  obtain ⟨rfl, rfl⟩ := trodVars_none hV
  have k0 := h0
  have lt0 : ∀ x ∈ p0, x.block < W.heap.size := by obtain ⟨m, hm⟩ := k0; exact DataW.trod_lt m _ _ _ hm
  obtain ⟨a0, len0, cap0, rfl⟩ := okWide_slice Try.underlying22 (hval 0 22 v0 rfl rfl)
  have kk0 := k0
  obtain ⟨fuel0, hf0⟩ := kk0
  obtain ⟨z0, rfl, hz0, hc0, hw0, hRd0⟩ := slice_in (α := UInt8) (f := fun a : UInt8 => [byteV a]) (c := 1) Try.underlying22 (by kernel_rfl) (fun _ => rfl) (byte_el Try.underlying5) hf0
  rw [flat_one] at hRd0
  clear hA0 hval0
  refine (FnLogBetween_fn a0 cap0 z0 W hRd0 hz0 hc0).out.mono fun e W' ⟨v, he, hv, hg⟩ => ?_
  subst he hv
  have bel : Below W.heap.size W W' := ⟨hg.os, hg.tape, hg.output, hg.size, fun k hk => hg.block k hk (by simp)⟩
  exact ⟨_, rfl, _, _, _, [], _, [], hW', trodAll_mk1 (shut_bool Try.underlying4 _), (trodAll_cons_mk (Below.trod laidOut (by kernel_rfl) (of_decide_eq_true (by kernel_rfl)) k0 bel lt0) trodAll_mk0), rfl, bel.frame _, fun h => by cases h⟩

theorem named_ : Try.prog.funcNamed Rows.fnLogBetweenRow.func = some 14 := by kernel_rfl
theorem closed : joinedFacts Try.prog 14 Try.f14 Rows.fnLogBetweenSpec Rows.fnLogBetweenRow = true := by
  unfold joinedFacts
  rw [enter_, lifts_, made_]
  kernel_rfl
theorem inst_ : Try.f14.isInstance Try.prog Rows.fnLogBetweenRow.origin Rows.fnLogBetweenRow.targs := of_decide_eq_true (by kernel_rfl)
theorem wrap_ : Try.f14.isWrapper Try.prog Rows.fnLogBetweenRow.wrapper Rows.fnLogBetweenRow.mainSum := by
  unfold Func.isWrapper
  rw [if_neg (by decide +kernel)]
  exact ⟨rfl, rfl⟩
theorem over : Rows.fnLogBetweenRow.holds Try.pinned (OpenSpec.ofChange Rows.fnLogBetweenSpec) :=
  OpenClaim.holds_of_wide 14 Try.f14 rfl rfl rfl rfl rfl rfl rfl ⟨rfl, rfl, rfl, rfl, rfl⟩ rfl rfl rfl rfl rfl named_ Try.func14 closed inst_ wrap_
    (fun os started H enc _ => lifted os started H enc)
theorem proved : Rows.FnLogBetweenSaid := over
end Go.Proofs.Ytgflcaeibbnkcaa.fnLogBetween
