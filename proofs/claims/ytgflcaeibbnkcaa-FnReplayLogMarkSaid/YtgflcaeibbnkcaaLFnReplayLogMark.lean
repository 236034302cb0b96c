/- The statement Rows.FnReplayLogMarkSaid: the Go function laws.FnReplayLogMark returns true for every input, and each argument reads afterwards as it read before. No conditions. -/
import Derived.Test.YtgflcaeibbnkcaaRows
import Derived.Test.YtgflcaeibbnkcaaPxO
import Derived.Test.YtgflcaeibbnkcaaLI
import Derived.Test.YtgflcaeibbnkcaaH0
import Derived.WalkKit
import Derived.ProofKit
import Derived.OpenShut
import Derived.ShutString
import Derived.ChangeOld
import Derived.SliceStrings
import Derived.Deep.Slices
import Derived.Deep.Fields
import Derived.ChangeSame
import Derived.Below
set_option linter.unusedVariables false
set_option linter.unusedSimpArgs false
namespace Go.Proofs.Ytgflcaeibbnkcaa
open Go.Px
set_option linter.unusedVariables false
theorem FnReplayLogMark_fn (A : Option Addr) (c : Nat) (l : List UInt8) (w : World) (hA : Rd w A ((l).map byteV)) (hl : l.length ≤ 9223372036854775807) (hc : l.length ≤ c) :
    Does Try.prog 11 [.slice (A) ((l).length) (c)] w (fun v w1 => v = .bool (true) ∧ Mem w w1 [] []) := by
  have hM : Mem w w [] [] := Mem.refl
  refine Does.enter1 Try.func11 rfl Try.results11 Try.ntmps11 rfl ?_
  refine C.seq ?_
  refine C.region ?_
  refine O.val (v := .bool (false)) rfl (Ru.assign rfl) rfl ?_
  refine O.nil ?_
  refine C.seq ?_
  refine C.seq ?_
  refine C.region ?_
  refine O.val (v := .slice (A) ((l).length) (c)) rfl (Ru.move rfl) rfl ?_
  refine O.val (v := I ((((l).length : Nat) : Int))) rfl (Ru.blenSlice Try.underlying22 rfl) rfl ?_
  refine O.val (v := .bool (decide ((((l).length : Nat) : Int) > 1048576))) rfl (Ru.gtr rfl rfl) rfl ?_
  refine O.nil ?_
  refine C.cond (p := (((l).length : Nat) : Int) > 1048576) rfl (fun c13 => ?_) (fun c13 => ?_)
  · refine C.seq ?_
    refine C.region ?_
    refine O.val (v := .bool (true)) rfl (Ru.assign rfl) rfl ?_
    refine O.nil ?_
    refine C.ret ?_
    refine P1 (v := .bool (true)) rfl ?_
    exact ⟨rfl, (Mem.none hM)⟩
  · refine C.skip ?_
    refine C.seq ?_
    refine C.region ?_
    refine O.val (v := .slice (A) ((l).length) (c)) rfl (Ru.move rfl) rfl ?_
    refine O.callg [.slice (A) ((l).length) (c)] rfl en38 rfl rfl (DrawReplayLog_fn A c l w (hA.at hM) (by first | omega | assumption | (simp; omega) | simp | (intros; omega)) (by first | omega | assumption | (simp; omega) | simp | (intros; omega))) ?_
    rintro _ w3_1 ⟨l13_1, A13_1, c13_1, l23_1, A23_1, c23_1, rfl, hl3_1, hl23_1, hR3_1⟩
    have hM3_1 : Mem w w3_1 [] [[⟨.slice (A13_1) ((l13_1).length) (c13_1), 53, 2, ((l13_1).length), (l13_1).flatMap encP⟩], [⟨.slice (A23_1) ((l23_1).length) (c23_1), 34, 3, ((l23_1).length), (l23_1).flatMap encG⟩]] := Mem.call (Ma := []) hM hR3_1 rfl
    have hcr3_1_0 := (hM3_1.cap 0 rfl).1
    have hcr3_1_1 := (hM3_1.cap 1 rfl).1
    refine O.val (v := .tuple #[.slice (A13_1) ((l13_1).length) (c13_1), .slice (A23_1) ((l23_1).length) (c23_1)]) rfl (Ru.move rfl) rfl ?_
    refine O.val (v := .slice (A13_1) ((l13_1).length) (c13_1)) rfl (Ru.extract rfl rfl) rfl ?_
    refine O.val (v := .slice (A23_1) ((l23_1).length) (c23_1)) rfl (Ru.extract rfl rfl) rfl ?_
    refine O.val (v := .slice (A13_1) ((l13_1).length) (c13_1)) rfl (Ru.assign rfl) rfl ?_
    refine O.val (v := .slice (A23_1) ((l23_1).length) (c23_1)) rfl (Ru.assign rfl) rfl ?_
    refine O.nil ?_
    refine C.seq ?_
    refine C.region ?_
    refine O.val (v := .slice (A13_1) ((l13_1).length) (c13_1)) rfl (Ru.move rfl) rfl ?_
    refine O.val (v := .slice (A23_1) ((l23_1).length) (c23_1)) rfl (Ru.move rfl) rfl ?_
    refine O.callg [.slice (A13_1) ((l13_1).length) (c13_1), .slice (A23_1) ((l23_1).length) (c23_1)] rfl en39 rfl rfl (ReplayLog_fn A13_1 c13_1 l13_1 A23_1 c23_1 l23_1 w3_1 (hM3_1.rd 0 rfl) (hM3_1.rd 1 rfl) (by first | omega | assumption | (simp; omega) | simp | (intros; omega)) (by first | omega | assumption | (simp; omega) | simp | (intros; omega)) (by first | omega | assumption | (simp; omega) | simp | (intros; omega))) ?_
    rintro _ w4_2 ⟨A14_2, c14_2, rfl, hR4_2⟩
    have hM4_2 : Mem w w4_2 [] [[⟨.slice (A14_2) (((repF l13_1 l23_1).getD []).length) (c14_2), 53, 2, (((repF l13_1 l23_1).getD []).length), ((repF l13_1 l23_1).getD []).flatMap encP⟩], [⟨.slice (A13_1) ((l13_1).length) (c13_1), 53, 2, ((l13_1).length), (l13_1).flatMap encP⟩], [⟨.slice (A23_1) ((l23_1).length) (c23_1), 34, 3, ((l23_1).length), (l23_1).flatMap encG⟩]] := Mem.call (Ma := []) hM3_1 hR4_2 rfl
    have hcr4_2_0 := (hM4_2.cap 0 rfl).1
    have hrl := rep_len (l := l13_1) (g := l23_1)
    refine O.val (v := .tuple #[.slice (A14_2) (((repF l13_1 l23_1).getD []).length) (c14_2), .bool ((repF l13_1 l23_1).isSome)]) rfl (Ru.move rfl) rfl ?_
    refine O.val (v := .slice (A14_2) (((repF l13_1 l23_1).getD []).length) (c14_2)) rfl (Ru.extract rfl rfl) rfl ?_
    refine O.val (v := .bool ((repF l13_1 l23_1).isSome)) rfl (Ru.extract rfl rfl) rfl ?_
    refine O.val (v := .slice (A14_2) (((repF l13_1 l23_1).getD []).length) (c14_2)) rfl (Ru.assign rfl) rfl ?_
    refine O.val (v := .bool ((repF l13_1 l23_1).isSome)) rfl (Ru.assign rfl) rfl ?_
    refine O.nil ?_
    refine C.seq ?_
    refine C.region ?_
    refine O.val (v := .slice (A13_1) ((l13_1).length) (c13_1)) rfl (Ru.move rfl) rfl ?_
    refine O.val (v := .slice (A23_1) ((l23_1).length) (c23_1)) rfl (Ru.move rfl) rfl ?_
    refine O.callg [.slice (A13_1) ((l13_1).length) (c13_1), .slice (A23_1) ((l23_1).length) (c23_1)] rfl en40 rfl rfl (sReplayLog_fn A13_1 c13_1 l13_1 A23_1 c23_1 l23_1 w4_2 (hM4_2.rd 1 rfl) (hM4_2.rd 2 rfl) (by first | omega | assumption | (simp; omega) | simp | (intros; omega)) (by first | omega | assumption | (simp; omega) | simp | (intros; omega)) (by first | omega | assumption | (simp; omega) | simp | (intros; omega))) ?_
    rintro _ w5_2 ⟨A15_2, c15_2, rfl, hR5_2⟩
    have hM5_2 : Mem w w5_2 [] [[⟨.slice (A15_2) (((repF l13_1 l23_1).getD []).length) (c15_2), 53, 2, (((repF l13_1 l23_1).getD []).length), ((repF l13_1 l23_1).getD []).flatMap encP⟩], [⟨.slice (A14_2) (((repF l13_1 l23_1).getD []).length) (c14_2), 53, 2, (((repF l13_1 l23_1).getD []).length), ((repF l13_1 l23_1).getD []).flatMap encP⟩], [⟨.slice (A13_1) ((l13_1).length) (c13_1), 53, 2, ((l13_1).length), (l13_1).flatMap encP⟩], [⟨.slice (A23_1) ((l23_1).length) (c23_1), 34, 3, ((l23_1).length), (l23_1).flatMap encG⟩]] := Mem.call (Ma := []) hM4_2 hR5_2 rfl
    have hcr5_2_0 := (hM5_2.cap 0 rfl).1
    refine O.val (v := .tuple #[.slice (A15_2) (((repF l13_1 l23_1).getD []).length) (c15_2), .bool ((repF l13_1 l23_1).isSome)]) rfl (Ru.move rfl) rfl ?_
    refine O.val (v := .slice (A15_2) (((repF l13_1 l23_1).getD []).length) (c15_2)) rfl (Ru.extract rfl rfl) rfl ?_
    refine O.val (v := .bool ((repF l13_1 l23_1).isSome)) rfl (Ru.extract rfl rfl) rfl ?_
    refine O.val (v := .slice (A15_2) (((repF l13_1 l23_1).getD []).length) (c15_2)) rfl (Ru.assign rfl) rfl ?_
    refine O.val (v := .bool ((repF l13_1 l23_1).isSome)) rfl (Ru.assign rfl) rfl ?_
    refine O.nil ?_
    refine C.seq ?_
    refine C.seq ?_
    refine C.region ?_
    refine O.val (v := .slice (A14_2) (((repF l13_1 l23_1).getD []).length) (c14_2)) rfl (Ru.move rfl) rfl ?_
    refine O.val (v := .slice (A15_2) (((repF l13_1 l23_1).getD []).length) (c15_2)) rfl (Ru.move rfl) rfl ?_
    refine O.callg [.slice (A14_2) (((repF l13_1 l23_1).getD []).length) (c14_2), .slice (A15_2) (((repF l13_1 l23_1).getD []).length) (c15_2)] rfl en41 rfl rfl (equalPairs_fn A14_2 c14_2 ((repF l13_1 l23_1).getD []) A15_2 c15_2 ((repF l13_1 l23_1).getD []) w5_2 (hM5_2.rd 1 rfl) (hM5_2.rd 0 rfl) (by omega)) ?_
    rintro _ w6_2 ⟨hv6_2, hR6_2⟩
    obtain rfl : _ = Value.bool true := hv6_2.trans (by simp)
    have hM6_2 : Mem w w6_2 [] [[⟨.slice (A15_2) (((repF l13_1 l23_1).getD []).length) (c15_2), 53, 2, (((repF l13_1 l23_1).getD []).length), ((repF l13_1 l23_1).getD []).flatMap encP⟩], [⟨.slice (A14_2) (((repF l13_1 l23_1).getD []).length) (c14_2), 53, 2, (((repF l13_1 l23_1).getD []).length), ((repF l13_1 l23_1).getD []).flatMap encP⟩], [⟨.slice (A13_1) ((l13_1).length) (c13_1), 53, 2, ((l13_1).length), (l13_1).flatMap encP⟩], [⟨.slice (A23_1) ((l23_1).length) (c23_1), 34, 3, ((l23_1).length), (l23_1).flatMap encG⟩]] := Mem.call (Ma := []) hM5_2 hR6_2 rfl
    refine O.val (v := .bool (false)) rfl (Ru.not (b := true) rfl) rfl ?_
    refine O.val (v := .bool (false)) rfl (Ru.move rfl) rfl ?_
    refine O.val (v := .bool ((repF l13_1 l23_1).isSome)) rfl (Ru.move rfl) rfl ?_
    refine O.val (v := .bool ((repF l13_1 l23_1).isSome)) rfl (Ru.move rfl) rfl ?_
    refine O.val (v := .bool (false)) rfl (Ru.congr (v := .bool (decide ((repF l13_1 l23_1).isSome ≠ (repF l13_1 l23_1).isSome))) (v' := .bool (false)) (Ru.bneq Try.underlying4 rfl rfl) (congrArg Value.bool (by simp))) rfl ?_
    refine O.val (v := .bool (false)) rfl (Ru.pickF rfl rfl) rfl ?_
    refine O.val (v := .bool (false)) rfl (Ru.move rfl) rfl ?_
    refine O.val (v := .bool ((repF l13_1 l23_1).isSome)) rfl (Ru.move rfl) rfl ?_
    refine O.val (v := .bool (!((repF l13_1 l23_1).isSome))) rfl (Ru.not rfl) rfl ?_
    refine O.val (v := .bool (!((repF l13_1 l23_1).isSome))) rfl (Ru.pickF rfl rfl) rfl ?_
    refine O.val (v := .bool (!((repF l13_1 l23_1).isSome))) rfl (Ru.move rfl) rfl ?_
    refine O.part 44 (!((repF l13_1 l23_1).isSome)) rfl (fun g44 => ?_) (fun g44 => ?_)
    · refine O.pass rfl rfl rfl rfl rfl ?_
      refine O.pass rfl rfl rfl rfl rfl ?_
      refine O.pass rfl rfl rfl rfl rfl ?_
      refine O.val (v := .bool (true)) rfl (Ru.pickT rfl rfl) rfl ?_
      refine O.nil ?_
      refine C.condT rfl ?_
      refine C.seq ?_
      refine C.region ?_
      refine O.val (v := .slice (A14_2) (((repF l13_1 l23_1).getD []).length) (c14_2)) rfl (Ru.move rfl) rfl ?_
      refine O.val (v := .slice (A15_2) (((repF l13_1 l23_1).getD []).length) (c15_2)) rfl (Ru.move rfl) rfl ?_
      refine O.callg [.slice (A14_2) (((repF l13_1 l23_1).getD []).length) (c14_2), .slice (A15_2) (((repF l13_1 l23_1).getD []).length) (c15_2)] rfl en41 rfl rfl (equalPairs_fn A14_2 c14_2 ((repF l13_1 l23_1).getD []) A15_2 c15_2 ((repF l13_1 l23_1).getD []) w6_2 (hM6_2.rd 1 rfl) (hM6_2.rd 0 rfl) (by omega)) ?_
      rintro _ w7_2 ⟨hv7_2, hR7_2⟩
      obtain rfl : _ = Value.bool true := hv7_2.trans (by simp)
      have hM7_2 : Mem w w7_2 [] [[⟨.slice (A15_2) (((repF l13_1 l23_1).getD []).length) (c15_2), 53, 2, (((repF l13_1 l23_1).getD []).length), ((repF l13_1 l23_1).getD []).flatMap encP⟩], [⟨.slice (A14_2) (((repF l13_1 l23_1).getD []).length) (c14_2), 53, 2, (((repF l13_1 l23_1).getD []).length), ((repF l13_1 l23_1).getD []).flatMap encP⟩], [⟨.slice (A13_1) ((l13_1).length) (c13_1), 53, 2, ((l13_1).length), (l13_1).flatMap encP⟩], [⟨.slice (A23_1) ((l23_1).length) (c23_1), 34, 3, ((l23_1).length), (l23_1).flatMap encG⟩]] := Mem.call (Ma := []) hM6_2 hR7_2 rfl
      refine O.val (v := .bool (true)) rfl (Ru.move rfl) rfl ?_
      refine O.val (v := .bool ((repF l13_1 l23_1).isSome)) rfl (Ru.move rfl) rfl ?_
      refine O.val (v := .bool ((repF l13_1 l23_1).isSome)) rfl (Ru.move rfl) rfl ?_
      refine O.val (v := .bool (true)) rfl (Ru.congr (v := .bool (decide ((repF l13_1 l23_1).isSome = (repF l13_1 l23_1).isSome))) (v' := .bool (true)) (Ru.beql Try.underlying4 rfl rfl) (congrArg Value.bool (by simp))) rfl ?_
      refine O.val (v := .bool (true)) rfl (Ru.pickT rfl rfl) rfl ?_
      refine O.val (v := .bool (true)) rfl (Ru.assign rfl) rfl ?_
      refine O.nil ?_
      refine C.ret ?_
      refine P1 (v := .bool (true)) rfl ?_
      exact ⟨(by first | rfl | (simp_all)), (Mem.none hM7_2)⟩
    · refine O.val (v := .slice (A23_1) ((l23_1).length) (c23_1)) rfl (Ru.move rfl) rfl ?_
      refine O.val (v := I ((((l23_1).length : Nat) : Int))) rfl (Ru.blenSlice Try.underlying23 rfl) rfl ?_
      refine O.val (v := .bool (decide ((((l23_1).length : Nat) : Int) = 24))) rfl (Ru.eql rfl rfl) rfl ?_
      refine O.val (v := .bool (decide ((((l23_1).length : Nat) : Int) = 24))) rfl (Ru.pickF rfl rfl) rfl ?_
      refine O.nil ?_
      refine C.cond (p := (((l23_1).length : Nat) : Int) = 24) rfl (fun c48 => ?_) (fun c48 => ?_)
      · refine C.seq ?_
        refine C.region ?_
        refine O.val (v := .slice (A14_2) (((repF l13_1 l23_1).getD []).length) (c14_2)) rfl (Ru.move rfl) rfl ?_
        refine O.val (v := .slice (A15_2) (((repF l13_1 l23_1).getD []).length) (c15_2)) rfl (Ru.move rfl) rfl ?_
        refine O.callg [.slice (A14_2) (((repF l13_1 l23_1).getD []).length) (c14_2), .slice (A15_2) (((repF l13_1 l23_1).getD []).length) (c15_2)] rfl en41 rfl rfl (equalPairs_fn A14_2 c14_2 ((repF l13_1 l23_1).getD []) A15_2 c15_2 ((repF l13_1 l23_1).getD []) w6_2 (hM6_2.rd 1 rfl) (hM6_2.rd 0 rfl) (by omega)) ?_
        rintro _ w7_2 ⟨hv7_2, hR7_2⟩
        obtain rfl : _ = Value.bool true := hv7_2.trans (by simp)
        have hM7_2 : Mem w w7_2 [] [[⟨.slice (A15_2) (((repF l13_1 l23_1).getD []).length) (c15_2), 53, 2, (((repF l13_1 l23_1).getD []).length), ((repF l13_1 l23_1).getD []).flatMap encP⟩], [⟨.slice (A14_2) (((repF l13_1 l23_1).getD []).length) (c14_2), 53, 2, (((repF l13_1 l23_1).getD []).length), ((repF l13_1 l23_1).getD []).flatMap encP⟩], [⟨.slice (A13_1) ((l13_1).length) (c13_1), 53, 2, ((l13_1).length), (l13_1).flatMap encP⟩], [⟨.slice (A23_1) ((l23_1).length) (c23_1), 34, 3, ((l23_1).length), (l23_1).flatMap encG⟩]] := Mem.call (Ma := []) hM6_2 hR7_2 rfl
        refine O.val (v := .bool (true)) rfl (Ru.move rfl) rfl ?_
        refine O.val (v := .bool ((repF l13_1 l23_1).isSome)) rfl (Ru.move rfl) rfl ?_
        refine O.val (v := .bool ((repF l13_1 l23_1).isSome)) rfl (Ru.move rfl) rfl ?_
        refine O.val (v := .bool (true)) rfl (Ru.congr (v := .bool (decide ((repF l13_1 l23_1).isSome = (repF l13_1 l23_1).isSome))) (v' := .bool (true)) (Ru.beql Try.underlying4 rfl rfl) (congrArg Value.bool (by simp))) rfl ?_
        refine O.val (v := .bool (true)) rfl (Ru.pickT rfl rfl) rfl ?_
        refine O.val (v := .bool (true)) rfl (Ru.assign rfl) rfl ?_
        refine O.nil ?_
        refine C.ret ?_
        refine P1 (v := .bool (true)) rfl ?_
        exact ⟨(by first | rfl | (simp_all)), (Mem.none hM7_2)⟩
      · have hso : (repF l13_1 l23_1).isSome = true := by simp_all
        have hmr := mark_replay hso (by omega)
        refine C.skip ?_
        refine C.seq ?_
        refine C.region ?_
        refine O.val (v := .slice (A13_1) ((l13_1).length) (c13_1)) rfl (Ru.move rfl) rfl ?_
        refine O.mlit (sz := 3) (cs := []) hM6_2 rfl Try.underlying23 el34 rfl rfl rfl (by kernel_rfl) (by kernel_rfl) rfl rfl (fun w8_1 b8_1 hb8_1 (hM8_1 : Mem w w8_1 [] [[⟨.slice (bl b8_1) (0) (0), 34, 3, 0, ([]).flatMap encG⟩], [⟨.slice (A15_2) (((repF l13_1 l23_1).getD []).length) (c15_2), 53, 2, (((repF l13_1 l23_1).getD []).length), ((repF l13_1 l23_1).getD []).flatMap encP⟩], [⟨.slice (A14_2) (((repF l13_1 l23_1).getD []).length) (c14_2), 53, 2, (((repF l13_1 l23_1).getD []).length), ((repF l13_1 l23_1).getD []).flatMap encP⟩], [⟨.slice (A13_1) ((l13_1).length) (c13_1), 53, 2, ((l13_1).length), (l13_1).flatMap encP⟩], [⟨.slice (A23_1) ((l23_1).length) (c23_1), 34, 3, ((l23_1).length), (l23_1).flatMap encG⟩]]) => ?_)
        refine O.val (v := .slice (A23_1) ((l23_1).length) (c23_1)) rfl (Ru.move rfl) rfl ?_
        refine O.mappend (sz := 3) (news := (l23_1).flatMap encG) (m1 := (l23_1).length) (xs1 := (l23_1).flatMap encG) (M' := fun A8_3 c8_3 => [[⟨.slice (A8_3) ((l23_1).length) (c8_3), 34, 3, ((l23_1).length), (l23_1).flatMap encG⟩], [⟨.slice (A15_2) (((repF l13_1 l23_1).getD []).length) (c15_2), 53, 2, (((repF l13_1 l23_1).getD []).length), ((repF l13_1 l23_1).getD []).flatMap encP⟩], [⟨.slice (A14_2) (((repF l13_1 l23_1).getD []).length) (c14_2), 53, 2, (((repF l13_1 l23_1).getD []).length), ((repF l13_1 l23_1).getD []).flatMap encP⟩], [⟨.slice (A13_1) ((l13_1).length) (c13_1), 53, 2, ((l13_1).length), (l13_1).flatMap encP⟩], [⟨.slice (A23_1) ((l23_1).length) (c23_1), 34, 3, ((l23_1).length), (l23_1).flatMap encG⟩]]) 0 0 hM8_1 rfl rfl rfl Try.underlying23 el34 ⟨rfl, by decide⟩ rfl rfl rfl (hM8_1.rd 4 rfl) (by rw [flat_len encG_len]; first | done | (simp; done) | (simp; omega)) (all_flat_one (fun _ => rfl) _) (by first | omega | (simp; omega)) (by first | omega | (simp; omega)) (by first | (simp; done) | (simp; omega)) (by simp) (fun _ _ => rfl) (fun w8_3 A8_3 c8_3 hc8_3 hM8_3 => ?_)
        try dsimp only at hM8_3
        refine O.val (v := .agg #[I (1), I (3), I (3)]) rfl (Ru.build of34 rfl rfl rfl) rfl ?_
        refine O.mlit (sz := 3) (cs := [I (1), I (3), I (3)]) hM8_3 rfl Try.underlying23 el34 rfl rfl rfl (by kernel_rfl) (by kernel_rfl) rfl rfl (fun w8_5 b8_5 hb8_5 (hM8_5 : Mem w w8_5 [] [[⟨.slice (bl b8_5) (1) (1), 34, 3, 1, ([(⟨1, 3, 3⟩ : RecT)]).flatMap encG⟩], [⟨.slice (A8_3) ((l23_1).length) (c8_3), 34, 3, ((l23_1).length), (l23_1).flatMap encG⟩], [⟨.slice (A15_2) (((repF l13_1 l23_1).getD []).length) (c15_2), 53, 2, (((repF l13_1 l23_1).getD []).length), ((repF l13_1 l23_1).getD []).flatMap encP⟩], [⟨.slice (A14_2) (((repF l13_1 l23_1).getD []).length) (c14_2), 53, 2, (((repF l13_1 l23_1).getD []).length), ((repF l13_1 l23_1).getD []).flatMap encP⟩], [⟨.slice (A13_1) ((l13_1).length) (c13_1), 53, 2, ((l13_1).length), (l13_1).flatMap encP⟩], [⟨.slice (A23_1) ((l23_1).length) (c23_1), 34, 3, ((l23_1).length), (l23_1).flatMap encG⟩]]) => ?_)
        refine O.mappend (sz := 3) (news := ([(⟨1, 3, 3⟩ : RecT)]).flatMap encG) (m1 := (l23_1 ++ [(⟨1, 3, 3⟩ : RecT)]).length) (xs1 := (l23_1 ++ [(⟨1, 3, 3⟩ : RecT)]).flatMap encG) (M' := fun A8_6 c8_6 => [[⟨.slice (bl b8_5) (1) (1), 34, 3, 1, ([(⟨1, 3, 3⟩ : RecT)]).flatMap encG⟩], [⟨.slice (A8_6) ((l23_1 ++ [(⟨1, 3, 3⟩ : RecT)]).length) (c8_6), 34, 3, ((l23_1 ++ [(⟨1, 3, 3⟩ : RecT)]).length), (l23_1 ++ [(⟨1, 3, 3⟩ : RecT)]).flatMap encG⟩], [⟨.slice (A15_2) (((repF l13_1 l23_1).getD []).length) (c15_2), 53, 2, (((repF l13_1 l23_1).getD []).length), ((repF l13_1 l23_1).getD []).flatMap encP⟩], [⟨.slice (A14_2) (((repF l13_1 l23_1).getD []).length) (c14_2), 53, 2, (((repF l13_1 l23_1).getD []).length), ((repF l13_1 l23_1).getD []).flatMap encP⟩], [⟨.slice (A13_1) ((l13_1).length) (c13_1), 53, 2, ((l13_1).length), (l13_1).flatMap encP⟩], [⟨.slice (A23_1) ((l23_1).length) (c23_1), 34, 3, ((l23_1).length), (l23_1).flatMap encG⟩]]) 1 0 hM8_5 rfl rfl rfl Try.underlying23 el34 ⟨rfl, by decide⟩ rfl rfl rfl (hM8_5.rd 0 rfl) (by rw [flat_len encG_len]; first | done | (simp; done) | (simp; omega)) (all_flat_one (fun _ => rfl) _) (by first | omega | (simp; omega)) (by first | omega | (simp; omega)) (by first | (simp; done) | (simp; omega)) (by simp) (fun _ _ => rfl) (fun w8_6 A8_6 c8_6 hc8_6 hM8_6 => ?_)
        try dsimp only at hM8_6
        refine O.callg [.slice (A13_1) ((l13_1).length) (c13_1), .slice (A8_6) ((l23_1 ++ [(⟨1, 3, 3⟩ : RecT)]).length) (c8_6)] rfl en39 rfl rfl (ReplayLog_fn A13_1 c13_1 l13_1 A8_6 c8_6 (l23_1 ++ [(⟨1, 3, 3⟩ : RecT)]) w8_6 (hM8_6.rd 4 rfl) (hM8_6.rd 1 rfl) (by omega) (by simp; omega) (by simp at *; omega)) ?_
        rintro _ w8_7 ⟨A18_7, c18_7, rfl, hR8_7⟩
        have hM8_7 : Mem w w8_7 [] [[⟨.slice (A18_7) (((repF l13_1 (l23_1 ++ [(⟨1, 3, 3⟩ : RecT)])).getD []).length) (c18_7), 53, 2, (((repF l13_1 (l23_1 ++ [(⟨1, 3, 3⟩ : RecT)])).getD []).length), ((repF l13_1 (l23_1 ++ [(⟨1, 3, 3⟩ : RecT)])).getD []).flatMap encP⟩], [⟨.slice (bl b8_5) (1) (1), 34, 3, 1, ([(⟨1, 3, 3⟩ : RecT)]).flatMap encG⟩], [⟨.slice (A8_6) ((l23_1 ++ [(⟨1, 3, 3⟩ : RecT)]).length) (c8_6), 34, 3, ((l23_1 ++ [(⟨1, 3, 3⟩ : RecT)]).length), (l23_1 ++ [(⟨1, 3, 3⟩ : RecT)]).flatMap encG⟩], [⟨.slice (A15_2) (((repF l13_1 l23_1).getD []).length) (c15_2), 53, 2, (((repF l13_1 l23_1).getD []).length), ((repF l13_1 l23_1).getD []).flatMap encP⟩], [⟨.slice (A14_2) (((repF l13_1 l23_1).getD []).length) (c14_2), 53, 2, (((repF l13_1 l23_1).getD []).length), ((repF l13_1 l23_1).getD []).flatMap encP⟩], [⟨.slice (A13_1) ((l13_1).length) (c13_1), 53, 2, ((l13_1).length), (l13_1).flatMap encP⟩], [⟨.slice (A23_1) ((l23_1).length) (c23_1), 34, 3, ((l23_1).length), (l23_1).flatMap encG⟩]] := Mem.call (Ma := []) hM8_6 hR8_7 rfl
        have hcr8_7_0 := (hM8_7.cap 0 rfl).1
        refine O.val (v := .tuple #[.slice (A18_7) (((repF l13_1 (l23_1 ++ [(⟨1, 3, 3⟩ : RecT)])).getD []).length) (c18_7), .bool ((repF l13_1 (l23_1 ++ [(⟨1, 3, 3⟩ : RecT)])).isSome)]) rfl (Ru.move rfl) rfl ?_
        refine O.val (v := .slice (A18_7) (((repF l13_1 (l23_1 ++ [(⟨1, 3, 3⟩ : RecT)])).getD []).length) (c18_7)) rfl (Ru.extract rfl rfl) rfl ?_
        refine O.val (v := .bool ((repF l13_1 (l23_1 ++ [(⟨1, 3, 3⟩ : RecT)])).isSome)) rfl (Ru.extract rfl rfl) rfl ?_
        refine O.val (v := .slice (A18_7) (((repF l13_1 (l23_1 ++ [(⟨1, 3, 3⟩ : RecT)])).getD []).length) (c18_7)) rfl (Ru.assign rfl) rfl ?_
        refine O.val (v := .bool ((repF l13_1 (l23_1 ++ [(⟨1, 3, 3⟩ : RecT)])).isSome)) rfl (Ru.assign rfl) rfl ?_
        refine O.nil ?_
        refine C.seq ?_
        refine C.region ?_
        refine O.val (v := .bool ((repF l13_1 (l23_1 ++ [(⟨1, 3, 3⟩ : RecT)])).isSome)) rfl (Ru.move rfl) rfl ?_
        refine O.val (v := .bool ((repF l13_1 (l23_1 ++ [(⟨1, 3, 3⟩ : RecT)])).isSome)) rfl (Ru.move rfl) rfl ?_
        refine O.part 69 ((repF l13_1 (l23_1 ++ [(⟨1, 3, 3⟩ : RecT)])).isSome) rfl (fun g69 => ?_) (fun g69 => ?_)
        · refine O.val (v := .slice (A18_7) (((repF l13_1 (l23_1 ++ [(⟨1, 3, 3⟩ : RecT)])).getD []).length) (c18_7)) rfl (Ru.move rfl) rfl ?_
          refine O.val (v := .slice (A14_2) (((repF l13_1 l23_1).getD []).length) (c14_2)) rfl (Ru.move rfl) rfl ?_
          refine O.callg [.slice (A18_7) (((repF l13_1 (l23_1 ++ [(⟨1, 3, 3⟩ : RecT)])).getD []).length) (c18_7), .slice (A14_2) (((repF l13_1 l23_1).getD []).length) (c14_2)] rfl en41 rfl rfl (equalPairs_fn A18_7 c18_7 ((repF l13_1 (l23_1 ++ [(⟨1, 3, 3⟩ : RecT)])).getD []) A14_2 c14_2 ((repF l13_1 l23_1).getD []) w8_7 (hM8_7.rd 0 rfl) (hM8_7.rd 4 rfl) (by rw [hmr]; omega)) ?_
          rintro _ w9_4 ⟨rfl, hR9_4⟩
          have hM9_4 : Mem w w9_4 [] [[⟨.slice (A18_7) (((repF l13_1 (l23_1 ++ [(⟨1, 3, 3⟩ : RecT)])).getD []).length) (c18_7), 53, 2, (((repF l13_1 (l23_1 ++ [(⟨1, 3, 3⟩ : RecT)])).getD []).length), ((repF l13_1 (l23_1 ++ [(⟨1, 3, 3⟩ : RecT)])).getD []).flatMap encP⟩], [⟨.slice (bl b8_5) (1) (1), 34, 3, 1, ([(⟨1, 3, 3⟩ : RecT)]).flatMap encG⟩], [⟨.slice (A8_6) ((l23_1 ++ [(⟨1, 3, 3⟩ : RecT)]).length) (c8_6), 34, 3, ((l23_1 ++ [(⟨1, 3, 3⟩ : RecT)]).length), (l23_1 ++ [(⟨1, 3, 3⟩ : RecT)]).flatMap encG⟩], [⟨.slice (A15_2) (((repF l13_1 l23_1).getD []).length) (c15_2), 53, 2, (((repF l13_1 l23_1).getD []).length), ((repF l13_1 l23_1).getD []).flatMap encP⟩], [⟨.slice (A14_2) (((repF l13_1 l23_1).getD []).length) (c14_2), 53, 2, (((repF l13_1 l23_1).getD []).length), ((repF l13_1 l23_1).getD []).flatMap encP⟩], [⟨.slice (A13_1) ((l13_1).length) (c13_1), 53, 2, ((l13_1).length), (l13_1).flatMap encP⟩], [⟨.slice (A23_1) ((l23_1).length) (c23_1), 34, 3, ((l23_1).length), (l23_1).flatMap encG⟩]] := Mem.call (Ma := []) hM8_7 hR9_4 rfl
          refine O.val (v := .bool (decide (((repF l13_1 (l23_1 ++ [(⟨1, 3, 3⟩ : RecT)])).getD []) = ((repF l13_1 l23_1).getD [])))) rfl (Ru.pickT rfl rfl) rfl ?_
          refine O.val (v := .bool (decide (((repF l13_1 (l23_1 ++ [(⟨1, 3, 3⟩ : RecT)])).getD []) = ((repF l13_1 l23_1).getD [])))) rfl (Ru.assign rfl) rfl ?_
          refine O.nil ?_
          refine C.ret ?_
          refine P1 (v := .bool (decide (((repF l13_1 (l23_1 ++ [(⟨1, 3, 3⟩ : RecT)])).getD []) = ((repF l13_1 l23_1).getD [])))) rfl ?_
          exact ⟨(by first | rfl | (rw [hmr] at *; simp_all)), (Mem.none hM9_4)⟩
        · refine O.pass rfl rfl rfl rfl rfl ?_
          refine O.pass rfl rfl rfl rfl rfl ?_
          refine O.pass rfl rfl rfl rfl rfl ?_
          refine O.val (v := .bool (false)) rfl (Ru.pickF rfl rfl) rfl ?_
          refine O.val (v := .bool (false)) rfl (Ru.assign rfl) rfl ?_
          refine O.nil ?_
          refine C.ret ?_
          refine P1 (v := .bool (false)) rfl ?_
          exact ⟨(by first | rfl | (rw [hmr] at *; simp_all)), (Mem.none hM8_7)⟩
end Go.Proofs.Ytgflcaeibbnkcaa
namespace Go.Proofs.Ytgflcaeibbnkcaa.fnReplayLogMark
open Go.ChangeShapes Go.WideShapes Go.ChangeAt Go.RowKit Go.Px
open Go.ChangeMaps (open_string shut_string)
set_option linter.unusedVariables false

theorem own : ownKnob Try.prog.godebug = none := by kernel_rfl
theorem laidOut : laidOutB Try.prog = true := by kernel_rfl

set_option maxRecDepth 100000 in
theorem lifted (os : Os) (started : os.Started) (H : Type) (enc : TypeId × Value → H) :
    ReturnsInHanded {} Try.checked os 11 .any (Rows.fnReplayLogMarkSpec.pre6 enc Try.prog Try.f11 Rows.fnReplayLogMarkRow.domain false) (Rows.fnReplayLogMarkSpec.post enc Try.prog Try.f11 false true false false) := by
  refine returnsInHanded_of_change (C := Try.checked) own started (by kernel_rfl) Try.func11
    (ChangeSpec.witness6 (enc := enc) (C := Try.checked) false ⟨#[], #[.slice none 0 0], []⟩ 8 (by kernel_rfl) (by kernel_rfl) (by kernel_rfl) (by kernel_rfl)) ?_
  intro W base args ds gs before hval0 hW hcnd _
  have hval : ∀ (j : Nat) t v, Try.f11.params[j]? = some t → args[j]? = some v → Value.okWide Try.prog W .any base t v := hval0
  have hW' := hW
  obtain ⟨p, q, hA0, hV, rfl, hfz, hnd⟩ := hW
  have hA : DataW.TrodAll enc Try.prog W 0 (fun _ => true) true Try.f11.params.toList args.toList ds p := hA0
  rw [Try.params11] at hA hval
  obtain ⟨v0, vs0, d0, ds0, p0, q0, hargs, rfl, rfl, h0, r0⟩ := trodAll_cons hA
  obtain ⟨rfl, rfl, rfl⟩ := trodAll_nil r0
  obtain rfl : args = #[v0] := by cases args; simp_all
  obtain ⟨rfl, rfl⟩ := trodVars_none hV
  have k0 := h0
  have lt0 : ∀ x ∈ p0, x.block < W.heap.size := by obtain ⟨m, hm⟩ := k0; exact DataW.trod_lt m _ _ _ hm
  obtain ⟨a0, len0, cap0, rfl⟩ := okWide_slice Try.underlying22 (hval 0 22 v0 rfl rfl)
  have kk0 := k0
  obtain ⟨fuel0, hf0⟩ := kk0
  obtain ⟨z0, rfl, hz0, hc0, hw0, hRd0⟩ := slice_in (α := UInt8) (f := fun a : UInt8 => [byteV a]) (c := 1) Try.underlying22 (by kernel_rfl) (fun _ => rfl) (byte_el Try.underlying5) hf0
  rw [flat_one] at hRd0
  clear hA0 hval0
  refine (FnReplayLogMark_fn a0 cap0 z0 W hRd0 hz0 hc0).out.mono fun e W' ⟨v, he, hv, hg⟩ => ?_
  subst he hv
  have bel : Below W.heap.size W W' := ⟨hg.os, hg.tape, hg.output, hg.size, fun k hk => hg.block k hk (by simp)⟩
  exact ⟨_, rfl, _, _, _, [], _, [], hW', trodAll_mk1 (shut_bool Try.underlying4 _), (trodAll_cons_mk (Below.trod laidOut (by kernel_rfl) (of_decide_eq_true (by kernel_rfl)) k0 bel lt0) trodAll_mk0), rfl, bel.frame _, fun h => by cases h⟩

theorem named_ : Try.prog.funcNamed Rows.fnReplayLogMarkRow.func = some 11 := by kernel_rfl
theorem closed : joinedFacts Try.prog 11 Try.f11 Rows.fnReplayLogMarkSpec Rows.fnReplayLogMarkRow = true := by
  unfold joinedFacts
  rw [enter_, lifts_, made_]
  kernel_rfl
theorem inst_ : Try.f11.isInstance Try.prog Rows.fnReplayLogMarkRow.origin Rows.fnReplayLogMarkRow.targs := of_decide_eq_true (by kernel_rfl)
theorem wrap_ : Try.f11.isWrapper Try.prog Rows.fnReplayLogMarkRow.wrapper Rows.fnReplayLogMarkRow.mainSum := by
  unfold Func.isWrapper
  rw [if_neg (by decide +kernel)]
  exact ⟨rfl, rfl⟩
theorem over : Rows.fnReplayLogMarkRow.holds Try.pinned (OpenSpec.ofChange Rows.fnReplayLogMarkSpec) :=
  OpenClaim.holds_of_wide 11 Try.f11 rfl rfl rfl rfl rfl rfl rfl ⟨rfl, rfl, rfl, rfl, rfl⟩ rfl rfl rfl rfl rfl named_ Try.func11 closed inst_ wrap_
    (fun os started H enc _ => lifted os started H enc)
theorem proved : Rows.FnReplayLogMarkSaid := over
end Go.Proofs.Ytgflcaeibbnkcaa.fnReplayLogMark
