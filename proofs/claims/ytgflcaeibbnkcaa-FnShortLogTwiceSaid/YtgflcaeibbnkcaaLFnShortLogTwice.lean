/- The statement Rows.FnShortLogTwiceSaid: the Go function laws.FnShortLogTwice returns true for every input, and each argument reads afterwards as it read before. No conditions. -/
import Derived.Test.YtgflcaeibbnkcaaRows
import Derived.Test.YtgflcaeibbnkcaaPxO
import Derived.Test.YtgflcaeibbnkcaaLI
import Derived.Test.YtgflcaeibbnkcaaH0
import Derived.WalkKit
import Derived.ProofKit
import Derived.OpenShut
import Derived.ShutString
import Derived.ChangeOld
import Derived.SliceStrings
import Derived.Deep.Slices
import Derived.Deep.Fields
import Derived.ChangeSame
import Derived.Below
set_option linter.unusedVariables false
set_option linter.unusedSimpArgs false
namespace Go.Proofs.Ytgflcaeibbnkcaa
open Go.Px
set_option linter.unusedVariables false
theorem FnShortLogTwice_fn (A : Option Addr) (c : Nat) (l : List UInt8) (w : World) (hA : Rd w A ((l).map byteV)) (hl : l.length ≤ 9223372036854775807) (hc : l.length ≤ c) :
    Does Try.prog 6 [.slice (A) ((l).length) (c)] w (fun v w1 => v = .bool (true) ∧ Mem w w1 [] []) := by
  have hM : Mem w w [] [] := Mem.refl
  refine Does.enter1 Try.func6 rfl Try.results6 Try.ntmps6 rfl ?_
  refine C.seq ?_
  refine C.region ?_
  refine O.val (v := .bool (false)) rfl (Ru.assign rfl) rfl ?_
  refine O.nil ?_
  refine C.seq ?_
  refine C.seq ?_
  refine C.region ?_
  refine O.val (v := .slice (A) ((l).length) (c)) rfl (Ru.move rfl) rfl ?_
  refine O.val (v := I ((((l).length : Nat) : Int))) rfl (Ru.blenSlice Try.underlying22 rfl) rfl ?_
  refine O.val (v := .bool (decide ((((l).length : Nat) : Int) > 1048576))) rfl (Ru.gtr rfl rfl) rfl ?_
  refine O.nil ?_
  refine C.cond (p := (((l).length : Nat) : Int) > 1048576) rfl (fun c7 => ?_) (fun c7 => ?_)
  · refine C.seq ?_
    refine C.region ?_
    refine O.val (v := .bool (true)) rfl (Ru.assign rfl) rfl ?_
    refine O.nil ?_
    refine C.ret ?_
    refine P1 (v := .bool (true)) rfl ?_
    exact ⟨rfl, (Mem.none hM)⟩
  · refine C.skip ?_
    refine C.seq ?_
    refine C.region ?_
    refine O.val (v := .slice (A) ((l).length) (c)) rfl (Ru.move rfl) rfl ?_
    refine O.callg [.slice (A) ((l).length) (c)] rfl en24 rfl rfl (DrawShortLog_fn A c l w (hA.at hM) (by first | omega | assumption | (simp; omega) | simp | (intros; omega)) (by first | omega | assumption | (simp; omega) | simp | (intros; omega))) ?_
    rintro _ w3_1 ⟨l13_1, A13_1, c13_1, rfl, hl3_1, hR3_1⟩
    have hM3_1 : Mem w w3_1 [] [[⟨.slice (A13_1) ((l13_1).length) (c13_1), 34, 3, ((l13_1).length), (l13_1).flatMap encG⟩]] := Mem.call (Ma := []) hM hR3_1 rfl
    have hcr3_1_0 := (hM3_1.cap 0 rfl).1
    refine O.val (v := .slice (A13_1) ((l13_1).length) (c13_1)) rfl (Ru.assign rfl) rfl ?_
    refine O.nil ?_
    refine C.seq ?_
    refine C.region ?_
    refine O.val (v := .slice (A13_1) ((l13_1).length) (c13_1)) rfl (Ru.move rfl) rfl ?_
    refine O.callg [.slice (A13_1) ((l13_1).length) (c13_1)] rfl en25 rfl rfl (ShortLog_fn A13_1 c13_1 l13_1 w3_1 (hM3_1.rd 0 rfl) (by first | omega | assumption | (simp; omega) | simp | (intros; omega)) (by first | omega | assumption | (simp; omega) | simp | (intros; omega))) ?_
    rintro _ w4_1 ⟨A14_1, c14_1, rfl, hR4_1⟩
    have hM4_1 : Mem w w4_1 [] [[⟨.slice (A14_1) ((shF l13_1).length) (c14_1), 34, 3, ((shF l13_1).length), (shF l13_1).flatMap encG⟩], [⟨.slice (A13_1) ((l13_1).length) (c13_1), 34, 3, ((l13_1).length), (l13_1).flatMap encG⟩]] := Mem.call (Ma := []) hM3_1 hR4_1 rfl
    have hcr4_1_0 := (hM4_1.cap 0 rfl).1
    have hsl := shF_len (log := l13_1)
    refine O.val (v := .slice (A14_1) ((shF l13_1).length) (c14_1)) rfl (Ru.assign rfl) rfl ?_
    refine O.nil ?_
    refine C.seq ?_
    refine C.seq ?_
    refine C.region ?_
    refine O.val (v := .slice (A14_1) ((shF l13_1).length) (c14_1)) rfl (Ru.move rfl) rfl ?_
    refine O.val (v := .slice (A13_1) ((l13_1).length) (c13_1)) rfl (Ru.move rfl) rfl ?_
    refine O.callg [.slice (A13_1) ((l13_1).length) (c13_1)] rfl en27 rfl rfl (sShortLog_fn A13_1 c13_1 l13_1 w4_1 (hM4_1.rd 1 rfl) (by first | omega | assumption | (simp; omega) | simp | (intros; omega))) ?_
    rintro _ w5_2 ⟨A15_2, c15_2, rfl, hR5_2⟩
    have hM5_2 : Mem w w5_2 [] [[⟨.slice (A15_2) ((shF l13_1).length) (c15_2), 34, 3, ((shF l13_1).length), (shF l13_1).flatMap encG⟩], [⟨.slice (A14_1) ((shF l13_1).length) (c14_1), 34, 3, ((shF l13_1).length), (shF l13_1).flatMap encG⟩], [⟨.slice (A13_1) ((l13_1).length) (c13_1), 34, 3, ((l13_1).length), (l13_1).flatMap encG⟩]] := Mem.call (Ma := []) hM4_1 hR5_2 rfl
    have hcr5_2_0 := (hM5_2.cap 0 rfl).1
    refine O.callg [.slice (A14_1) ((shF l13_1).length) (c14_1), .slice (A15_2) ((shF l13_1).length) (c15_2)] rfl en26 rfl rfl (equalRecords_fn A14_1 c14_1 (shF l13_1) A15_2 c15_2 (shF l13_1) w5_2 (hM5_2.rd 1 rfl) (hM5_2.rd 0 rfl) (by omega)) ?_
    rintro _ w5_3 ⟨hv5_3, hR5_3⟩
    obtain rfl : _ = Value.bool true := hv5_3.trans (by simp)
    have hM5_3 : Mem w w5_3 [] [[⟨.slice (A15_2) ((shF l13_1).length) (c15_2), 34, 3, ((shF l13_1).length), (shF l13_1).flatMap encG⟩], [⟨.slice (A14_1) ((shF l13_1).length) (c14_1), 34, 3, ((shF l13_1).length), (shF l13_1).flatMap encG⟩], [⟨.slice (A13_1) ((l13_1).length) (c13_1), 34, 3, ((l13_1).length), (l13_1).flatMap encG⟩]] := Mem.call (Ma := []) hM5_2 hR5_3 rfl
    refine O.val (v := .bool (false)) rfl (Ru.not (b := true) rfl) rfl ?_
    refine O.val (v := .bool (false)) rfl (Ru.move rfl) rfl ?_
    refine O.val (v := .slice (A14_1) ((shF l13_1).length) (c14_1)) rfl (Ru.move rfl) rfl ?_
    refine O.val (v := I ((((shF l13_1).length : Nat) : Int))) rfl (Ru.blenSlice Try.underlying23 rfl) rfl ?_
    refine O.val (v := .bool (decide ((((shF l13_1).length : Nat) : Int) ≥ 24))) rfl (Ru.geq rfl rfl) rfl ?_
    refine O.val (v := .bool (decide ((((shF l13_1).length : Nat) : Int) ≥ 24))) rfl (Ru.pickF rfl rfl) rfl ?_
    refine O.nil ?_
    refine C.cond (p := (((shF l13_1).length : Nat) : Int) ≥ 24) rfl (fun c21 => ?_) (fun c21 => ?_)
    · refine C.seq ?_
      refine C.region ?_
      refine O.val (v := .slice (A14_1) ((shF l13_1).length) (c14_1)) rfl (Ru.move rfl) rfl ?_
      refine O.val (v := .slice (A13_1) ((l13_1).length) (c13_1)) rfl (Ru.move rfl) rfl ?_
      refine O.callg [.slice (A13_1) ((l13_1).length) (c13_1)] rfl en27 rfl rfl (sShortLog_fn A13_1 c13_1 l13_1 w5_3 (hM5_3.rd 2 rfl) (by first | omega | assumption | (simp; omega) | simp | (intros; omega))) ?_
      rintro _ w6_2 ⟨A16_2, c16_2, rfl, hR6_2⟩
      have hM6_2 : Mem w w6_2 [] [[⟨.slice (A16_2) ((shF l13_1).length) (c16_2), 34, 3, ((shF l13_1).length), (shF l13_1).flatMap encG⟩], [⟨.slice (A15_2) ((shF l13_1).length) (c15_2), 34, 3, ((shF l13_1).length), (shF l13_1).flatMap encG⟩], [⟨.slice (A14_1) ((shF l13_1).length) (c14_1), 34, 3, ((shF l13_1).length), (shF l13_1).flatMap encG⟩], [⟨.slice (A13_1) ((l13_1).length) (c13_1), 34, 3, ((l13_1).length), (l13_1).flatMap encG⟩]] := Mem.call (Ma := []) hM5_3 hR6_2 rfl
      have hcr6_2_0 := (hM6_2.cap 0 rfl).1
      refine O.callg [.slice (A14_1) ((shF l13_1).length) (c14_1), .slice (A16_2) ((shF l13_1).length) (c16_2)] rfl en26 rfl rfl (equalRecords_fn A14_1 c14_1 (shF l13_1) A16_2 c16_2 (shF l13_1) w6_2 (hM6_2.rd 2 rfl) (hM6_2.rd 0 rfl) (by omega)) ?_
      rintro _ w6_3 ⟨hv6_3, hR6_3⟩
      obtain rfl : _ = Value.bool true := hv6_3.trans (by simp)
      have hM6_3 : Mem w w6_3 [] [[⟨.slice (A16_2) ((shF l13_1).length) (c16_2), 34, 3, ((shF l13_1).length), (shF l13_1).flatMap encG⟩], [⟨.slice (A15_2) ((shF l13_1).length) (c15_2), 34, 3, ((shF l13_1).length), (shF l13_1).flatMap encG⟩], [⟨.slice (A14_1) ((shF l13_1).length) (c14_1), 34, 3, ((shF l13_1).length), (shF l13_1).flatMap encG⟩], [⟨.slice (A13_1) ((l13_1).length) (c13_1), 34, 3, ((l13_1).length), (l13_1).flatMap encG⟩]] := Mem.call (Ma := []) hM6_2 hR6_3 rfl
      refine O.val (v := .bool (true)) rfl (Ru.assign rfl) rfl ?_
      refine O.nil ?_
      refine C.ret ?_
      refine P1 (v := .bool (true)) rfl ?_
      exact ⟨rfl, (Mem.none hM6_3)⟩
    · have htw := shF_twice (g := l13_1) (by omega)
      refine C.skip ?_
      refine C.seq ?_
      refine C.region ?_
      refine O.mlit (sz := 3) (cs := []) hM5_3 rfl Try.underlying23 el34 rfl rfl rfl (by kernel_rfl) (by kernel_rfl) rfl rfl (fun w7_0 b7_0 hb7_0 (hM7_0 : Mem w w7_0 [] [[⟨.slice (bl b7_0) (0) (0), 34, 3, 0, ([]).flatMap encG⟩], [⟨.slice (A15_2) ((shF l13_1).length) (c15_2), 34, 3, ((shF l13_1).length), (shF l13_1).flatMap encG⟩], [⟨.slice (A14_1) ((shF l13_1).length) (c14_1), 34, 3, ((shF l13_1).length), (shF l13_1).flatMap encG⟩], [⟨.slice (A13_1) ((l13_1).length) (c13_1), 34, 3, ((l13_1).length), (l13_1).flatMap encG⟩]]) => ?_)
      refine O.val (v := .slice (A14_1) ((shF l13_1).length) (c14_1)) rfl (Ru.move rfl) rfl ?_
      refine O.mappend (sz := 3) (news := (shF l13_1).flatMap encG) (m1 := (shF l13_1).length) (xs1 := (shF l13_1).flatMap encG) (M' := fun A7_2 c7_2 => [[⟨.slice (A7_2) ((shF l13_1).length) (c7_2), 34, 3, ((shF l13_1).length), (shF l13_1).flatMap encG⟩], [⟨.slice (A15_2) ((shF l13_1).length) (c15_2), 34, 3, ((shF l13_1).length), (shF l13_1).flatMap encG⟩], [⟨.slice (A14_1) ((shF l13_1).length) (c14_1), 34, 3, ((shF l13_1).length), (shF l13_1).flatMap encG⟩], [⟨.slice (A13_1) ((l13_1).length) (c13_1), 34, 3, ((l13_1).length), (l13_1).flatMap encG⟩]]) 0 0 hM7_0 rfl rfl rfl Try.underlying23 el34 ⟨rfl, by decide⟩ rfl rfl rfl (hM7_0.rd 2 rfl) (by rw [flat_len encG_len]; first | done | (simp; done) | (simp; omega)) (all_flat_one (fun _ => rfl) _) (by first | omega | (simp; omega)) (by first | omega | (simp; omega)) (by first | (simp; done) | (simp; omega)) (by simp) (fun _ _ => rfl) (fun w7_2 A7_2 c7_2 hc7_2 hM7_2 => ?_)
      try dsimp only at hM7_2
      refine O.val (v := .agg #[I (3), I (0), I (0)]) rfl (Ru.build of34 rfl rfl rfl) rfl ?_
      refine O.mlit (sz := 3) (cs := [I (3), I (0), I (0)]) hM7_2 rfl Try.underlying23 el34 rfl rfl rfl (by kernel_rfl) (by kernel_rfl) rfl rfl (fun w7_4 b7_4 hb7_4 (hM7_4 : Mem w w7_4 [] [[⟨.slice (bl b7_4) (1) (1), 34, 3, 1, ([(⟨3, 0, 0⟩ : RecT)]).flatMap encG⟩], [⟨.slice (A7_2) ((shF l13_1).length) (c7_2), 34, 3, ((shF l13_1).length), (shF l13_1).flatMap encG⟩], [⟨.slice (A15_2) ((shF l13_1).length) (c15_2), 34, 3, ((shF l13_1).length), (shF l13_1).flatMap encG⟩], [⟨.slice (A14_1) ((shF l13_1).length) (c14_1), 34, 3, ((shF l13_1).length), (shF l13_1).flatMap encG⟩], [⟨.slice (A13_1) ((l13_1).length) (c13_1), 34, 3, ((l13_1).length), (l13_1).flatMap encG⟩]]) => ?_)
      refine O.mappend (sz := 3) (news := ([(⟨3, 0, 0⟩ : RecT)]).flatMap encG) (m1 := (shF l13_1 ++ [(⟨3, 0, 0⟩ : RecT)]).length) (xs1 := (shF l13_1 ++ [(⟨3, 0, 0⟩ : RecT)]).flatMap encG) (M' := fun A7_5 c7_5 => [[⟨.slice (bl b7_4) (1) (1), 34, 3, 1, ([(⟨3, 0, 0⟩ : RecT)]).flatMap encG⟩], [⟨.slice (A7_5) ((shF l13_1 ++ [(⟨3, 0, 0⟩ : RecT)]).length) (c7_5), 34, 3, ((shF l13_1 ++ [(⟨3, 0, 0⟩ : RecT)]).length), (shF l13_1 ++ [(⟨3, 0, 0⟩ : RecT)]).flatMap encG⟩], [⟨.slice (A15_2) ((shF l13_1).length) (c15_2), 34, 3, ((shF l13_1).length), (shF l13_1).flatMap encG⟩], [⟨.slice (A14_1) ((shF l13_1).length) (c14_1), 34, 3, ((shF l13_1).length), (shF l13_1).flatMap encG⟩], [⟨.slice (A13_1) ((l13_1).length) (c13_1), 34, 3, ((l13_1).length), (l13_1).flatMap encG⟩]]) 1 0 hM7_4 rfl rfl rfl Try.underlying23 el34 ⟨rfl, by decide⟩ rfl rfl rfl (hM7_4.rd 0 rfl) (by rw [flat_len encG_len]; first | done | (simp; done) | (simp; omega)) (all_flat_one (fun _ => rfl) _) (by first | omega | (simp; omega)) (by first | omega | (simp; omega)) (by first | (simp; done) | (simp; omega)) (by simp) (fun _ _ => rfl) (fun w7_5 A7_5 c7_5 hc7_5 hM7_5 => ?_)
      try dsimp only at hM7_5
      refine O.callg [.slice (A7_5) ((shF l13_1 ++ [(⟨3, 0, 0⟩ : RecT)]).length) (c7_5)] rfl en25 rfl rfl (ShortLog_fn A7_5 c7_5 (shF l13_1 ++ [(⟨3, 0, 0⟩ : RecT)]) w7_5 (hM7_5.rd 1 rfl) (by simp; omega) (by simp at *; omega)) ?_
      rintro _ w7_6 ⟨A17_6, c17_6, rfl, hR7_6⟩
      have hM7_6 : Mem w w7_6 [] [[⟨.slice (A17_6) ((shF (shF l13_1 ++ [(⟨3, 0, 0⟩ : RecT)])).length) (c17_6), 34, 3, ((shF (shF l13_1 ++ [(⟨3, 0, 0⟩ : RecT)])).length), (shF (shF l13_1 ++ [(⟨3, 0, 0⟩ : RecT)])).flatMap encG⟩], [⟨.slice (bl b7_4) (1) (1), 34, 3, 1, ([(⟨3, 0, 0⟩ : RecT)]).flatMap encG⟩], [⟨.slice (A7_5) ((shF l13_1 ++ [(⟨3, 0, 0⟩ : RecT)]).length) (c7_5), 34, 3, ((shF l13_1 ++ [(⟨3, 0, 0⟩ : RecT)]).length), (shF l13_1 ++ [(⟨3, 0, 0⟩ : RecT)]).flatMap encG⟩], [⟨.slice (A15_2) ((shF l13_1).length) (c15_2), 34, 3, ((shF l13_1).length), (shF l13_1).flatMap encG⟩], [⟨.slice (A14_1) ((shF l13_1).length) (c14_1), 34, 3, ((shF l13_1).length), (shF l13_1).flatMap encG⟩], [⟨.slice (A13_1) ((l13_1).length) (c13_1), 34, 3, ((l13_1).length), (l13_1).flatMap encG⟩]] := Mem.call (Ma := []) hM7_5 hR7_6 rfl
      have hcr7_6_0 := (hM7_6.cap 0 rfl).1
      refine O.val (v := .slice (A14_1) ((shF l13_1).length) (c14_1)) rfl (Ru.move rfl) rfl ?_
      refine O.callg [.slice (A17_6) ((shF (shF l13_1 ++ [(⟨3, 0, 0⟩ : RecT)])).length) (c17_6), .slice (A14_1) ((shF l13_1).length) (c14_1)] rfl en26 rfl rfl (equalRecords_fn A17_6 c17_6 (shF (shF l13_1 ++ [(⟨3, 0, 0⟩ : RecT)])) A14_1 c14_1 (shF l13_1) w7_6 (hM7_6.rd 0 rfl) (hM7_6.rd 4 rfl) (by rw [htw]; omega)) ?_
      rintro _ w7_8 ⟨rfl, hR7_8⟩
      have hM7_8 : Mem w w7_8 [] [[⟨.slice (A17_6) ((shF (shF l13_1 ++ [(⟨3, 0, 0⟩ : RecT)])).length) (c17_6), 34, 3, ((shF (shF l13_1 ++ [(⟨3, 0, 0⟩ : RecT)])).length), (shF (shF l13_1 ++ [(⟨3, 0, 0⟩ : RecT)])).flatMap encG⟩], [⟨.slice (bl b7_4) (1) (1), 34, 3, 1, ([(⟨3, 0, 0⟩ : RecT)]).flatMap encG⟩], [⟨.slice (A7_5) ((shF l13_1 ++ [(⟨3, 0, 0⟩ : RecT)]).length) (c7_5), 34, 3, ((shF l13_1 ++ [(⟨3, 0, 0⟩ : RecT)]).length), (shF l13_1 ++ [(⟨3, 0, 0⟩ : RecT)]).flatMap encG⟩], [⟨.slice (A15_2) ((shF l13_1).length) (c15_2), 34, 3, ((shF l13_1).length), (shF l13_1).flatMap encG⟩], [⟨.slice (A14_1) ((shF l13_1).length) (c14_1), 34, 3, ((shF l13_1).length), (shF l13_1).flatMap encG⟩], [⟨.slice (A13_1) ((l13_1).length) (c13_1), 34, 3, ((l13_1).length), (l13_1).flatMap encG⟩]] := Mem.call (Ma := []) hM7_6 hR7_8 rfl
      refine O.val (v := .bool (decide ((shF (shF l13_1 ++ [(⟨3, 0, 0⟩ : RecT)])) = (shF l13_1)))) rfl (Ru.assign rfl) rfl ?_
      refine O.nil ?_
      refine C.ret ?_
      refine P1 (v := .bool (decide ((shF (shF l13_1 ++ [(⟨3, 0, 0⟩ : RecT)])) = (shF l13_1)))) rfl ?_
      exact ⟨(by first | rfl | (rw [htw]; simp)), (Mem.none hM7_8)⟩
end Go.Proofs.Ytgflcaeibbnkcaa
namespace Go.Proofs.Ytgflcaeibbnkcaa.fnShortLogTwice
open Go.ChangeShapes Go.WideShapes Go.ChangeAt Go.RowKit Go.Px
open Go.ChangeMaps (open_string shut_string)
set_option linter.unusedVariables false

theorem own : ownKnob Try.prog.godebug = none := by kernel_rfl
theorem laidOut : laidOutB Try.prog = true := by kernel_rfl

set_option maxRecDepth 100000 in
theorem lifted (os : Os) (started : os.Started) (H : Type) (enc : TypeId × Value → H) :
    ReturnsInHanded {} Try.checked os 6 .any (Rows.fnShortLogTwiceSpec.pre6 enc Try.prog Try.f6 Rows.fnShortLogTwiceRow.domain false) (Rows.fnShortLogTwiceSpec.post enc Try.prog Try.f6 false true false false) := by
  refine returnsInHanded_of_change (C := Try.checked) own started (by kernel_rfl) Try.func6
    (ChangeSpec.witness6 (enc := enc) (C := Try.checked) false ⟨#[], #[.slice none 0 0], []⟩ 8 (by kernel_rfl) (by kernel_rfl) (by kernel_rfl) (by kernel_rfl)) ?_
  intro W base args ds gs before hval0 hW hcnd _
  have hval : ∀ (j : Nat) t v, Try.f6.params[j]? = some t → args[j]? = some v → Value.okWide Try.prog W .any base t v := hval0
  have hW' := hW
  obtain ⟨p, q, hA0, hV, rfl, hfz, hnd⟩ := hW
  have hA : DataW.TrodAll enc Try.prog W 0 (fun _ => true) true Try.f6.params.toList args.toList ds p := hA0
  rw [Try.params6] at hA hval
  obtain ⟨v0, vs0, d0, ds0, p0, q0, hargs, rfl, rfl, h0, r0⟩ := trodAll_cons hA
  obtain ⟨rfl, rfl, rfl⟩ := trodAll_nil r0
  obtain rfl : args = #[v0] := by cases args; simp_all
  obtain ⟨rfl, rfl⟩ := trodVars_none hV
  have k0 := h0
  have lt0 : ∀ x ∈ p0, x.block < W.heap.size := by obtain ⟨m, hm⟩ := k0; exact DataW.trod_lt m _ _ _ hm
  obtain ⟨a0, len0, cap0, rfl⟩ := okWide_slice Try.underlying22 (hval 0 22 v0 rfl rfl)
  have kk0 := k0
  obtain ⟨fuel0, hf0⟩ := kk0
  obtain ⟨z0, rfl, hz0, hc0, hw0, hRd0⟩ := slice_in (α := UInt8) (f := fun a : UInt8 => [byteV a]) (c := 1) Try.underlying22 (by kernel_rfl) (fun _ => rfl) (byte_el Try.underlying5) hf0
  rw [flat_one] at hRd0
  clear hA0 hval0
  refine (FnShortLogTwice_fn a0 cap0 z0 W hRd0 hz0 hc0).out.mono fun e W' ⟨v, he, hv, hg⟩ => ?_
  subst he hv
  have bel : Below W.heap.size W W' := ⟨hg.os, hg.tape, hg.output, hg.size, fun k hk => hg.block k hk (by simp)⟩
  exact ⟨_, rfl, _, _, _, [], _, [], hW', trodAll_mk1 (shut_bool Try.underlying4 _), (trodAll_cons_mk (Below.trod laidOut (by kernel_rfl) (of_decide_eq_true (by kernel_rfl)) k0 bel lt0) trodAll_mk0), rfl, bel.frame _, fun h => by cases h⟩

theorem named_ : Try.prog.funcNamed Rows.fnShortLogTwiceRow.func = some 6 := by kernel_rfl
theorem closed : joinedFacts Try.prog 6 Try.f6 Rows.fnShortLogTwiceSpec Rows.fnShortLogTwiceRow = true := by
  unfold joinedFacts
  rw [enter_, lifts_, made_]
  kernel_rfl
theorem inst_ : Try.f6.isInstance Try.prog Rows.fnShortLogTwiceRow.origin Rows.fnShortLogTwiceRow.targs := of_decide_eq_true (by kernel_rfl)
theorem wrap_ : Try.f6.isWrapper Try.prog Rows.fnShortLogTwiceRow.wrapper Rows.fnShortLogTwiceRow.mainSum := by
  unfold Func.isWrapper
  rw [if_neg (by decide +kernel)]
  exact ⟨rfl, rfl⟩
theorem over : Rows.fnShortLogTwiceRow.holds Try.pinned (OpenSpec.ofChange Rows.fnShortLogTwiceSpec) :=
  OpenClaim.holds_of_wide 6 Try.f6 rfl rfl rfl rfl rfl rfl rfl ⟨rfl, rfl, rfl, rfl, rfl⟩ rfl rfl rfl rfl rfl named_ Try.func6 closed inst_ wrap_
    (fun os started H enc _ => lifted os started H enc)
theorem proved : Rows.FnShortLogTwiceSaid := over
end Go.Proofs.Ytgflcaeibbnkcaa.fnShortLogTwice
