/- The statement Rows.FnReplayLogPartSaid: the Go function laws.FnReplayLogPart returns true for every input, and each argument reads afterwards as it read before. No conditions. -/
import Derived.Test.YtgflcaeibbnkcaaRows
import Derived.Test.YtgflcaeibbnkcaaPxO
import Derived.Test.YtgflcaeibbnkcaaLI
import Derived.Test.YtgflcaeibbnkcaaH0
import Derived.WalkKit
import Derived.ProofKit
import Derived.OpenShut
import Derived.ShutString
import Derived.ChangeOld
import Derived.SliceStrings
import Derived.Deep.Slices
import Derived.Deep.Fields
import Derived.ChangeSame
import Derived.Below
set_option linter.unusedVariables false
set_option linter.unusedSimpArgs false
namespace Go.Proofs.Ytgflcaeibbnkcaa
open Go.Px
set_option linter.unusedVariables false
theorem FnReplayLogPart_fn (A : Option Addr) (c : Nat) (l : List UInt8) (w : World) (hA : Rd w A ((l).map byteV)) (hl : l.length ≤ 9223372036854775807) (hc : l.length ≤ c) :
    Does Try.prog 12 [.slice (A) ((l).length) (c)] w (fun v w1 => v = .bool (true) ∧ Mem w w1 [] []) := by
  have hM : Mem w w [] [] := Mem.refl
  refine Does.enter1 Try.func12 rfl Try.results12 Try.ntmps12 rfl ?_
  refine C.seq ?_
  refine C.region ?_
  refine O.val (v := .bool (false)) rfl (Ru.assign rfl) rfl ?_
  refine O.nil ?_
  refine C.seq ?_
  refine C.seq ?_
  refine C.region ?_
  refine O.val (v := .slice (A) ((l).length) (c)) rfl (Ru.move rfl) rfl ?_
  refine O.val (v := I ((((l).length : Nat) : Int))) rfl (Ru.blenSlice Try.underlying22 rfl) rfl ?_
  refine O.val (v := .bool (decide ((((l).length : Nat) : Int) > 1048576))) rfl (Ru.gtr rfl rfl) rfl ?_
  refine O.nil ?_
  refine C.cond (p := (((l).length : Nat) : Int) > 1048576) rfl (fun c16 => ?_) (fun c16 => ?_)
  · refine C.seq ?_
    refine C.region ?_
    refine O.val (v := .bool (true)) rfl (Ru.assign rfl) rfl ?_
    refine O.nil ?_
    refine C.ret ?_
    refine P1 (v := .bool (true)) rfl ?_
    exact ⟨rfl, (Mem.none hM)⟩
  · refine C.skip ?_
    refine C.seq ?_
    refine C.region ?_
    refine O.val (v := .slice (A) ((l).length) (c)) rfl (Ru.move rfl) rfl ?_
    refine O.callg [.slice (A) ((l).length) (c)] rfl en38 rfl rfl (DrawReplayLog_fn A c l w (hA.at hM) (by first | omega | assumption | (simp; omega) | simp | (intros; omega)) (by first | omega | assumption | (simp; omega) | simp | (intros; omega))) ?_
    rintro _ w3_1 ⟨l13_1, A13_1, c13_1, l23_1, A23_1, c23_1, rfl, hl3_1, hl23_1, hR3_1⟩
    have hM3_1 : Mem w w3_1 [] [[⟨.slice (A13_1) ((l13_1).length) (c13_1), 53, 2, ((l13_1).length), (l13_1).flatMap encP⟩], [⟨.slice (A23_1) ((l23_1).length) (c23_1), 34, 3, ((l23_1).length), (l23_1).flatMap encG⟩]] := Mem.call (Ma := []) hM hR3_1 rfl
    have hcr3_1_0 := (hM3_1.cap 0 rfl).1
    have hcr3_1_1 := (hM3_1.cap 1 rfl).1
    refine O.val (v := .tuple #[.slice (A13_1) ((l13_1).length) (c13_1), .slice (A23_1) ((l23_1).length) (c23_1)]) rfl (Ru.move rfl) rfl ?_
    refine O.val (v := .slice (A13_1) ((l13_1).length) (c13_1)) rfl (Ru.extract rfl rfl) rfl ?_
    refine O.val (v := .slice (A23_1) ((l23_1).length) (c23_1)) rfl (Ru.extract rfl rfl) rfl ?_
    refine O.val (v := .slice (A13_1) ((l13_1).length) (c13_1)) rfl (Ru.assign rfl) rfl ?_
    refine O.val (v := .slice (A23_1) ((l23_1).length) (c23_1)) rfl (Ru.assign rfl) rfl ?_
    refine O.nil ?_
    refine C.seq ?_
    refine C.region ?_
    refine O.val (v := .slice (A13_1) ((l13_1).length) (c13_1)) rfl (Ru.move rfl) rfl ?_
    refine O.val (v := .slice (A23_1) ((l23_1).length) (c23_1)) rfl (Ru.move rfl) rfl ?_
    refine O.callg [.slice (A13_1) ((l13_1).length) (c13_1), .slice (A23_1) ((l23_1).length) (c23_1)] rfl en39 rfl rfl (ReplayLog_fn A13_1 c13_1 l13_1 A23_1 c23_1 l23_1 w3_1 (hM3_1.rd 0 rfl) (hM3_1.rd 1 rfl) (by first | omega | assumption | (simp; omega) | simp | (intros; omega)) (by first | omega | assumption | (simp; omega) | simp | (intros; omega)) (by first | omega | assumption | (simp; omega) | simp | (intros; omega))) ?_
    rintro _ w4_2 ⟨A14_2, c14_2, rfl, hR4_2⟩
    have hM4_2 : Mem w w4_2 [] [[⟨.slice (A14_2) (((repF l13_1 l23_1).getD []).length) (c14_2), 53, 2, (((repF l13_1 l23_1).getD []).length), ((repF l13_1 l23_1).getD []).flatMap encP⟩], [⟨.slice (A13_1) ((l13_1).length) (c13_1), 53, 2, ((l13_1).length), (l13_1).flatMap encP⟩], [⟨.slice (A23_1) ((l23_1).length) (c23_1), 34, 3, ((l23_1).length), (l23_1).flatMap encG⟩]] := Mem.call (Ma := []) hM3_1 hR4_2 rfl
    have hcr4_2_0 := (hM4_2.cap 0 rfl).1
    have hrl := rep_len (l := l13_1) (g := l23_1)
    refine O.val (v := .tuple #[.slice (A14_2) (((repF l13_1 l23_1).getD []).length) (c14_2), .bool ((repF l13_1 l23_1).isSome)]) rfl (Ru.move rfl) rfl ?_
    refine O.val (v := .slice (A14_2) (((repF l13_1 l23_1).getD []).length) (c14_2)) rfl (Ru.extract rfl rfl) rfl ?_
    refine O.val (v := .bool ((repF l13_1 l23_1).isSome)) rfl (Ru.extract rfl rfl) rfl ?_
    refine O.val (v := .slice (A14_2) (((repF l13_1 l23_1).getD []).length) (c14_2)) rfl (Ru.assign rfl) rfl ?_
    refine O.val (v := .bool ((repF l13_1 l23_1).isSome)) rfl (Ru.assign rfl) rfl ?_
    refine O.nil ?_
    refine C.seq ?_
    refine C.region ?_
    refine O.val (v := .slice (A13_1) ((l13_1).length) (c13_1)) rfl (Ru.move rfl) rfl ?_
    refine O.val (v := .slice (A23_1) ((l23_1).length) (c23_1)) rfl (Ru.move rfl) rfl ?_
    refine O.callg [.slice (A13_1) ((l13_1).length) (c13_1), .slice (A23_1) ((l23_1).length) (c23_1)] rfl en40 rfl rfl (sReplayLog_fn A13_1 c13_1 l13_1 A23_1 c23_1 l23_1 w4_2 (hM4_2.rd 1 rfl) (hM4_2.rd 2 rfl) (by first | omega | assumption | (simp; omega) | simp | (intros; omega)) (by first | omega | assumption | (simp; omega) | simp | (intros; omega)) (by first | omega | assumption | (simp; omega) | simp | (intros; omega))) ?_
    rintro _ w5_2 ⟨A15_2, c15_2, rfl, hR5_2⟩
    have hM5_2 : Mem w w5_2 [] [[⟨.slice (A15_2) (((repF l13_1 l23_1).getD []).length) (c15_2), 53, 2, (((repF l13_1 l23_1).getD []).length), ((repF l13_1 l23_1).getD []).flatMap encP⟩], [⟨.slice (A14_2) (((repF l13_1 l23_1).getD []).length) (c14_2), 53, 2, (((repF l13_1 l23_1).getD []).length), ((repF l13_1 l23_1).getD []).flatMap encP⟩], [⟨.slice (A13_1) ((l13_1).length) (c13_1), 53, 2, ((l13_1).length), (l13_1).flatMap encP⟩], [⟨.slice (A23_1) ((l23_1).length) (c23_1), 34, 3, ((l23_1).length), (l23_1).flatMap encG⟩]] := Mem.call (Ma := []) hM4_2 hR5_2 rfl
    have hcr5_2_0 := (hM5_2.cap 0 rfl).1
    refine O.val (v := .tuple #[.slice (A15_2) (((repF l13_1 l23_1).getD []).length) (c15_2), .bool ((repF l13_1 l23_1).isSome)]) rfl (Ru.move rfl) rfl ?_
    refine O.val (v := .slice (A15_2) (((repF l13_1 l23_1).getD []).length) (c15_2)) rfl (Ru.extract rfl rfl) rfl ?_
    refine O.val (v := .bool ((repF l13_1 l23_1).isSome)) rfl (Ru.extract rfl rfl) rfl ?_
    refine O.val (v := .slice (A15_2) (((repF l13_1 l23_1).getD []).length) (c15_2)) rfl (Ru.assign rfl) rfl ?_
    refine O.val (v := .bool ((repF l13_1 l23_1).isSome)) rfl (Ru.assign rfl) rfl ?_
    refine O.nil ?_
    refine C.seq ?_
    refine C.seq ?_
    refine C.region ?_
    refine O.val (v := .slice (A14_2) (((repF l13_1 l23_1).getD []).length) (c14_2)) rfl (Ru.move rfl) rfl ?_
    refine O.val (v := .slice (A15_2) (((repF l13_1 l23_1).getD []).length) (c15_2)) rfl (Ru.move rfl) rfl ?_
    refine O.callg [.slice (A14_2) (((repF l13_1 l23_1).getD []).length) (c14_2), .slice (A15_2) (((repF l13_1 l23_1).getD []).length) (c15_2)] rfl en41 rfl rfl (equalPairs_fn A14_2 c14_2 ((repF l13_1 l23_1).getD []) A15_2 c15_2 ((repF l13_1 l23_1).getD []) w5_2 (hM5_2.rd 1 rfl) (hM5_2.rd 0 rfl) (by omega)) ?_
    rintro _ w6_2 ⟨hv6_2, hR6_2⟩
    obtain rfl : _ = Value.bool true := hv6_2.trans (by simp)
    have hM6_2 : Mem w w6_2 [] [[⟨.slice (A15_2) (((repF l13_1 l23_1).getD []).length) (c15_2), 53, 2, (((repF l13_1 l23_1).getD []).length), ((repF l13_1 l23_1).getD []).flatMap encP⟩], [⟨.slice (A14_2) (((repF l13_1 l23_1).getD []).length) (c14_2), 53, 2, (((repF l13_1 l23_1).getD []).length), ((repF l13_1 l23_1).getD []).flatMap encP⟩], [⟨.slice (A13_1) ((l13_1).length) (c13_1), 53, 2, ((l13_1).length), (l13_1).flatMap encP⟩], [⟨.slice (A23_1) ((l23_1).length) (c23_1), 34, 3, ((l23_1).length), (l23_1).flatMap encG⟩]] := Mem.call (Ma := []) hM5_2 hR6_2 rfl
    refine O.val (v := .bool (false)) rfl (Ru.not (b := true) rfl) rfl ?_
    refine O.val (v := .bool (false)) rfl (Ru.move rfl) rfl ?_
    refine O.val (v := .bool ((repF l13_1 l23_1).isSome)) rfl (Ru.move rfl) rfl ?_
    refine O.val (v := .bool ((repF l13_1 l23_1).isSome)) rfl (Ru.move rfl) rfl ?_
    refine O.val (v := .bool (false)) rfl (Ru.congr (v := .bool (decide ((repF l13_1 l23_1).isSome ≠ (repF l13_1 l23_1).isSome))) (v' := .bool (false)) (Ru.bneq Try.underlying4 rfl rfl) (congrArg Value.bool (by simp))) rfl ?_
    refine O.val (v := .bool (false)) rfl (Ru.pickF rfl rfl) rfl ?_
    refine O.val (v := .bool (false)) rfl (Ru.move rfl) rfl ?_
    refine O.val (v := .bool ((repF l13_1 l23_1).isSome)) rfl (Ru.move rfl) rfl ?_
    refine O.val (v := .bool (!((repF l13_1 l23_1).isSome))) rfl (Ru.not rfl) rfl ?_
    refine O.val (v := .bool (!((repF l13_1 l23_1).isSome))) rfl (Ru.pickF rfl rfl) rfl ?_
    refine O.nil ?_
    refine C.condn (b := ((repF l13_1 l23_1).isSome)) rfl (fun c46 => ?_) (fun c46 => ?_)
    · refine C.seq ?_
      refine C.region ?_
      refine O.val (v := .slice (A14_2) (((repF l13_1 l23_1).getD []).length) (c14_2)) rfl (Ru.move rfl) rfl ?_
      refine O.val (v := .slice (A15_2) (((repF l13_1 l23_1).getD []).length) (c15_2)) rfl (Ru.move rfl) rfl ?_
      refine O.callg [.slice (A14_2) (((repF l13_1 l23_1).getD []).length) (c14_2), .slice (A15_2) (((repF l13_1 l23_1).getD []).length) (c15_2)] rfl en41 rfl rfl (equalPairs_fn A14_2 c14_2 ((repF l13_1 l23_1).getD []) A15_2 c15_2 ((repF l13_1 l23_1).getD []) w6_2 (hM6_2.rd 1 rfl) (hM6_2.rd 0 rfl) (by omega)) ?_
      rintro _ w7_2 ⟨hv7_2, hR7_2⟩
      obtain rfl : _ = Value.bool true := hv7_2.trans (by simp)
      have hM7_2 : Mem w w7_2 [] [[⟨.slice (A15_2) (((repF l13_1 l23_1).getD []).length) (c15_2), 53, 2, (((repF l13_1 l23_1).getD []).length), ((repF l13_1 l23_1).getD []).flatMap encP⟩], [⟨.slice (A14_2) (((repF l13_1 l23_1).getD []).length) (c14_2), 53, 2, (((repF l13_1 l23_1).getD []).length), ((repF l13_1 l23_1).getD []).flatMap encP⟩], [⟨.slice (A13_1) ((l13_1).length) (c13_1), 53, 2, ((l13_1).length), (l13_1).flatMap encP⟩], [⟨.slice (A23_1) ((l23_1).length) (c23_1), 34, 3, ((l23_1).length), (l23_1).flatMap encG⟩]] := Mem.call (Ma := []) hM6_2 hR7_2 rfl
      refine O.val (v := .bool (true)) rfl (Ru.move rfl) rfl ?_
      refine O.val (v := .bool ((repF l13_1 l23_1).isSome)) rfl (Ru.move rfl) rfl ?_
      refine O.val (v := .bool ((repF l13_1 l23_1).isSome)) rfl (Ru.move rfl) rfl ?_
      refine O.val (v := .bool (true)) rfl (Ru.congr (v := .bool (decide ((repF l13_1 l23_1).isSome = (repF l13_1 l23_1).isSome))) (v' := .bool (true)) (Ru.beql Try.underlying4 rfl rfl) (congrArg Value.bool (by simp))) rfl ?_
      refine O.val (v := .bool (true)) rfl (Ru.pickT rfl rfl) rfl ?_
      refine O.val (v := .bool (true)) rfl (Ru.assign rfl) rfl ?_
      refine O.nil ?_
      refine C.ret ?_
      refine P1 (v := .bool (true)) rfl ?_
      exact ⟨(by first | rfl | (simp_all)), (Mem.none hM7_2)⟩
    · have hso : (repF l13_1 l23_1).isSome = true := by simp_all
      refine C.skip ?_
      refine C.seq ?_
      refine C.seq ?_
      refine C.region ?_
      refine O.val (v := I (0)) rfl (Ru.assign rfl) rfl ?_
      refine O.nil ?_
      refine C.block ?_
      refine C.loop (ι := Nat) (fun i => ([(3, .slice (A13_1) ((l13_1).length) (c13_1)), (4, .slice (A23_1) ((l23_1).length) (c23_1)), (5, .slice (A14_2) (((repF l13_1 l23_1).getD []).length) (c14_2)), (9, I (((i : Nat) : Int)))] : List (Nat × Value))) (fun i w_ => (i ≤ l23_1.length) ∧ (Mem w w_ [] [[⟨.slice (A15_2) (((repF l13_1 l23_1).getD []).length) (c15_2), 53, 2, (((repF l13_1 l23_1).getD []).length), ((repF l13_1 l23_1).getD []).flatMap encP⟩], [⟨.slice (A14_2) (((repF l13_1 l23_1).getD []).length) (c14_2), 53, 2, (((repF l13_1 l23_1).getD []).length), ((repF l13_1 l23_1).getD []).flatMap encP⟩], [⟨.slice (A13_1) ((l13_1).length) (c13_1), 53, 2, ((l13_1).length), (l13_1).flatMap encP⟩], [⟨.slice (A23_1) ((l23_1).length) (c23_1), 34, 3, ((l23_1).length), (l23_1).flatMap encG⟩]])) (fun i => l23_1.length - i) (0) (Has.cons rfl (Has.cons rfl (Has.cons rfl (Has.cons (I_congr (by first | rfl | omega | (simp; omega) | simp)) Has.nil)))) ⟨(Nat.zero_le _), (hM6_2.pick [0, 1, 2, 3] (by decide) rfl)⟩ (fun i σ w_l9 hI => ?_)
      try dsimp only at hI
      obtain ⟨hi0_l9, hM_l9⟩ := hI
      have hcl0_l9 := (hM_l9.cap 0 rfl).1
      have hcl1_l9 := (hM_l9.cap 1 rfl).1
      have hcl2_l9 := (hM_l9.cap 2 rfl).1
      have hcl3_l9 := (hM_l9.cap 3 rfl).1
      refine C.seq ?_
      refine C.seq ?_
      refine C.region ?_
      refine O.val (v := I (((i : Nat) : Int))) rfl (Ru.move rfl) rfl ?_
      refine O.val (v := .slice (A23_1) ((l23_1).length) (c23_1)) rfl (Ru.move rfl) rfl ?_
      refine O.val (v := I ((((l23_1).length : Nat) : Int))) rfl (Ru.blenSlice Try.underlying23 rfl) rfl ?_
      refine O.val (v := .bool (decide (((i : Nat) : Int) < (((l23_1).length : Nat) : Int)))) rfl (Ru.lss rfl rfl) rfl ?_
      refine O.nil ?_
      refine C.cond (p := ((i : Nat) : Int) < (((l23_1).length : Nat) : Int)) rfl (fun c58 => ?_) (fun c58 => ?_)
      · refine C.skip ?_
        refine C.seq ?_
        refine C.block ?_
        refine C.seq ?_
        refine C.seq ?_
        refine C.region ?_
        refine O.val (v := .slice (A23_1) ((l23_1).length) (c23_1)) rfl (Ru.move rfl) rfl ?_
        refine O.val (v := I (((i : Nat) : Int))) rfl (Ru.move rfl) rfl ?_
        have hx11_2 : i < (l23_1).length := (by first | omega | (simp; omega))
        refine O.val (v := .pointer (ofs (A23_1) (i * 3))) rfl (Ru.indexA (j := i) Try.underlying23 el34 rfl rfl (smf encG_len (hM_l9.rd 3 rfl) hx11_2 rfl) (by omega) (by first | omega | (simp; omega))) rfl ?_
        refine O.val (v := .pointer (ofs (A23_1) (i * 3 + 0))) rfl (Ru.fieldA fl34_0 rfl (smf encG_len (hM_l9.rd 3 rfl) hx11_2 rfl)) rfl ?_
        refine O.val rfl (Ru.load1 el3 rfl (ldf encG_len (hM_l9.rd 3 rfl) hx11_2 rfl)) rfl ?_
        refine O.val (v := .bool (decide (((l23_1)[i]'hx11_2).kind ≠ 3))) rfl (Ru.neq rfl rfl) rfl ?_
        refine O.nil ?_
        refine C.cond (p := ((l23_1)[i]'hx11_2).kind ≠ 3) rfl (fun c66 => ?_) (fun c66 => ?_)
        · refine C.exit ?_
          refine C.region ?_
          refine O.val (v := I (((i : Nat) : Int))) rfl (Ru.move rfl) rfl ?_
          refine O.val (v := I ((((i + 1) : Nat) : Int))) rfl (Ru.congr (v := I ((((i : Nat) : Int) + 1))) (v' := I ((((i + 1) : Nat) : Int))) (Ru.add rfl rfl (by omega)) (I_congr (by first | omega | simp))) rfl ?_
          refine O.val (v := I ((((i + 1) : Nat) : Int))) rfl (Ru.assign rfl) rfl ?_
          refine O.nil ?_
          exact loopEnd (i + 1) (by (try dsimp only); omega) (Has.cons rfl (Has.cons rfl (Has.cons rfl (Has.cons (I_congr (by first | rfl | omega | (simp; omega) | simp)) Has.nil)))) ⟨(by (try dsimp only); omega), (hM_l9.pick [0, 1, 2, 3] (by decide) rfl)⟩
        · refine C.skip ?_
          refine C.seq ?_
          refine C.region ?_
          refine O.val (v := .slice (A13_1) ((l13_1).length) (c13_1)) rfl (Ru.move rfl) rfl ?_
          refine O.val (v := .slice (A23_1) ((l23_1).length) (c23_1)) rfl (Ru.move rfl) rfl ?_
          refine O.val (v := I (((i : Nat) : Int))) rfl (Ru.move rfl) rfl ?_
          refine O.val (v := I ((((i + 1) : Nat) : Int))) rfl (Ru.congr (v := I ((((i : Nat) : Int) + 1))) (v' := I ((((i + 1) : Nat) : Int))) (Ru.add rfl rfl (by omega)) (I_congr (by first | omega | simp))) rfl ?_
          have hcp12_4 := hM_l9.cap 3 rfl
          refine O.val (v := .slice (A23_1) (((l23_1).take ((i + 1))).length) (c23_1)) rfl (Ru.congr (v := .slice (A23_1) ((i + 1)) (c23_1)) (v' := .slice (A23_1) (((l23_1).take ((i + 1))).length) (c23_1)) (Ru.lsliceTo (h := (i + 1)) Try.underlying23 el34 rfl rfl (by omega) (by first | omega | (simp; omega))) (sl_congr (by first | rfl | (simp; done) | omega | (simp; omega)))) rfl ?_
          refine O.callg [.slice (A13_1) ((l13_1).length) (c13_1), .slice (A23_1) (((l23_1).take ((i + 1))).length) (c23_1)] rfl en39 rfl rfl (ReplayLog_fn A13_1 c13_1 l13_1 A23_1 c23_1 ((l23_1).take ((i + 1))) w_l9 (hM_l9.rd 2 rfl) (rd_takeN encG_len (hM_l9.rd 3 rfl)) (by omega) (by simp; omega) (by simp at *; omega)) ?_
          rintro _ w12_5 ⟨A112_5, c112_5, rfl, hR12_5⟩
          have hM12_5 : Mem w w12_5 [] [[⟨.slice (A112_5) (((repF l13_1 ((l23_1).take ((i + 1)))).getD []).length) (c112_5), 53, 2, (((repF l13_1 ((l23_1).take ((i + 1)))).getD []).length), ((repF l13_1 ((l23_1).take ((i + 1)))).getD []).flatMap encP⟩], [⟨.slice (A15_2) (((repF l13_1 l23_1).getD []).length) (c15_2), 53, 2, (((repF l13_1 l23_1).getD []).length), ((repF l13_1 l23_1).getD []).flatMap encP⟩], [⟨.slice (A14_2) (((repF l13_1 l23_1).getD []).length) (c14_2), 53, 2, (((repF l13_1 l23_1).getD []).length), ((repF l13_1 l23_1).getD []).flatMap encP⟩], [⟨.slice (A13_1) ((l13_1).length) (c13_1), 53, 2, ((l13_1).length), (l13_1).flatMap encP⟩], [⟨.slice (A23_1) ((l23_1).length) (c23_1), 34, 3, ((l23_1).length), (l23_1).flatMap encG⟩]] := Mem.call (Ma := []) hM_l9 hR12_5 rfl
          have hcr12_5_0 := (hM12_5.cap 0 rfl).1
          have hrl2 := rep_len (l := l13_1) (g := l23_1.take (i + 1))
          refine O.val (v := .tuple #[.slice (A112_5) (((repF l13_1 ((l23_1).take ((i + 1)))).getD []).length) (c112_5), .bool ((repF l13_1 ((l23_1).take ((i + 1)))).isSome)]) rfl (Ru.move rfl) rfl ?_
          refine O.val (v := .slice (A112_5) (((repF l13_1 ((l23_1).take ((i + 1)))).getD []).length) (c112_5)) rfl (Ru.extract rfl rfl) rfl ?_
          refine O.val (v := .bool ((repF l13_1 ((l23_1).take ((i + 1)))).isSome)) rfl (Ru.extract rfl rfl) rfl ?_
          refine O.val (v := .slice (A112_5) (((repF l13_1 ((l23_1).take ((i + 1)))).getD []).length) (c112_5)) rfl (Ru.assign rfl) rfl ?_
          refine O.val (v := .bool ((repF l13_1 ((l23_1).take ((i + 1)))).isSome)) rfl (Ru.assign rfl) rfl ?_
          refine O.nil ?_
          refine C.seq ?_
          refine C.region ?_
          refine O.val (v := .slice (A112_5) (((repF l13_1 ((l23_1).take ((i + 1)))).getD []).length) (c112_5)) rfl (Ru.move rfl) rfl ?_
          refine O.val (v := .slice (A23_1) ((l23_1).length) (c23_1)) rfl (Ru.move rfl) rfl ?_
          refine O.val (v := I (((i : Nat) : Int))) rfl (Ru.move rfl) rfl ?_
          refine O.val (v := I ((((i + 1) : Nat) : Int))) rfl (Ru.congr (v := I ((((i : Nat) : Int) + 1))) (v' := I ((((i + 1) : Nat) : Int))) (Ru.add rfl rfl (by omega)) (I_congr (by first | omega | simp))) rfl ?_
          have hcp13_4 := hM12_5.cap 4 rfl
          refine O.val (v := .slice (if c23_1 = (i + 1) then A23_1 else ofs (A23_1) ((i + 1) * 3)) (((l23_1).drop ((i + 1))).length) (c23_1 - (i + 1))) rfl (Ru.congr (v := .slice (if c23_1 = (i + 1) then A23_1 else ofs (A23_1) ((i + 1) * 3)) (((l23_1).length) - (i + 1)) (c23_1 - (i + 1))) (v' := .slice (if c23_1 = (i + 1) then A23_1 else ofs (A23_1) ((i + 1) * 3)) (((l23_1).drop ((i + 1))).length) (c23_1 - (i + 1))) (Ru.lsliceFrom (l := (i + 1)) Try.underlying23 el34 rfl rfl (by omega) (by omega)) (sl_congr (by first | rfl | (simp; done) | omega | (simp; omega)))) rfl ?_
          refine O.callg [.slice (A112_5) (((repF l13_1 ((l23_1).take ((i + 1)))).getD []).length) (c112_5), .slice (if c23_1 = (i + 1) then A23_1 else ofs (A23_1) ((i + 1) * 3)) (((l23_1).drop ((i + 1))).length) (c23_1 - (i + 1))] rfl en39 rfl rfl (ReplayLog_fn A112_5 c112_5 ((repF l13_1 ((l23_1).take ((i + 1)))).getD []) (if c23_1 = (i + 1) then A23_1 else ofs (A23_1) ((i + 1) * 3)) (c23_1 - (i + 1)) ((l23_1).drop ((i + 1))) w12_5 (hM12_5.rd 0 rfl) (rd_dropN encG_len (hM12_5.rd 4 rfl) (by first | omega | (simp; omega)) (by first | omega | (simp; omega))) (by omega) (by simp; omega) (by simp at *; omega)) ?_
          rintro _ w13_5 ⟨A113_5, c113_5, rfl, hR13_5⟩
          have hM13_5 : Mem w w13_5 [] [[⟨.slice (A113_5) (((repF ((repF l13_1 ((l23_1).take ((i + 1)))).getD []) ((l23_1).drop ((i + 1)))).getD []).length) (c113_5), 53, 2, (((repF ((repF l13_1 ((l23_1).take ((i + 1)))).getD []) ((l23_1).drop ((i + 1)))).getD []).length), ((repF ((repF l13_1 ((l23_1).take ((i + 1)))).getD []) ((l23_1).drop ((i + 1)))).getD []).flatMap encP⟩], [⟨.slice (A112_5) (((repF l13_1 ((l23_1).take ((i + 1)))).getD []).length) (c112_5), 53, 2, (((repF l13_1 ((l23_1).take ((i + 1)))).getD []).length), ((repF l13_1 ((l23_1).take ((i + 1)))).getD []).flatMap encP⟩], [⟨.slice (A15_2) (((repF l13_1 l23_1).getD []).length) (c15_2), 53, 2, (((repF l13_1 l23_1).getD []).length), ((repF l13_1 l23_1).getD []).flatMap encP⟩], [⟨.slice (A14_2) (((repF l13_1 l23_1).getD []).length) (c14_2), 53, 2, (((repF l13_1 l23_1).getD []).length), ((repF l13_1 l23_1).getD []).flatMap encP⟩], [⟨.slice (A13_1) ((l13_1).length) (c13_1), 53, 2, ((l13_1).length), (l13_1).flatMap encP⟩], [⟨.slice (A23_1) ((l23_1).length) (c23_1), 34, 3, ((l23_1).length), (l23_1).flatMap encG⟩]] := Mem.call (Ma := []) hM12_5 hR13_5 rfl
          have hcr13_5_0 := (hM13_5.cap 0 rfl).1
          refine O.val (v := .tuple #[.slice (A113_5) (((repF ((repF l13_1 ((l23_1).take ((i + 1)))).getD []) ((l23_1).drop ((i + 1)))).getD []).length) (c113_5), .bool ((repF ((repF l13_1 ((l23_1).take ((i + 1)))).getD []) ((l23_1).drop ((i + 1)))).isSome)]) rfl (Ru.move rfl) rfl ?_
          refine O.val (v := .slice (A113_5) (((repF ((repF l13_1 ((l23_1).take ((i + 1)))).getD []) ((l23_1).drop ((i + 1)))).getD []).length) (c113_5)) rfl (Ru.extract rfl rfl) rfl ?_
          refine O.val (v := .bool ((repF ((repF l13_1 ((l23_1).take ((i + 1)))).getD []) ((l23_1).drop ((i + 1)))).isSome)) rfl (Ru.extract rfl rfl) rfl ?_
          refine O.val (v := .slice (A113_5) (((repF ((repF l13_1 ((l23_1).take ((i + 1)))).getD []) ((l23_1).drop ((i + 1)))).getD []).length) (c113_5)) rfl (Ru.assign rfl) rfl ?_
          refine O.val (v := .bool ((repF ((repF l13_1 ((l23_1).take ((i + 1)))).getD []) ((l23_1).drop ((i + 1)))).isSome)) rfl (Ru.assign rfl) rfl ?_
          refine O.nil ?_
          refine C.seq ?_
          refine C.region ?_
          refine O.val (v := .bool ((repF l13_1 ((l23_1).take ((i + 1)))).isSome)) rfl (Ru.move rfl) rfl ?_
          refine O.val (v := .bool ((repF l13_1 ((l23_1).take ((i + 1)))).isSome)) rfl (Ru.move rfl) rfl ?_
          refine O.part 86 ((repF l13_1 ((l23_1).take ((i + 1)))).isSome) rfl (fun g86 => ?_) (fun g86 => ?_)
          · refine O.val (v := .bool ((repF ((repF l13_1 ((l23_1).take ((i + 1)))).getD []) ((l23_1).drop ((i + 1)))).isSome)) rfl (Ru.move rfl) rfl ?_
            refine O.val (v := .bool (!((repF ((repF l13_1 ((l23_1).take ((i + 1)))).getD []) ((l23_1).drop ((i + 1)))).isSome))) rfl (Ru.not rfl) rfl ?_
            refine O.val (v := .bool (!((repF ((repF l13_1 ((l23_1).take ((i + 1)))).getD []) ((l23_1).drop ((i + 1)))).isSome))) rfl (Ru.move rfl) rfl ?_
            refine O.part 89 (!((repF ((repF l13_1 ((l23_1).take ((i + 1)))).getD []) ((l23_1).drop ((i + 1)))).isSome)) rfl (fun g89 => ?_) (fun g89 => ?_)
            · refine O.pass rfl rfl rfl rfl rfl ?_
              refine O.pass rfl rfl rfl rfl rfl ?_
              refine O.pass rfl rfl rfl rfl rfl ?_
              refine O.pass rfl rfl rfl rfl rfl ?_
              refine O.val (v := .bool (true)) rfl (Ru.pickT rfl rfl) rfl ?_
              refine O.val (v := .bool (true)) rfl (Ru.pickT rfl rfl) rfl ?_
              refine O.nil ?_
              refine C.condT rfl ?_
              refine C.seq ?_
              refine C.region ?_
              refine O.val (v := .bool (false)) rfl (Ru.assign rfl) rfl ?_
              refine O.nil ?_
              refine C.ret ?_
              refine P1 (v := .bool (false)) rfl ?_
              exact ⟨(by exfalso; have hpr := part_replay hx11_2 (by simpa using c66) hso (by simpa using g86); first | (simp [hpr, hso] at g89; done) | (simp [hpr] at c95; done)), (Mem.none hM13_5)⟩
            · refine O.val (v := .slice (A113_5) (((repF ((repF l13_1 ((l23_1).take ((i + 1)))).getD []) ((l23_1).drop ((i + 1)))).getD []).length) (c113_5)) rfl (Ru.move rfl) rfl ?_
              refine O.val (v := .slice (A14_2) (((repF l13_1 l23_1).getD []).length) (c14_2)) rfl (Ru.move rfl) rfl ?_
              refine O.callg [.slice (A113_5) (((repF ((repF l13_1 ((l23_1).take ((i + 1)))).getD []) ((l23_1).drop ((i + 1)))).getD []).length) (c113_5), .slice (A14_2) (((repF l13_1 l23_1).getD []).length) (c14_2)] rfl en41 rfl rfl (equalPairs_fn A113_5 c113_5 ((repF ((repF l13_1 ((l23_1).take ((i + 1)))).getD []) ((l23_1).drop ((i + 1)))).getD []) A14_2 c14_2 ((repF l13_1 l23_1).getD []) w13_5 (hM13_5.rd 0 rfl) (hM13_5.rd 3 rfl) (by have := rep_len (l := (repF l13_1 (l23_1.take (i + 1))).getD []) (g := l23_1.drop (i + 1)); omega)) ?_
              rintro _ w14_7 ⟨rfl, hR14_7⟩
              have hM14_7 : Mem w w14_7 [] [[⟨.slice (A113_5) (((repF ((repF l13_1 ((l23_1).take ((i + 1)))).getD []) ((l23_1).drop ((i + 1)))).getD []).length) (c113_5), 53, 2, (((repF ((repF l13_1 ((l23_1).take ((i + 1)))).getD []) ((l23_1).drop ((i + 1)))).getD []).length), ((repF ((repF l13_1 ((l23_1).take ((i + 1)))).getD []) ((l23_1).drop ((i + 1)))).getD []).flatMap encP⟩], [⟨.slice (A112_5) (((repF l13_1 ((l23_1).take ((i + 1)))).getD []).length) (c112_5), 53, 2, (((repF l13_1 ((l23_1).take ((i + 1)))).getD []).length), ((repF l13_1 ((l23_1).take ((i + 1)))).getD []).flatMap encP⟩], [⟨.slice (A15_2) (((repF l13_1 l23_1).getD []).length) (c15_2), 53, 2, (((repF l13_1 l23_1).getD []).length), ((repF l13_1 l23_1).getD []).flatMap encP⟩], [⟨.slice (A14_2) (((repF l13_1 l23_1).getD []).length) (c14_2), 53, 2, (((repF l13_1 l23_1).getD []).length), ((repF l13_1 l23_1).getD []).flatMap encP⟩], [⟨.slice (A13_1) ((l13_1).length) (c13_1), 53, 2, ((l13_1).length), (l13_1).flatMap encP⟩], [⟨.slice (A23_1) ((l23_1).length) (c23_1), 34, 3, ((l23_1).length), (l23_1).flatMap encG⟩]] := Mem.call (Ma := []) hM13_5 hR14_7 rfl
              refine O.val (v := .bool (!(decide (((repF ((repF l13_1 ((l23_1).take ((i + 1)))).getD []) ((l23_1).drop ((i + 1)))).getD []) = ((repF l13_1 l23_1).getD []))))) rfl (Ru.not rfl) rfl ?_
              refine O.val (v := .bool (!(decide (((repF ((repF l13_1 ((l23_1).take ((i + 1)))).getD []) ((l23_1).drop ((i + 1)))).getD []) = ((repF l13_1 l23_1).getD []))))) rfl (Ru.pickF rfl rfl) rfl ?_
              refine O.val (v := .bool (!(decide (((repF ((repF l13_1 ((l23_1).take ((i + 1)))).getD []) ((l23_1).drop ((i + 1)))).getD []) = ((repF l13_1 l23_1).getD []))))) rfl (Ru.pickT rfl rfl) rfl ?_
              refine O.nil ?_
              refine C.condn (b := (decide (((repF ((repF l13_1 ((l23_1).take ((i + 1)))).getD []) ((l23_1).drop ((i + 1)))).getD []) = ((repF l13_1 l23_1).getD [])))) rfl (fun c95 => ?_) (fun c95 => ?_)
              · refine C.seq ?_
                refine C.region ?_
                refine O.val (v := .bool (false)) rfl (Ru.assign rfl) rfl ?_
                refine O.nil ?_
                refine C.ret ?_
                refine P1 (v := .bool (false)) rfl ?_
                exact ⟨(by exfalso; have hpr := part_replay hx11_2 (by simpa using c66) hso (by simpa using g86); first | (simp [hpr, hso] at g89; done) | (simp [hpr] at c95; done)), (Mem.none hM14_7)⟩
              · refine C.skip ?_
                refine C.region ?_
                refine O.val (v := I (((i : Nat) : Int))) rfl (Ru.move rfl) rfl ?_
                refine O.val (v := I ((((i + 1) : Nat) : Int))) rfl (Ru.congr (v := I ((((i : Nat) : Int) + 1))) (v' := I ((((i + 1) : Nat) : Int))) (Ru.add rfl rfl (by omega)) (I_congr (by first | omega | simp))) rfl ?_
                refine O.val (v := I ((((i + 1) : Nat) : Int))) rfl (Ru.assign rfl) rfl ?_
                refine O.nil ?_
                exact loopEnd (i + 1) (by (try dsimp only); omega) (Has.cons rfl (Has.cons rfl (Has.cons rfl (Has.cons (I_congr (by first | rfl | omega | (simp; omega) | simp)) Has.nil)))) ⟨(by (try dsimp only); omega), (hM14_7.pick [2, 3, 4, 5] (by decide) rfl)⟩
          · refine O.pass rfl rfl rfl rfl rfl ?_
            refine O.pass rfl rfl rfl rfl rfl ?_
            refine O.pass rfl rfl rfl rfl rfl ?_
            refine O.passU rfl rfl rfl rfl ?_
            refine O.passU rfl rfl rfl rfl ?_
            refine O.passU rfl rfl rfl rfl ?_
            refine O.passU rfl rfl rfl rfl ?_
            refine O.pass rfl rfl rfl rfl rfl ?_
            refine O.val (v := .bool (false)) rfl (Ru.pickF rfl rfl) rfl ?_
            refine O.nil ?_
            refine C.condF rfl ?_
            refine C.skip ?_
            refine C.region ?_
            refine O.val (v := I (((i : Nat) : Int))) rfl (Ru.move rfl) rfl ?_
            refine O.val (v := I ((((i + 1) : Nat) : Int))) rfl (Ru.congr (v := I ((((i : Nat) : Int) + 1))) (v' := I ((((i + 1) : Nat) : Int))) (Ru.add rfl rfl (by omega)) (I_congr (by first | omega | simp))) rfl ?_
            refine O.val (v := I ((((i + 1) : Nat) : Int))) rfl (Ru.assign rfl) rfl ?_
            refine O.nil ?_
            exact loopEnd (i + 1) (by (try dsimp only); omega) (Has.cons rfl (Has.cons rfl (Has.cons rfl (Has.cons (I_congr (by first | rfl | omega | (simp; omega) | simp)) Has.nil)))) ⟨(by (try dsimp only); omega), (hM13_5.pick [2, 3, 4, 5] (by decide) rfl)⟩
      · refine C.exit ?_
        refine C.seq ?_
        refine C.region ?_
        refine O.val (v := .bool (true)) rfl (Ru.assign rfl) rfl ?_
        refine O.nil ?_
        refine C.ret ?_
        refine P1 (v := .bool (true)) rfl ?_
        exact ⟨rfl, (Mem.none hM_l9)⟩
end Go.Proofs.Ytgflcaeibbnkcaa
namespace Go.Proofs.Ytgflcaeibbnkcaa.fnReplayLogPart
open Go.ChangeShapes Go.WideShapes Go.ChangeAt Go.RowKit Go.Px
open Go.ChangeMaps (open_string shut_string)
set_option linter.unusedVariables false

theorem own : ownKnob Try.prog.godebug = none := by kernel_rfl
theorem laidOut : laidOutB Try.prog = true := by kernel_rfl

set_option maxRecDepth 100000 in
theorem lifted (os : Os) (started : os.Started) (H : Type) (enc : TypeId × Value → H) :
    ReturnsInHanded {} Try.checked os 12 .any (Rows.fnReplayLogPartSpec.pre6 enc Try.prog Try.f12 Rows.fnReplayLogPartRow.domain false) (Rows.fnReplayLogPartSpec.post enc Try.prog Try.f12 false true false false) := by
  refine returnsInHanded_of_change (C := Try.checked) own started (by kernel_rfl) Try.func12
    (ChangeSpec.witness6 (enc := enc) (C := Try.checked) false ⟨#[], #[.slice none 0 0], []⟩ 8 (by kernel_rfl) (by kernel_rfl) (by kernel_rfl) (by kernel_rfl)) ?_
  intro W base args ds gs before hval0 hW hcnd _
  have hval : ∀ (j : Nat) t v, Try.f12.params[j]? = some t → args[j]? = some v → Value.okWide Try.prog W .any base t v := hval0
  have hW' := hW
  obtain ⟨p, q, hA0, hV, rfl, hfz, hnd⟩ := hW
  have hA : DataW.TrodAll enc Try.prog W 0 (fun _ => true) true Try.f12.params.toList args.toList ds p := hA0
  rw [Try.params12] at hA hval
  obtain ⟨v0, vs0, d0, ds0, p0, q0, hargs, rfl, rfl, h0, r0⟩ := trodAll_cons hA
  obtain ⟨rfl, rfl, rfl⟩ := trodAll_nil r0
  obtain rfl : args = #[v0] := by cases args; simp_all
  obtain ⟨rfl, rfl⟩ := trodVars_none hV
  have k0 := h0
  have lt0 : ∀ x ∈ p0, x.block < W.heap.size := by obtain ⟨m, hm⟩ := k0; exact DataW.trod_lt m _ _ _ hm
  obtain ⟨a0, len0, cap0, rfl⟩ := okWide_slice Try.underlying22 (hval 0 22 v0 rfl rfl)
  have kk0 := k0
  obtain ⟨fuel0, hf0⟩ := kk0
  obtain ⟨z0, rfl, hz0, hc0, hw0, hRd0⟩ := slice_in (α := UInt8) (f := fun a : UInt8 => [byteV a]) (c := 1) Try.underlying22 (by kernel_rfl) (fun _ => rfl) (byte_el Try.underlying5) hf0
  rw [flat_one] at hRd0
  clear hA0 hval0
  refine (FnReplayLogPart_fn a0 cap0 z0 W hRd0 hz0 hc0).out.mono fun e W' ⟨v, he, hv, hg⟩ => ?_
  subst he hv
  have bel : Below W.heap.size W W' := ⟨hg.os, hg.tape, hg.output, hg.size, fun k hk => hg.block k hk (by simp)⟩
  exact ⟨_, rfl, _, _, _, [], _, [], hW', trodAll_mk1 (shut_bool Try.underlying4 _), (trodAll_cons_mk (Below.trod laidOut (by kernel_rfl) (of_decide_eq_true (by kernel_rfl)) k0 bel lt0) trodAll_mk0), rfl, bel.frame _, fun h => by cases h⟩

theorem named_ : Try.prog.funcNamed Rows.fnReplayLogPartRow.func = some 12 := by kernel_rfl
theorem closed : joinedFacts Try.prog 12 Try.f12 Rows.fnReplayLogPartSpec Rows.fnReplayLogPartRow = true := by
  unfold joinedFacts
  rw [enter_, lifts_, made_]
  kernel_rfl
theorem inst_ : Try.f12.isInstance Try.prog Rows.fnReplayLogPartRow.origin Rows.fnReplayLogPartRow.targs := of_decide_eq_true (by kernel_rfl)
theorem wrap_ : Try.f12.isWrapper Try.prog Rows.fnReplayLogPartRow.wrapper Rows.fnReplayLogPartRow.mainSum := by
  unfold Func.isWrapper
  rw [if_neg (by decide +kernel)]
  exact ⟨rfl, rfl⟩
theorem over : Rows.fnReplayLogPartRow.holds Try.pinned (OpenSpec.ofChange Rows.fnReplayLogPartSpec) :=
  OpenClaim.holds_of_wide 12 Try.f12 rfl rfl rfl rfl rfl rfl rfl ⟨rfl, rfl, rfl, rfl, rfl⟩ rfl rfl rfl rfl rfl named_ Try.func12 closed inst_ wrap_
    (fun os started H enc _ => lifted os started H enc)
theorem proved : Rows.FnReplayLogPartSaid := over
end Go.Proofs.Ytgflcaeibbnkcaa.fnReplayLogPart
