/- The statement Rows.FnReplayLogSaid: the Go function laws.FnReplayLog returns true for every input, and each argument reads afterwards as it read before. No conditions. -/
import Derived.Test.YtgflcaeibbnkcaaRows
import Derived.Test.YtgflcaeibbnkcaaPxO
import Derived.Test.YtgflcaeibbnkcaaLI
import Derived.Test.YtgflcaeibbnkcaaH0
import Derived.WalkKit
import Derived.ProofKit
import Derived.OpenShut
import Derived.ShutString
import Derived.ChangeOld
import Derived.SliceStrings
import Derived.Deep.Slices
import Derived.Deep.Fields
import Derived.ChangeSame
import Derived.Below
set_option linter.unusedVariables false
set_option linter.unusedSimpArgs false
namespace Go.Proofs.Ytgflcaeibbnkcaa
open Go.Px
set_option linter.unusedVariables false
theorem FnReplayLog_fn (A : Option Addr) (c : Nat) (l : List UInt8) (w : World) (hA : Rd w A ((l).map byteV)) (hl : l.length ≤ 9223372036854775807) (hc : l.length ≤ c) :
    Does Try.prog 16 [.slice (A) ((l).length) (c)] w (fun v w1 => v = .bool (true) ∧ Mem w w1 [] []) := by
  have hM : Mem w w [] [] := Mem.refl
  refine Does.enter1 Try.func16 rfl Try.results16 Try.ntmps16 rfl ?_
  refine C.seq ?_
  refine C.region ?_
  refine O.val (v := .bool (false)) rfl (Ru.assign rfl) rfl ?_
  refine O.nil ?_
  refine C.seq ?_
  refine C.seq ?_
  refine C.region ?_
  refine O.val (v := .slice (A) ((l).length) (c)) rfl (Ru.move rfl) rfl ?_
  refine O.val (v := I ((((l).length : Nat) : Int))) rfl (Ru.blenSlice Try.underlying22 rfl) rfl ?_
  refine O.val (v := .bool (decide ((((l).length : Nat) : Int) > 1048576))) rfl (Ru.gtr rfl rfl) rfl ?_
  refine O.nil ?_
  refine C.cond (p := (((l).length : Nat) : Int) > 1048576) rfl (fun c15 => ?_) (fun c15 => ?_)
  · refine C.seq ?_
    refine C.region ?_
    refine O.val (v := .bool (true)) rfl (Ru.assign rfl) rfl ?_
    refine O.nil ?_
    refine C.ret ?_
    refine P1 (v := .bool (true)) rfl ?_
    exact ⟨rfl, (Mem.none hM)⟩
  · refine C.skip ?_
    refine C.seq ?_
    refine C.region ?_
    refine O.val (v := .slice (A) ((l).length) (c)) rfl (Ru.move rfl) rfl ?_
    refine O.callg [.slice (A) ((l).length) (c)] rfl en38 rfl rfl (DrawReplayLog_fn A c l w (hA.at hM) (by first | omega | assumption | (simp; omega) | simp | (intros; omega)) (by first | omega | assumption | (simp; omega) | simp | (intros; omega))) ?_
    rintro _ w3_1 ⟨l13_1, A13_1, c13_1, l23_1, A23_1, c23_1, rfl, hl3_1, hl23_1, hR3_1⟩
    have hM3_1 : Mem w w3_1 [] [[⟨.slice (A13_1) ((l13_1).length) (c13_1), 53, 2, ((l13_1).length), (l13_1).flatMap encP⟩], [⟨.slice (A23_1) ((l23_1).length) (c23_1), 34, 3, ((l23_1).length), (l23_1).flatMap encG⟩]] := Mem.call (Ma := []) hM hR3_1 rfl
    have hcr3_1_0 := (hM3_1.cap 0 rfl).1
    have hcr3_1_1 := (hM3_1.cap 1 rfl).1
    refine O.val (v := .tuple #[.slice (A13_1) ((l13_1).length) (c13_1), .slice (A23_1) ((l23_1).length) (c23_1)]) rfl (Ru.move rfl) rfl ?_
    refine O.val (v := .slice (A13_1) ((l13_1).length) (c13_1)) rfl (Ru.extract rfl rfl) rfl ?_
    refine O.val (v := .slice (A23_1) ((l23_1).length) (c23_1)) rfl (Ru.extract rfl rfl) rfl ?_
    refine O.val (v := .slice (A13_1) ((l13_1).length) (c13_1)) rfl (Ru.assign rfl) rfl ?_
    refine O.val (v := .slice (A23_1) ((l23_1).length) (c23_1)) rfl (Ru.assign rfl) rfl ?_
    refine O.nil ?_
    refine C.seq ?_
    refine C.region ?_
    refine O.val (v := .slice (A13_1) ((l13_1).length) (c13_1)) rfl (Ru.move rfl) rfl ?_
    refine O.val (v := .slice (A23_1) ((l23_1).length) (c23_1)) rfl (Ru.move rfl) rfl ?_
    refine O.callg [.slice (A13_1) ((l13_1).length) (c13_1), .slice (A23_1) ((l23_1).length) (c23_1)] rfl en39 rfl rfl (ReplayLog_fn A13_1 c13_1 l13_1 A23_1 c23_1 l23_1 w3_1 (hM3_1.rd 0 rfl) (hM3_1.rd 1 rfl) (by first | omega | assumption | (simp; omega) | simp | (intros; omega)) (by first | omega | assumption | (simp; omega) | simp | (intros; omega)) (by first | omega | assumption | (simp; omega) | simp | (intros; omega))) ?_
    rintro _ w4_2 ⟨A14_2, c14_2, rfl, hR4_2⟩
    have hM4_2 : Mem w w4_2 [] [[⟨.slice (A14_2) (((repF l13_1 l23_1).getD []).length) (c14_2), 53, 2, (((repF l13_1 l23_1).getD []).length), ((repF l13_1 l23_1).getD []).flatMap encP⟩], [⟨.slice (A13_1) ((l13_1).length) (c13_1), 53, 2, ((l13_1).length), (l13_1).flatMap encP⟩], [⟨.slice (A23_1) ((l23_1).length) (c23_1), 34, 3, ((l23_1).length), (l23_1).flatMap encG⟩]] := Mem.call (Ma := []) hM3_1 hR4_2 rfl
    have hcr4_2_0 := (hM4_2.cap 0 rfl).1
    have hrl := rep_len (l := l13_1) (g := l23_1)
    refine O.val (v := .tuple #[.slice (A14_2) (((repF l13_1 l23_1).getD []).length) (c14_2), .bool ((repF l13_1 l23_1).isSome)]) rfl (Ru.move rfl) rfl ?_
    refine O.val (v := .slice (A14_2) (((repF l13_1 l23_1).getD []).length) (c14_2)) rfl (Ru.extract rfl rfl) rfl ?_
    refine O.val (v := .bool ((repF l13_1 l23_1).isSome)) rfl (Ru.extract rfl rfl) rfl ?_
    refine O.val (v := .slice (A14_2) (((repF l13_1 l23_1).getD []).length) (c14_2)) rfl (Ru.assign rfl) rfl ?_
    refine O.val (v := .bool ((repF l13_1 l23_1).isSome)) rfl (Ru.assign rfl) rfl ?_
    refine O.nil ?_
    refine C.seq ?_
    refine C.region ?_
    refine O.val (v := .slice (A13_1) ((l13_1).length) (c13_1)) rfl (Ru.move rfl) rfl ?_
    refine O.val (v := .slice (A23_1) ((l23_1).length) (c23_1)) rfl (Ru.move rfl) rfl ?_
    refine O.callg [.slice (A13_1) ((l13_1).length) (c13_1), .slice (A23_1) ((l23_1).length) (c23_1)] rfl en40 rfl rfl (sReplayLog_fn A13_1 c13_1 l13_1 A23_1 c23_1 l23_1 w4_2 (hM4_2.rd 1 rfl) (hM4_2.rd 2 rfl) (by first | omega | assumption | (simp; omega) | simp | (intros; omega)) (by first | omega | assumption | (simp; omega) | simp | (intros; omega)) (by first | omega | assumption | (simp; omega) | simp | (intros; omega))) ?_
    rintro _ w5_2 ⟨A15_2, c15_2, rfl, hR5_2⟩
    have hM5_2 : Mem w w5_2 [] [[⟨.slice (A15_2) (((repF l13_1 l23_1).getD []).length) (c15_2), 53, 2, (((repF l13_1 l23_1).getD []).length), ((repF l13_1 l23_1).getD []).flatMap encP⟩], [⟨.slice (A14_2) (((repF l13_1 l23_1).getD []).length) (c14_2), 53, 2, (((repF l13_1 l23_1).getD []).length), ((repF l13_1 l23_1).getD []).flatMap encP⟩], [⟨.slice (A13_1) ((l13_1).length) (c13_1), 53, 2, ((l13_1).length), (l13_1).flatMap encP⟩], [⟨.slice (A23_1) ((l23_1).length) (c23_1), 34, 3, ((l23_1).length), (l23_1).flatMap encG⟩]] := Mem.call (Ma := []) hM4_2 hR5_2 rfl
    have hcr5_2_0 := (hM5_2.cap 0 rfl).1
    refine O.val (v := .tuple #[.slice (A15_2) (((repF l13_1 l23_1).getD []).length) (c15_2), .bool ((repF l13_1 l23_1).isSome)]) rfl (Ru.move rfl) rfl ?_
    refine O.val (v := .slice (A15_2) (((repF l13_1 l23_1).getD []).length) (c15_2)) rfl (Ru.extract rfl rfl) rfl ?_
    refine O.val (v := .bool ((repF l13_1 l23_1).isSome)) rfl (Ru.extract rfl rfl) rfl ?_
    refine O.val (v := .slice (A15_2) (((repF l13_1 l23_1).getD []).length) (c15_2)) rfl (Ru.assign rfl) rfl ?_
    refine O.val (v := .bool ((repF l13_1 l23_1).isSome)) rfl (Ru.assign rfl) rfl ?_
    refine O.nil ?_
    refine C.seq ?_
    refine C.seq ?_
    refine C.region ?_
    refine O.val (v := .slice (A14_2) (((repF l13_1 l23_1).getD []).length) (c14_2)) rfl (Ru.move rfl) rfl ?_
    refine O.val (v := .slice (A15_2) (((repF l13_1 l23_1).getD []).length) (c15_2)) rfl (Ru.move rfl) rfl ?_
    refine O.callg [.slice (A14_2) (((repF l13_1 l23_1).getD []).length) (c14_2), .slice (A15_2) (((repF l13_1 l23_1).getD []).length) (c15_2)] rfl en41 rfl rfl (equalPairs_fn A14_2 c14_2 ((repF l13_1 l23_1).getD []) A15_2 c15_2 ((repF l13_1 l23_1).getD []) w5_2 (hM5_2.rd 1 rfl) (hM5_2.rd 0 rfl) (by omega)) ?_
    rintro _ w6_2 ⟨hv6_2, hR6_2⟩
    obtain rfl : _ = Value.bool true := hv6_2.trans (by simp)
    have hM6_2 : Mem w w6_2 [] [[⟨.slice (A15_2) (((repF l13_1 l23_1).getD []).length) (c15_2), 53, 2, (((repF l13_1 l23_1).getD []).length), ((repF l13_1 l23_1).getD []).flatMap encP⟩], [⟨.slice (A14_2) (((repF l13_1 l23_1).getD []).length) (c14_2), 53, 2, (((repF l13_1 l23_1).getD []).length), ((repF l13_1 l23_1).getD []).flatMap encP⟩], [⟨.slice (A13_1) ((l13_1).length) (c13_1), 53, 2, ((l13_1).length), (l13_1).flatMap encP⟩], [⟨.slice (A23_1) ((l23_1).length) (c23_1), 34, 3, ((l23_1).length), (l23_1).flatMap encG⟩]] := Mem.call (Ma := []) hM5_2 hR6_2 rfl
    refine O.val (v := .bool (false)) rfl (Ru.not (b := true) rfl) rfl ?_
    refine O.val (v := .bool (false)) rfl (Ru.move rfl) rfl ?_
    refine O.val (v := .bool ((repF l13_1 l23_1).isSome)) rfl (Ru.move rfl) rfl ?_
    refine O.val (v := .bool ((repF l13_1 l23_1).isSome)) rfl (Ru.move rfl) rfl ?_
    refine O.val (v := .bool (false)) rfl (Ru.congr (v := .bool (decide ((repF l13_1 l23_1).isSome ≠ (repF l13_1 l23_1).isSome))) (v' := .bool (false)) (Ru.bneq Try.underlying4 rfl rfl) (congrArg Value.bool (by simp))) rfl ?_
    refine O.val (v := .bool (false)) rfl (Ru.pickF rfl rfl) rfl ?_
    refine O.val (v := .bool (false)) rfl (Ru.move rfl) rfl ?_
    refine O.val (v := .bool ((repF l13_1 l23_1).isSome)) rfl (Ru.move rfl) rfl ?_
    refine O.val (v := .bool (!((repF l13_1 l23_1).isSome))) rfl (Ru.not rfl) rfl ?_
    refine O.val (v := .bool (!((repF l13_1 l23_1).isSome))) rfl (Ru.pickF rfl rfl) rfl ?_
    refine O.nil ?_
    refine C.condn (b := ((repF l13_1 l23_1).isSome)) rfl (fun c45 => ?_) (fun c45 => ?_)
    · refine C.seq ?_
      refine C.region ?_
      refine O.val (v := .slice (A14_2) (((repF l13_1 l23_1).getD []).length) (c14_2)) rfl (Ru.move rfl) rfl ?_
      refine O.val (v := .slice (A15_2) (((repF l13_1 l23_1).getD []).length) (c15_2)) rfl (Ru.move rfl) rfl ?_
      refine O.callg [.slice (A14_2) (((repF l13_1 l23_1).getD []).length) (c14_2), .slice (A15_2) (((repF l13_1 l23_1).getD []).length) (c15_2)] rfl en41 rfl rfl (equalPairs_fn A14_2 c14_2 ((repF l13_1 l23_1).getD []) A15_2 c15_2 ((repF l13_1 l23_1).getD []) w6_2 (hM6_2.rd 1 rfl) (hM6_2.rd 0 rfl) (by omega)) ?_
      rintro _ w7_2 ⟨hv7_2, hR7_2⟩
      obtain rfl : _ = Value.bool true := hv7_2.trans (by simp)
      have hM7_2 : Mem w w7_2 [] [[⟨.slice (A15_2) (((repF l13_1 l23_1).getD []).length) (c15_2), 53, 2, (((repF l13_1 l23_1).getD []).length), ((repF l13_1 l23_1).getD []).flatMap encP⟩], [⟨.slice (A14_2) (((repF l13_1 l23_1).getD []).length) (c14_2), 53, 2, (((repF l13_1 l23_1).getD []).length), ((repF l13_1 l23_1).getD []).flatMap encP⟩], [⟨.slice (A13_1) ((l13_1).length) (c13_1), 53, 2, ((l13_1).length), (l13_1).flatMap encP⟩], [⟨.slice (A23_1) ((l23_1).length) (c23_1), 34, 3, ((l23_1).length), (l23_1).flatMap encG⟩]] := Mem.call (Ma := []) hM6_2 hR7_2 rfl
      refine O.val (v := .bool (true)) rfl (Ru.move rfl) rfl ?_
      refine O.val (v := .bool ((repF l13_1 l23_1).isSome)) rfl (Ru.move rfl) rfl ?_
      refine O.val (v := .bool ((repF l13_1 l23_1).isSome)) rfl (Ru.move rfl) rfl ?_
      refine O.val (v := .bool (true)) rfl (Ru.congr (v := .bool (decide ((repF l13_1 l23_1).isSome = (repF l13_1 l23_1).isSome))) (v' := .bool (true)) (Ru.beql Try.underlying4 rfl rfl) (congrArg Value.bool (by simp))) rfl ?_
      refine O.val (v := .bool (true)) rfl (Ru.pickT rfl rfl) rfl ?_
      refine O.val (v := .bool (true)) rfl (Ru.assign rfl) rfl ?_
      refine O.nil ?_
      refine C.ret ?_
      refine P1 (v := .bool (true)) rfl ?_
      exact ⟨(by first | rfl | (simp_all)), (Mem.none hM7_2)⟩
    · have hso : (repF l13_1 l23_1).isSome = true := by simp_all
      obtain ⟨hrv, hvo, hasc⟩ := rep_value hso
      refine C.skip ?_
      refine C.seq ?_
      refine C.region ?_
      refine O.val (v := I (0)) rfl (Ru.assign rfl) rfl ?_
      refine O.nil ?_
      refine C.seq ?_
      refine C.seq ?_
      refine C.region ?_
      refine O.val (v := I (0)) rfl (Ru.assign rfl) rfl ?_
      refine O.nil ?_
      refine C.block ?_
      refine C.loop (ι := Nat) (fun t => ([(3, .slice (A13_1) ((l13_1).length) (c13_1)), (4, .slice (A23_1) ((l23_1).length) (c23_1)), (5, .slice (A14_2) (((repF l13_1 l23_1).getD []).length) (c14_2)), (9, I (((lastMk (l23_1.take t) : Nat) : Int))), (10, I (((t : Nat) : Int)))] : List (Nat × Value))) (fun t w_ => (t ≤ l23_1.length) ∧ (Mem w w_ [] [[⟨.slice (A15_2) (((repF l13_1 l23_1).getD []).length) (c15_2), 53, 2, (((repF l13_1 l23_1).getD []).length), ((repF l13_1 l23_1).getD []).flatMap encP⟩], [⟨.slice (A14_2) (((repF l13_1 l23_1).getD []).length) (c14_2), 53, 2, (((repF l13_1 l23_1).getD []).length), ((repF l13_1 l23_1).getD []).flatMap encP⟩], [⟨.slice (A13_1) ((l13_1).length) (c13_1), 53, 2, ((l13_1).length), (l13_1).flatMap encP⟩], [⟨.slice (A23_1) ((l23_1).length) (c23_1), 34, 3, ((l23_1).length), (l23_1).flatMap encG⟩]])) (fun t => l23_1.length - t) (0) (Has.cons rfl (Has.cons rfl (Has.cons rfl (Has.cons (I_congr (by simp [lastMk])) (Has.cons (I_congr (by first | rfl | omega | (simp; omega) | simp)) Has.nil))))) ⟨(Nat.zero_le _), (hM6_2.pick [0, 1, 2, 3] (by decide) rfl)⟩ (fun t σ w_l10 hI => ?_)
      try dsimp only at hI
      obtain ⟨hi0_l10, hM_l10⟩ := hI
      have hcl0_l10 := (hM_l10.cap 0 rfl).1
      have hcl1_l10 := (hM_l10.cap 1 rfl).1
      have hcl2_l10 := (hM_l10.cap 2 rfl).1
      have hcl3_l10 := (hM_l10.cap 3 rfl).1
      refine C.seq ?_
      refine C.seq ?_
      refine C.region ?_
      refine O.val (v := I (((t : Nat) : Int))) rfl (Ru.move rfl) rfl ?_
      refine O.val (v := .slice (A23_1) ((l23_1).length) (c23_1)) rfl (Ru.move rfl) rfl ?_
      refine O.val (v := I ((((l23_1).length : Nat) : Int))) rfl (Ru.blenSlice Try.underlying23 rfl) rfl ?_
      refine O.val (v := .bool (decide (((t : Nat) : Int) < (((l23_1).length : Nat) : Int)))) rfl (Ru.lss rfl rfl) rfl ?_
      refine O.nil ?_
      refine C.cond (p := ((t : Nat) : Int) < (((l23_1).length : Nat) : Int)) rfl (fun c57 => ?_) (fun c57 => ?_)
      · refine C.skip ?_
        refine C.seq ?_
        refine C.block ?_
        refine C.seq ?_
        refine C.region ?_
        refine O.val (v := .slice (A23_1) ((l23_1).length) (c23_1)) rfl (Ru.move rfl) rfl ?_
        refine O.val (v := I (((t : Nat) : Int))) rfl (Ru.move rfl) rfl ?_
        have hx12_2 : t < (l23_1).length := (by first | omega | (simp; omega))
        refine O.val (v := .pointer (ofs (A23_1) (t * 3))) rfl (Ru.indexA (j := t) Try.underlying23 el34 rfl rfl (smf encG_len (hM_l10.rd 3 rfl) hx12_2 rfl) (by omega) (by first | omega | (simp; omega))) rfl ?_
        refine O.val (v := .pointer (ofs (A23_1) (t * 3 + 0))) rfl (Ru.fieldA fl34_0 rfl (smf encG_len (hM_l10.rd 3 rfl) hx12_2 rfl)) rfl ?_
        refine O.val rfl (Ru.load1 el3 rfl (ldf encG_len (hM_l10.rd 3 rfl) hx12_2 rfl)) rfl ?_
        refine O.val (v := .bool (decide (((l23_1)[t]'hx12_2).kind = 3))) rfl (Ru.eql rfl rfl) rfl ?_
        refine O.nil ?_
        refine C.cond (p := ((l23_1)[t]'hx12_2).kind = 3) rfl (fun c65 => ?_) (fun c65 => ?_)
        · refine C.region ?_
          refine O.val (v := I (((t : Nat) : Int))) rfl (Ru.move rfl) rfl ?_
          refine O.val (v := I ((((t + 1) : Nat) : Int))) rfl (Ru.congr (v := I ((((t : Nat) : Int) + 1))) (v' := I ((((t + 1) : Nat) : Int))) (Ru.add rfl rfl (by omega)) (I_congr (by first | omega | simp))) rfl ?_
          refine O.val (v := I ((((t + 1) : Nat) : Int))) rfl (Ru.assign rfl) rfl ?_
          refine O.nil ?_
          refine C.region ?_
          refine O.val (v := I (((t : Nat) : Int))) rfl (Ru.move rfl) rfl ?_
          refine O.val (v := I ((((t + 1) : Nat) : Int))) rfl (Ru.congr (v := I ((((t : Nat) : Int) + 1))) (v' := I ((((t + 1) : Nat) : Int))) (Ru.add rfl rfl (by omega)) (I_congr (by first | omega | simp))) rfl ?_
          refine O.val (v := I ((((t + 1) : Nat) : Int))) rfl (Ru.assign rfl) rfl ?_
          refine O.nil ?_
          exact loopEnd (t + 1) (by (try dsimp only); omega) (Has.cons rfl (Has.cons rfl (Has.cons rfl (Has.cons (I_congr (by rw [lastMk_take hx12_2]; first | rw [if_pos c65] | rw [if_neg c65])) (Has.cons (I_congr (by first | rfl | omega | (simp; omega) | simp)) Has.nil))))) ⟨(by (try dsimp only); omega), (hM_l10.pick [0, 1, 2, 3] (by decide) rfl)⟩
        · refine C.skip ?_
          refine C.region ?_
          refine O.val (v := I (((t : Nat) : Int))) rfl (Ru.move rfl) rfl ?_
          refine O.val (v := I ((((t + 1) : Nat) : Int))) rfl (Ru.congr (v := I ((((t : Nat) : Int) + 1))) (v' := I ((((t + 1) : Nat) : Int))) (Ru.add rfl rfl (by omega)) (I_congr (by first | omega | simp))) rfl ?_
          refine O.val (v := I ((((t + 1) : Nat) : Int))) rfl (Ru.assign rfl) rfl ?_
          refine O.nil ?_
          exact loopEnd (t + 1) (by (try dsimp only); omega) (Has.cons rfl (Has.cons rfl (Has.cons rfl (Has.cons (I_congr (by rw [lastMk_take hx12_2]; first | rw [if_pos c65] | rw [if_neg c65])) (Has.cons (I_congr (by first | rfl | omega | (simp; omega) | simp)) Has.nil))))) ⟨(by (try dsimp only); omega), (hM_l10.pick [0, 1, 2, 3] (by decide) rfl)⟩
      · refine C.exit ?_
        refine C.seq ?_
        refine C.region ?_
        refine O.val (v := .slice (A13_1) ((l13_1).length) (c13_1)) rfl (Ru.move rfl) rfl ?_
        refine O.val (v := .slice (A13_1) ((l13_1).length) (c13_1)) rfl (Ru.assign rfl) rfl ?_
        refine O.nil ?_
        refine C.seq ?_
        refine C.seq ?_
        refine C.region ?_
        refine O.val (v := I (0)) rfl (Ru.assign rfl) rfl ?_
        refine O.nil ?_
        refine C.block ?_
        have hq1 : (l13_1 : List PairT) = runR l13_1 (l23_1.take 0) := (by simp [runR])
        have hMn1 : Mem w w_l10 [] [[⟨.slice (A15_2) (((repF l13_1 l23_1).getD []).length) (c15_2), 53, 2, (((repF l13_1 l23_1).getD []).length), ((repF l13_1 l23_1).getD []).flatMap encP⟩], [⟨.slice (A14_2) (((repF l13_1 l23_1).getD []).length) (c14_2), 53, 2, (((repF l13_1 l23_1).getD []).length), ((repF l13_1 l23_1).getD []).flatMap encP⟩], [⟨.slice (A13_1) ((runR l13_1 (l23_1.take 0)).length) (c13_1), 53, 2, ((runR l13_1 (l23_1.take 0)).length), (runR l13_1 (l23_1.take 0)).flatMap encP⟩], [⟨.slice (A23_1) ((l23_1).length) (c23_1), 34, 3, ((l23_1).length), (l23_1).flatMap encG⟩]] := hM_l10.relen 2 (n' := (runR l13_1 (l23_1.take 0)).length) (xs' := (runR l13_1 (l23_1.take 0)).flatMap encP) rfl (by first | rfl | exact congrArg List.length hq1 | (have hqq := congrArg List.length hq1; first | omega | (simp at hqq ⊢; omega)) | (simp; done) | (simp; omega)) (congrArg (fun z_ => (z_).flatMap encP) hq1) rfl
        refine C.loop (ι := Nat × (Option Addr) × Nat) (fun x_ => ([(4, .slice (A23_1) ((l23_1).length) (c23_1)), (5, .slice (A14_2) (((repF l13_1 l23_1).getD []).length) (c14_2)), (9, I (((lastMk l23_1 : Nat) : Int))), (11, .slice (x_.2.1) ((runR l13_1 (l23_1.take x_.1)).length) (x_.2.2)), (12, I (((x_.1 : Nat) : Int)))] : List (Nat × Value))) (fun x_ w_ => (x_.1 ≤ lastMk l23_1) ∧ (Mem w w_ [] [[⟨.slice (A15_2) (((repF l13_1 l23_1).getD []).length) (c15_2), 53, 2, (((repF l13_1 l23_1).getD []).length), ((repF l13_1 l23_1).getD []).flatMap encP⟩], [⟨.slice (A14_2) (((repF l13_1 l23_1).getD []).length) (c14_2), 53, 2, (((repF l13_1 l23_1).getD []).length), ((repF l13_1 l23_1).getD []).flatMap encP⟩], [⟨.slice (x_.2.1) ((runR l13_1 (l23_1.take x_.1)).length) (x_.2.2), 53, 2, ((runR l13_1 (l23_1.take x_.1)).length), (runR l13_1 (l23_1.take x_.1)).flatMap encP⟩], [⟨.slice (A23_1) ((l23_1).length) (c23_1), 34, 3, ((l23_1).length), (l23_1).flatMap encG⟩]])) (fun x_ => lastMk l23_1 - x_.1) (0, A13_1, c13_1) (Has.cons rfl (Has.cons rfl (Has.cons (I_congr (by rw [take_all (by omega)])) (Has.cons (sl_congr (by first | rfl | omega | (simp; done) | (simp; omega) | exact congrArg List.length hq1 | (simp [← hq1]; done) | (simp [← hq1]; omega))) (Has.cons (I_congr (by first | rfl | omega | (simp; omega) | simp)) Has.nil))))) ⟨(Nat.zero_le _), (hMn1.pick [0, 1, 2, 3] (by decide) rfl)⟩ (fun ⟨i, A3, c3⟩ σ w_l16 hI => ?_)
        try dsimp only at hI
        obtain ⟨hi0_l16, hM_l16⟩ := hI
        have hcl0_l16 := (hM_l16.cap 0 rfl).1
        have hcl1_l16 := (hM_l16.cap 1 rfl).1
        have hcl2_l16 := (hM_l16.cap 2 rfl).1
        have hcl3_l16 := (hM_l16.cap 3 rfl).1
        have hrl3 := run_len (l23_1.take i) l13_1
        rw [List.length_take] at hrl3
        have hra := run_asc (l23_1.take i) hasc
        refine C.seq ?_
        refine C.seq ?_
        refine C.region ?_
        refine O.val (v := I (((i : Nat) : Int))) rfl (Ru.move rfl) rfl ?_
        refine O.val (v := I (((lastMk l23_1 : Nat) : Int))) rfl (Ru.move rfl) rfl ?_
        refine O.val (v := .bool (decide (((i : Nat) : Int) < ((lastMk l23_1 : Nat) : Int)))) rfl (Ru.lss rfl rfl) rfl ?_
        refine O.nil ?_
        refine C.cond (p := ((i : Nat) : Int) < ((lastMk l23_1 : Nat) : Int)) rfl (fun c71 => ?_) (fun c71 => ?_)
        · have hig : i < l23_1.length := by have := lastMk_le l23_1; omega
          refine C.skip ?_
          refine C.seq ?_
          refine C.block ?_
          refine C.cut (ι := (List PairT) × (Option Addr) × Nat) (fun x_ => ([(4, .slice (A23_1) ((l23_1).length) (c23_1)), (5, .slice (A14_2) (((repF l13_1 l23_1).getD []).length) (c14_2)), (9, I (((lastMk l23_1 : Nat) : Int))), (11, .slice (x_.2.1) ((x_.1).length) (x_.2.2)), (12, I (((i : Nat) : Int)))] : List (Nat × Value))) (fun x_ w_ => (x_.1 = if (l23_1[i]'hig).kind = 1 then putP (runR l13_1 (l23_1.take i)) ⟨(l23_1[i]'hig).key, (l23_1[i]'hig).val⟩ else runR l13_1 (l23_1.take i)) ∧ (x_.1.length ≤ l13_1.length + i + 1) ∧ (asc (keysP x_.1) = true) ∧ (Mem w w_ [] [[⟨.slice (A15_2) (((repF l13_1 l23_1).getD []).length) (c15_2), 53, 2, (((repF l13_1 l23_1).getD []).length), ((repF l13_1 l23_1).getD []).flatMap encP⟩], [⟨.slice (A14_2) (((repF l13_1 l23_1).getD []).length) (c14_2), 53, 2, (((repF l13_1 l23_1).getD []).length), ((repF l13_1 l23_1).getD []).flatMap encP⟩], [⟨.slice (x_.2.1) ((x_.1).length) (x_.2.2), 53, 2, ((x_.1).length), (x_.1).flatMap encP⟩], [⟨.slice (A23_1) ((l23_1).length) (c23_1), 34, 3, ((l23_1).length), (l23_1).flatMap encG⟩]])) ?_ (fun ⟨L, A4, c4⟩ σ w_c79 hI => ?_)
          · refine C.seq ?_
            refine C.region ?_
            refine O.val (v := .slice (A23_1) ((l23_1).length) (c23_1)) rfl (Ru.move rfl) rfl ?_
            refine O.val (v := I (((i : Nat) : Int))) rfl (Ru.move rfl) rfl ?_
            have hx18_2 : i < (l23_1).length := (by first | omega | (simp; omega))
            refine O.val (v := .pointer (ofs (A23_1) (i * 3))) rfl (Ru.indexA (j := i) Try.underlying23 el34 rfl rfl (smf encG_len (hM_l16.rd 3 rfl) hx18_2 rfl) (by omega) (by first | omega | (simp; omega))) rfl ?_
            refine O.val (v := .pointer (ofs (A23_1) (i * 3 + 0))) rfl (Ru.fieldA fl34_0 rfl (smf encG_len (hM_l16.rd 3 rfl) hx18_2 rfl)) rfl ?_
            refine O.val rfl (Ru.load1 el3 rfl (ldf encG_len (hM_l16.rd 3 rfl) hx18_2 rfl)) rfl ?_
            refine O.val (v := .bool (decide (((l23_1)[i]'hx18_2).kind = 1))) rfl (Ru.eql rfl rfl) rfl ?_
            refine O.nil ?_
            refine C.cond (p := ((l23_1)[i]'hx18_2).kind = 1) rfl (fun c79 => ?_) (fun c79 => ?_)
            · refine C.any (f := 14) (ls := [false, false, false, false, false, false, false, false, false, false, false, false, false, false]) (fun w2 => Mem w w2 [] [[⟨.slice (A15_2) (((repF l13_1 l23_1).getD []).length) (c15_2), 53, 2, (((repF l13_1 l23_1).getD []).length), ((repF l13_1 l23_1).getD []).flatMap encP⟩], [⟨.slice (A14_2) (((repF l13_1 l23_1).getD []).length) (c14_2), 53, 2, (((repF l13_1 l23_1).getD []).length), ((repF l13_1 l23_1).getD []).flatMap encP⟩], [⟨.slice (A3) ((runR l13_1 (l23_1.take i)).length) (c3), 53, 2, ((runR l13_1 (l23_1.take i)).length), (runR l13_1 (l23_1.take i)).flatMap encP⟩], [⟨.slice (A23_1) ((l23_1).length) (c23_1), 34, 3, ((l23_1).length), (l23_1).flatMap encG⟩]]) mixed rfl rfl (fun w2 hw2 => Mem0.ext (hM_l16.pick [0, 1, 2, 3] (by decide) rfl) hw2) (fun w19a hE19a => ?_)
              have hM19a : Mem w w19a [] [[⟨.slice (A15_2) (((repF l13_1 l23_1).getD []).length) (c15_2), 53, 2, (((repF l13_1 l23_1).getD []).length), ((repF l13_1 l23_1).getD []).flatMap encP⟩], [⟨.slice (A14_2) (((repF l13_1 l23_1).getD []).length) (c14_2), 53, 2, (((repF l13_1 l23_1).getD []).length), ((repF l13_1 l23_1).getD []).flatMap encP⟩], [⟨.slice (A3) ((runR l13_1 (l23_1.take i)).length) (c3), 53, 2, ((runR l13_1 (l23_1.take i)).length), (runR l13_1 (l23_1.take i)).flatMap encP⟩], [⟨.slice (A23_1) ((l23_1).length) (c23_1), 34, 3, ((l23_1).length), (l23_1).flatMap encG⟩]] := Mem0.ext hM_l16 hE19a
              refine AO.val (v := .slice (A3) ((runR l13_1 (l23_1.take i)).length) (c3)) 0 (ls' := [true, false, false, false, false, false, false, false, false, false, false, false, false, false]) rfl (by kernel_rfl) rfl rfl (fun w2 hw2 => Ru.move rfl) rfl ?_
              refine AO.val (v := .slice (A23_1) ((l23_1).length) (c23_1)) 1 (ls' := [true, true, false, false, false, false, false, false, false, false, false, false, false, false]) rfl (by kernel_rfl) rfl rfl (fun w2 hw2 => Ru.move rfl) rfl ?_
              refine AO.val (v := I (((i : Nat) : Int))) 2 (ls' := [true, true, true, false, false, false, false, false, false, false, false, false, false, false]) rfl (by kernel_rfl) rfl rfl (fun w2 hw2 => Ru.move rfl) rfl ?_
              have hx19_3 : i < (l23_1).length := (by first | omega | (simp; omega))
              refine AO.val (v := .pointer (ofs (A23_1) (i * 3))) 3 (ls' := [true, true, true, true, false, false, false, false, false, false, false, false, false, false]) rfl (by kernel_rfl) rfl rfl (fun w2 hw2 => Ru.indexA (j := i) Try.underlying23 el34 rfl rfl (smf encG_len (hM19a.rd 3 rfl) hx19_3 rfl) (by omega) (by first | omega | (simp; omega))) rfl ?_
              refine AO.val (v := .pointer (ofs (A23_1) (i * 3 + 1))) 4 (ls' := [true, true, true, true, true, false, false, false, false, false, false, false, false, false]) rfl (by kernel_rfl) rfl rfl (fun w2 hw2 => Ru.fieldA fl34_1 rfl (smf encG_len (hM19a.rd 3 rfl) hx19_3 rfl)) rfl ?_
              refine AO.val (v := I (((l23_1)[i]'hx19_3).key)) 5 (ls' := [true, true, true, true, true, true, false, false, false, false, false, false, false, false]) rfl (by kernel_rfl) rfl rfl (fun w2 hw2 => Ru.load1 el3 rfl (ldf encG_len (hw2.rd 3 rfl) hx19_3 rfl)) rfl ?_
              refine AO.val (v := .slice (A23_1) ((l23_1).length) (c23_1)) 6 (ls' := [true, true, true, true, true, true, true, false, false, false, false, false, false, false]) rfl (by kernel_rfl) rfl rfl (fun w2 hw2 => Ru.move rfl) rfl ?_
              refine AO.val (v := I (((i : Nat) : Int))) 7 (ls' := [true, true, true, true, true, true, true, true, false, false, false, false, false, false]) rfl (by kernel_rfl) rfl rfl (fun w2 hw2 => Ru.move rfl) rfl ?_
              have hx19_8 : i < (l23_1).length := (by first | omega | (simp; omega))
              refine AO.val (v := .pointer (ofs (A23_1) (i * 3))) 8 (ls' := [true, true, true, true, true, true, true, true, true, false, false, false, false, false]) rfl (by kernel_rfl) rfl rfl (fun w2 hw2 => Ru.indexA (j := i) Try.underlying23 el34 rfl rfl (smf encG_len (hM19a.rd 3 rfl) hx19_8 rfl) (by omega) (by first | omega | (simp; omega))) rfl ?_
              refine AO.val (v := .pointer (ofs (A23_1) (i * 3 + 2))) 9 (ls' := [true, true, true, true, true, true, true, true, true, true, false, false, false, false]) rfl (by kernel_rfl) rfl rfl (fun w2 hw2 => Ru.fieldA fl34_2 rfl (smf encG_len (hM19a.rd 3 rfl) hx19_8 rfl)) rfl ?_
              refine AO.val (v := I (((l23_1)[i]'hx19_8).val)) 10 (ls' := [true, true, true, true, true, true, true, true, true, true, true, false, false, false]) rfl (by kernel_rfl) rfl rfl (fun w2 hw2 => Ru.load1 el3 rfl (ldf encG_len (hw2.rd 3 rfl) hx19_8 rfl)) rfl ?_
              refine AO.val (v := .agg #[I (((l23_1)[i]'hx19_3).key), I (((l23_1)[i]'hx19_8).val)]) 11 (ls' := [true, true, true, true, true, true, true, true, true, true, true, true, false, false]) rfl (by kernel_rfl) rfl rfl (fun w2 hw2 => Ru.build of53 rfl rfl rfl) rfl ?_
              refine AO.one 12 (by kernel_rfl) ?_
              refine step1 (ls' := [true, true, true, true, true, true, true, true, true, true, true, true, true, false]) rfl rfl ?_
              refine O.callg [.slice (A3) ((runR l13_1 (l23_1.take i)).length) (c3), .agg #[I (((l23_1)[i]'hx19_3).key), I (((l23_1)[i]'hx19_8).val)]] rfl en42 rfl rfl (lwith_fn A3 c3 (runR l13_1 (l23_1.take i)) (⟨((l23_1)[i]'hx19_3).key, ((l23_1)[i]'hx19_8).val⟩ : PairT) w19a (hM19a.rd 2 rfl) (by omega) (by exact hra)) ?_
              rintro _ w19_12 ⟨A119_12, c119_12, rfl, hR19_12⟩
              have hM19_12 : Mem w w19_12 [] [[⟨.slice (A119_12) ((putP (runR l13_1 (l23_1.take i)) (⟨((l23_1)[i]'hx19_3).key, ((l23_1)[i]'hx19_8).val⟩ : PairT)).length) (c119_12), 53, 2, ((putP (runR l13_1 (l23_1.take i)) (⟨((l23_1)[i]'hx19_3).key, ((l23_1)[i]'hx19_8).val⟩ : PairT)).length), (putP (runR l13_1 (l23_1.take i)) (⟨((l23_1)[i]'hx19_3).key, ((l23_1)[i]'hx19_8).val⟩ : PairT)).flatMap encP⟩], [⟨.slice (A15_2) (((repF l13_1 l23_1).getD []).length) (c15_2), 53, 2, (((repF l13_1 l23_1).getD []).length), ((repF l13_1 l23_1).getD []).flatMap encP⟩], [⟨.slice (A14_2) (((repF l13_1 l23_1).getD []).length) (c14_2), 53, 2, (((repF l13_1 l23_1).getD []).length), ((repF l13_1 l23_1).getD []).flatMap encP⟩], [⟨.slice (A3) ((runR l13_1 (l23_1.take i)).length) (c3), 53, 2, ((runR l13_1 (l23_1.take i)).length), (runR l13_1 (l23_1.take i)).flatMap encP⟩], [⟨.slice (A23_1) ((l23_1).length) (c23_1), 34, 3, ((l23_1).length), (l23_1).flatMap encG⟩]] := Mem.call (Ma := []) hM19a hR19_12 rfl
              have hcr19_12_0 := (hM19_12.cap 0 rfl).1
              refine O.stop (hM19_12.pick [1, 2, 3, 4] (by decide) rfl) ?_
              refine AO.val (v := .slice (A119_12) ((putP (runR l13_1 (l23_1.take i)) (⟨((l23_1)[i]'hx19_3).key, ((l23_1)[i]'hx19_8).val⟩ : PairT)).length) (c119_12)) 13 (ls' := [true, true, true, true, true, true, true, true, true, true, true, true, true, true]) rfl (by kernel_rfl) rfl rfl (fun w2 hw2 => Ru.assign rfl) rfl ?_
              refine AO.nil (by kernel_rfl) ?_
              have hq2 : (putP (runR l13_1 (l23_1.take i)) (⟨((l23_1)[i]'hx19_3).key, ((l23_1)[i]'hx19_8).val⟩ : PairT) : List PairT) = (putP (runR l13_1 (l23_1.take i)) (⟨((l23_1)[i]'hx19_3).key, ((l23_1)[i]'hx19_8).val⟩ : PairT)) := (by first | rfl | simp | (simp; omega))
              have hMn2 : Mem w w19_12 [] [[⟨.slice (A119_12) (((putP (runR l13_1 (l23_1.take i)) (⟨((l23_1)[i]'hx19_3).key, ((l23_1)[i]'hx19_8).val⟩ : PairT))).length) (c119_12), 53, 2, (((putP (runR l13_1 (l23_1.take i)) (⟨((l23_1)[i]'hx19_3).key, ((l23_1)[i]'hx19_8).val⟩ : PairT))).length), ((putP (runR l13_1 (l23_1.take i)) (⟨((l23_1)[i]'hx19_3).key, ((l23_1)[i]'hx19_8).val⟩ : PairT))).flatMap encP⟩], [⟨.slice (A15_2) (((repF l13_1 l23_1).getD []).length) (c15_2), 53, 2, (((repF l13_1 l23_1).getD []).length), ((repF l13_1 l23_1).getD []).flatMap encP⟩], [⟨.slice (A14_2) (((repF l13_1 l23_1).getD []).length) (c14_2), 53, 2, (((repF l13_1 l23_1).getD []).length), ((repF l13_1 l23_1).getD []).flatMap encP⟩], [⟨.slice (A3) ((runR l13_1 (l23_1.take i)).length) (c3), 53, 2, ((runR l13_1 (l23_1.take i)).length), (runR l13_1 (l23_1.take i)).flatMap encP⟩], [⟨.slice (A23_1) ((l23_1).length) (c23_1), 34, 3, ((l23_1).length), (l23_1).flatMap encG⟩]] := hM19_12.relen 0 (n' := ((putP (runR l13_1 (l23_1.take i)) (⟨((l23_1)[i]'hx19_3).key, ((l23_1)[i]'hx19_8).val⟩ : PairT))).length) (xs' := ((putP (runR l13_1 (l23_1.take i)) (⟨((l23_1)[i]'hx19_3).key, ((l23_1)[i]'hx19_8).val⟩ : PairT))).flatMap encP) rfl (by first | rfl | exact congrArg List.length hq2 | (have hqq := congrArg List.length hq2; first | omega | (simp at hqq ⊢; omega)) | (simp; done) | (simp; omega)) (congrArg (fun z_ => (z_).flatMap encP) hq2) rfl
              exact cutEnd (putP (runR l13_1 (l23_1.take i)) (⟨((l23_1)[i]'hx19_3).key, ((l23_1)[i]'hx19_8).val⟩ : PairT), A119_12, c119_12) (Has.cons rfl (Has.cons rfl (Has.cons rfl (Has.cons rfl (Has.cons rfl Has.nil))))) ⟨(by (try dsimp only); rw [if_pos c79]), (by (try dsimp only); have := put_len (l := runR l13_1 (l23_1.take i)) (x := ⟨(l23_1[i]'hig).key, (l23_1[i]'hig).val⟩); omega), (put_keys_pair hra _), (hMn2.pick [1, 2, 0, 4] (by decide) rfl)⟩
            · refine C.skip ?_
              have hq3 : (runR l13_1 (l23_1.take i) : List PairT) = (runR l13_1 (l23_1.take i)) := (by first | rfl | simp | (simp; omega))
              have hMn3 : Mem w w_l16 [] [[⟨.slice (A15_2) (((repF l13_1 l23_1).getD []).length) (c15_2), 53, 2, (((repF l13_1 l23_1).getD []).length), ((repF l13_1 l23_1).getD []).flatMap encP⟩], [⟨.slice (A14_2) (((repF l13_1 l23_1).getD []).length) (c14_2), 53, 2, (((repF l13_1 l23_1).getD []).length), ((repF l13_1 l23_1).getD []).flatMap encP⟩], [⟨.slice (A3) (((runR l13_1 (l23_1.take i))).length) (c3), 53, 2, (((runR l13_1 (l23_1.take i))).length), ((runR l13_1 (l23_1.take i))).flatMap encP⟩], [⟨.slice (A23_1) ((l23_1).length) (c23_1), 34, 3, ((l23_1).length), (l23_1).flatMap encG⟩]] := hM_l16.relen 2 (n' := ((runR l13_1 (l23_1.take i))).length) (xs' := ((runR l13_1 (l23_1.take i))).flatMap encP) rfl (by first | rfl | exact congrArg List.length hq3 | (have hqq := congrArg List.length hq3; first | omega | (simp at hqq ⊢; omega)) | (simp; done) | (simp; omega)) (congrArg (fun z_ => (z_).flatMap encP) hq3) rfl
              exact cutEnd (runR l13_1 (l23_1.take i), A3, c3) (Has.cons rfl (Has.cons rfl (Has.cons rfl (Has.cons rfl (Has.cons rfl Has.nil))))) ⟨(by (try dsimp only); rw [if_neg c79]), (by (try dsimp only); omega), hra, (hMn3.pick [0, 1, 2, 3] (by decide) rfl)⟩
          · try dsimp only at hI
            obtain ⟨hi0_c79, hi1_c79, hi2_c79, hM_c79⟩ := hI
            have hcl0_c79 := (hM_c79.cap 0 rfl).1
            have hcl1_c79 := (hM_c79.cap 1 rfl).1
            have hcl2_c79 := (hM_c79.cap 2 rfl).1
            have hcl3_c79 := (hM_c79.cap 3 rfl).1
            refine C.seq ?_
            refine C.region ?_
            refine O.val (v := .slice (A23_1) ((l23_1).length) (c23_1)) rfl (Ru.move rfl) rfl ?_
            refine O.val (v := I (((i : Nat) : Int))) rfl (Ru.move rfl) rfl ?_
            have hx20_2 : i < (l23_1).length := (by first | omega | (simp; omega))
            refine O.val (v := .pointer (ofs (A23_1) (i * 3))) rfl (Ru.indexA (j := i) Try.underlying23 el34 rfl rfl (smf encG_len (hM_c79.rd 3 rfl) hx20_2 rfl) (by omega) (by first | omega | (simp; omega))) rfl ?_
            refine O.val (v := .pointer (ofs (A23_1) (i * 3 + 0))) rfl (Ru.fieldA fl34_0 rfl (smf encG_len (hM_c79.rd 3 rfl) hx20_2 rfl)) rfl ?_
            refine O.val rfl (Ru.load1 el3 rfl (ldf encG_len (hM_c79.rd 3 rfl) hx20_2 rfl)) rfl ?_
            refine O.val (v := .bool (decide (((l23_1)[i]'hx20_2).kind = 2))) rfl (Ru.eql rfl rfl) rfl ?_
            refine O.nil ?_
            refine C.cond (p := ((l23_1)[i]'hx20_2).kind = 2) rfl (fun c98 => ?_) (fun c98 => ?_)
            · refine C.region ?_
              refine O.val (v := .slice (A4) ((L).length) (c4)) rfl (Ru.move rfl) rfl ?_
              refine O.val (v := .slice (A23_1) ((l23_1).length) (c23_1)) rfl (Ru.move rfl) rfl ?_
              refine O.val (v := I (((i : Nat) : Int))) rfl (Ru.move rfl) rfl ?_
              have hx21_3 : i < (l23_1).length := (by first | omega | (simp; omega))
              refine O.val (v := .pointer (ofs (A23_1) (i * 3))) rfl (Ru.indexA (j := i) Try.underlying23 el34 rfl rfl (smf encG_len (hM_c79.rd 3 rfl) hx21_3 rfl) (by omega) (by first | omega | (simp; omega))) rfl ?_
              refine O.val (v := .pointer (ofs (A23_1) (i * 3 + 1))) rfl (Ru.fieldA fl34_1 rfl (smf encG_len (hM_c79.rd 3 rfl) hx21_3 rfl)) rfl ?_
              refine O.val rfl (Ru.load1 el3 rfl (ldf encG_len (hM_c79.rd 3 rfl) hx21_3 rfl)) rfl ?_
              refine O.callg [.slice (A4) ((L).length) (c4), I (((l23_1)[i]'hx21_3).key)] rfl en43 rfl rfl (lwithout_fn A4 c4 L (((l23_1)[i]'hx21_3).key) w_c79 (hM_c79.rd 2 rfl) (by omega) (by exact hi2_c79)) ?_
              rintro _ w21_6 ⟨A121_6, c121_6, rfl, hR21_6⟩
              have hM21_6 : Mem w w21_6 [] [[⟨.slice (A121_6) ((dropP L (((l23_1)[i]'hx21_3).key)).length) (c121_6), 53, 2, ((dropP L (((l23_1)[i]'hx21_3).key)).length), (dropP L (((l23_1)[i]'hx21_3).key)).flatMap encP⟩], [⟨.slice (A15_2) (((repF l13_1 l23_1).getD []).length) (c15_2), 53, 2, (((repF l13_1 l23_1).getD []).length), ((repF l13_1 l23_1).getD []).flatMap encP⟩], [⟨.slice (A14_2) (((repF l13_1 l23_1).getD []).length) (c14_2), 53, 2, (((repF l13_1 l23_1).getD []).length), ((repF l13_1 l23_1).getD []).flatMap encP⟩], [⟨.slice (A4) ((L).length) (c4), 53, 2, ((L).length), (L).flatMap encP⟩], [⟨.slice (A23_1) ((l23_1).length) (c23_1), 34, 3, ((l23_1).length), (l23_1).flatMap encG⟩]] := Mem.call (Ma := []) hM_c79 hR21_6 rfl
              have hcr21_6_0 := (hM21_6.cap 0 rfl).1
              refine O.val (v := .slice (A121_6) ((dropP L (((l23_1)[i]'hx21_3).key)).length) (c121_6)) rfl (Ru.assign rfl) rfl ?_
              refine O.nil ?_
              refine C.region ?_
              refine O.val (v := I (((i : Nat) : Int))) rfl (Ru.move rfl) rfl ?_
              refine O.val (v := I ((((i + 1) : Nat) : Int))) rfl (Ru.congr (v := I ((((i : Nat) : Int) + 1))) (v' := I ((((i + 1) : Nat) : Int))) (Ru.add rfl rfl (by omega)) (I_congr (by first | omega | simp))) rfl ?_
              refine O.val (v := I ((((i + 1) : Nat) : Int))) rfl (Ru.assign rfl) rfl ?_
              refine O.nil ?_
              have hq4 : (dropP L (((l23_1)[i]'hx21_3).key) : List PairT) = runR l13_1 (l23_1.take (i + 1)) := (by rw [runR_take hig, apply2 (by simpa using c98), hi0_c79, if_neg (by have := c98; omega)])
              have hMn4 : Mem w w21_6 [] [[⟨.slice (A121_6) ((runR l13_1 (l23_1.take (i + 1))).length) (c121_6), 53, 2, ((runR l13_1 (l23_1.take (i + 1))).length), (runR l13_1 (l23_1.take (i + 1))).flatMap encP⟩], [⟨.slice (A15_2) (((repF l13_1 l23_1).getD []).length) (c15_2), 53, 2, (((repF l13_1 l23_1).getD []).length), ((repF l13_1 l23_1).getD []).flatMap encP⟩], [⟨.slice (A14_2) (((repF l13_1 l23_1).getD []).length) (c14_2), 53, 2, (((repF l13_1 l23_1).getD []).length), ((repF l13_1 l23_1).getD []).flatMap encP⟩], [⟨.slice (A4) ((L).length) (c4), 53, 2, ((L).length), (L).flatMap encP⟩], [⟨.slice (A23_1) ((l23_1).length) (c23_1), 34, 3, ((l23_1).length), (l23_1).flatMap encG⟩]] := hM21_6.relen 0 (n' := (runR l13_1 (l23_1.take (i + 1))).length) (xs' := (runR l13_1 (l23_1.take (i + 1))).flatMap encP) rfl (by first | rfl | exact congrArg List.length hq4 | (have hqq := congrArg List.length hq4; first | omega | (simp at hqq ⊢; omega)) | (simp; done) | (simp; omega)) (congrArg (fun z_ => (z_).flatMap encP) hq4) rfl
              simp only [blkQ]
              exact loopEnd (i + 1, A121_6, c121_6) (by (try dsimp only); omega) (Has.cons rfl (Has.cons rfl (Has.cons rfl (Has.cons (sl_congr (by first | rfl | omega | (simp; done) | (simp; omega) | exact congrArg List.length hq4 | (simp [← hq4]; done) | (simp [← hq4]; omega))) (Has.cons (I_congr (by first | rfl | omega | (simp; omega) | simp)) Has.nil))))) ⟨(by (try dsimp only); omega), (hMn4.pick [1, 2, 0, 4] (by decide) rfl)⟩
            · refine C.skip ?_
              refine C.region ?_
              refine O.val (v := I (((i : Nat) : Int))) rfl (Ru.move rfl) rfl ?_
              refine O.val (v := I ((((i + 1) : Nat) : Int))) rfl (Ru.congr (v := I ((((i : Nat) : Int) + 1))) (v' := I ((((i + 1) : Nat) : Int))) (Ru.add rfl rfl (by omega)) (I_congr (by first | omega | simp))) rfl ?_
              refine O.val (v := I ((((i + 1) : Nat) : Int))) rfl (Ru.assign rfl) rfl ?_
              refine O.nil ?_
              have hq5 : (L : List PairT) = runR l13_1 (l23_1.take (i + 1)) := (by rw [runR_take hig]; exact rep_s1 hi0_c79 (by simpa using c98))
              have hMn5 : Mem w w_c79 [] [[⟨.slice (A15_2) (((repF l13_1 l23_1).getD []).length) (c15_2), 53, 2, (((repF l13_1 l23_1).getD []).length), ((repF l13_1 l23_1).getD []).flatMap encP⟩], [⟨.slice (A14_2) (((repF l13_1 l23_1).getD []).length) (c14_2), 53, 2, (((repF l13_1 l23_1).getD []).length), ((repF l13_1 l23_1).getD []).flatMap encP⟩], [⟨.slice (A4) ((runR l13_1 (l23_1.take (i + 1))).length) (c4), 53, 2, ((runR l13_1 (l23_1.take (i + 1))).length), (runR l13_1 (l23_1.take (i + 1))).flatMap encP⟩], [⟨.slice (A23_1) ((l23_1).length) (c23_1), 34, 3, ((l23_1).length), (l23_1).flatMap encG⟩]] := hM_c79.relen 2 (n' := (runR l13_1 (l23_1.take (i + 1))).length) (xs' := (runR l13_1 (l23_1.take (i + 1))).flatMap encP) rfl (by first | rfl | exact congrArg List.length hq5 | (have hqq := congrArg List.length hq5; first | omega | (simp at hqq ⊢; omega)) | (simp; done) | (simp; omega)) (congrArg (fun z_ => (z_).flatMap encP) hq5) rfl
              simp only [blkQ]
              exact loopEnd (i + 1, A4, c4) (by (try dsimp only); omega) (Has.cons rfl (Has.cons rfl (Has.cons rfl (Has.cons (sl_congr (by first | rfl | omega | (simp; done) | (simp; omega) | exact congrArg List.length hq5 | (simp [← hq5]; done) | (simp [← hq5]; omega))) (Has.cons (I_congr (by first | rfl | omega | (simp; omega) | simp)) Has.nil))))) ⟨(by (try dsimp only); omega), (hMn5.pick [0, 1, 2, 3] (by decide) rfl)⟩
        · refine C.exit ?_
          refine C.seq ?_
          have hiq : l23_1.take i = l23_1.take (lastMk l23_1) := by rw [show i = lastMk l23_1 by omega]
          refine C.region ?_
          refine O.val (v := .slice (A14_2) (((repF l13_1 l23_1).getD []).length) (c14_2)) rfl (Ru.move rfl) rfl ?_
          refine O.val (v := .slice (A3) ((runR l13_1 (l23_1.take i)).length) (c3)) rfl (Ru.move rfl) rfl ?_
          refine O.callg [.slice (A14_2) (((repF l13_1 l23_1).getD []).length) (c14_2), .slice (A3) ((runR l13_1 (l23_1.take i)).length) (c3)] rfl en41 rfl rfl (equalPairs_fn A14_2 c14_2 ((repF l13_1 l23_1).getD []) A3 c3 (runR l13_1 (l23_1.take i)) w_l16 (hM_l16.rd 1 rfl) (hM_l16.rd 2 rfl) (by omega)) ?_
          rintro _ w22_2 ⟨rfl, hR22_2⟩
          have hM22_2 : Mem w w22_2 [] [[⟨.slice (A15_2) (((repF l13_1 l23_1).getD []).length) (c15_2), 53, 2, (((repF l13_1 l23_1).getD []).length), ((repF l13_1 l23_1).getD []).flatMap encP⟩], [⟨.slice (A14_2) (((repF l13_1 l23_1).getD []).length) (c14_2), 53, 2, (((repF l13_1 l23_1).getD []).length), ((repF l13_1 l23_1).getD []).flatMap encP⟩], [⟨.slice (A3) ((runR l13_1 (l23_1.take i)).length) (c3), 53, 2, ((runR l13_1 (l23_1.take i)).length), (runR l13_1 (l23_1.take i)).flatMap encP⟩], [⟨.slice (A23_1) ((l23_1).length) (c23_1), 34, 3, ((l23_1).length), (l23_1).flatMap encG⟩]] := Mem.call (Ma := []) hM_l16 hR22_2 rfl
          refine O.val (v := .bool (decide (((repF l13_1 l23_1).getD []) = (runR l13_1 (l23_1.take i))))) rfl (Ru.move rfl) rfl ?_
          refine O.part 109 (decide (((repF l13_1 l23_1).getD []) = (runR l13_1 (l23_1.take i)))) rfl (fun g109 => ?_) (fun g109 => ?_)
          · refine O.val (v := .slice (A14_2) (((repF l13_1 l23_1).getD []).length) (c14_2)) rfl (Ru.move rfl) rfl ?_
            refine O.callg [.slice (A14_2) (((repF l13_1 l23_1).getD []).length) (c14_2)] rfl en33 rfl rfl (ValidRow_fn A14_2 c14_2 ((repF l13_1 l23_1).getD []) w22_2 (hM22_2.rd 1 rfl) (by first | omega | assumption | (simp; omega) | simp | (intros; omega))) ?_
            rintro _ w22_5 ⟨rfl, hR22_5⟩
            have hM22_5 : Mem w w22_5 [] [[⟨.slice (A15_2) (((repF l13_1 l23_1).getD []).length) (c15_2), 53, 2, (((repF l13_1 l23_1).getD []).length), ((repF l13_1 l23_1).getD []).flatMap encP⟩], [⟨.slice (A14_2) (((repF l13_1 l23_1).getD []).length) (c14_2), 53, 2, (((repF l13_1 l23_1).getD []).length), ((repF l13_1 l23_1).getD []).flatMap encP⟩], [⟨.slice (A3) ((runR l13_1 (l23_1.take i)).length) (c3), 53, 2, ((runR l13_1 (l23_1.take i)).length), (runR l13_1 (l23_1.take i)).flatMap encP⟩], [⟨.slice (A23_1) ((l23_1).length) (c23_1), 34, 3, ((l23_1).length), (l23_1).flatMap encG⟩]] := Mem.call (Ma := []) hM22_2 hR22_5 rfl
            refine O.val (v := .bool (validR ((repF l13_1 l23_1).getD []))) rfl (Ru.pickT rfl rfl) rfl ?_
            refine O.val (v := .bool (validR ((repF l13_1 l23_1).getD []))) rfl (Ru.assign rfl) rfl ?_
            refine O.nil ?_
            refine C.ret ?_
            refine P1 (v := .bool (validR ((repF l13_1 l23_1).getD []))) rfl ?_
            exact ⟨(by first | rfl | (rw [hvo]; done) | exact absurd (hrv.trans (by rw [hiq])) (of_decide_eq_false g109)), (Mem.none hM22_5)⟩
          · refine O.pass rfl rfl rfl rfl rfl ?_
            refine O.pass rfl rfl rfl rfl rfl ?_
            refine O.val (v := .bool (false)) rfl (Ru.pickF rfl rfl) rfl ?_
            refine O.val (v := .bool (false)) rfl (Ru.assign rfl) rfl ?_
            refine O.nil ?_
            refine C.ret ?_
            refine P1 (v := .bool (false)) rfl ?_
            exact ⟨(by first | rfl | (rw [hvo]; done) | exact absurd (hrv.trans (by rw [hiq])) (of_decide_eq_false g109)), (Mem.none hM22_2)⟩
end Go.Proofs.Ytgflcaeibbnkcaa
namespace Go.Proofs.Ytgflcaeibbnkcaa.fnReplayLog
open Go.ChangeShapes Go.WideShapes Go.ChangeAt Go.RowKit Go.Px
open Go.ChangeMaps (open_string shut_string)
set_option linter.unusedVariables false

theorem own : ownKnob Try.prog.godebug = none := by kernel_rfl
theorem laidOut : laidOutB Try.prog = true := by kernel_rfl

set_option maxRecDepth 100000 in
theorem lifted (os : Os) (started : os.Started) (H : Type) (enc : TypeId × Value → H) :
    ReturnsInHanded {} Try.checked os 16 .any (Rows.fnReplayLogSpec.pre6 enc Try.prog Try.f16 Rows.fnReplayLogRow.domain false) (Rows.fnReplayLogSpec.post enc Try.prog Try.f16 false true false false) := by
  refine returnsInHanded_of_change (C := Try.checked) own started (by kernel_rfl) Try.func16
    (ChangeSpec.witness6 (enc := enc) (C := Try.checked) false ⟨#[], #[.slice none 0 0], []⟩ 8 (by kernel_rfl) (by kernel_rfl) (by kernel_rfl) (by kernel_rfl)) ?_
  intro W base args ds gs before hval0 hW hcnd _
  have hval : ∀ (j : Nat) t v, Try.f16.params[j]? = some t → args[j]? = some v → Value.okWide Try.prog W .any base t v := hval0
  have hW' := hW
  obtain ⟨p, q, hA0, hV, rfl, hfz, hnd⟩ := hW
  have hA : DataW.TrodAll enc Try.prog W 0 (fun _ => true) true Try.f16.params.toList args.toList ds p := hA0
  rw [Try.params16] at hA hval
  obtain ⟨v0, vs0, d0, ds0, p0, q0, hargs, rfl, rfl, h0, r0⟩ := trodAll_cons hA
  obtain ⟨rfl, rfl, rfl⟩ := trodAll_nil r0
  obtain rfl : args = #[v0] := by cases args; simp_all
  obtain ⟨rfl, rfl⟩ := trodVars_none hV
  have k0 := h0
  have lt0 : ∀ x ∈ p0, x.block < W.heap.size := by obtain ⟨m, hm⟩ := k0; exact DataW.trod_lt m _ _ _ hm
  obtain ⟨a0, len0, cap0, rfl⟩ := okWide_slice Try.underlying22 (hval 0 22 v0 rfl rfl)
  have kk0 := k0
  obtain ⟨fuel0, hf0⟩ := kk0
  obtain ⟨z0, rfl, hz0, hc0, hw0, hRd0⟩ := slice_in (α := UInt8) (f := fun a : UInt8 => [byteV a]) (c := 1) Try.underlying22 (by kernel_rfl) (fun _ => rfl) (byte_el Try.underlying5) hf0
  rw [flat_one] at hRd0
  clear hA0 hval0
  refine (FnReplayLog_fn a0 cap0 z0 W hRd0 hz0 hc0).out.mono fun e W' ⟨v, he, hv, hg⟩ => ?_
  subst he hv
  have bel : Below W.heap.size W W' := ⟨hg.os, hg.tape, hg.output, hg.size, fun k hk => hg.block k hk (by simp)⟩
  exact ⟨_, rfl, _, _, _, [], _, [], hW', trodAll_mk1 (shut_bool Try.underlying4 _), (trodAll_cons_mk (Below.trod laidOut (by kernel_rfl) (of_decide_eq_true (by kernel_rfl)) k0 bel lt0) trodAll_mk0), rfl, bel.frame _, fun h => by cases h⟩

theorem named_ : Try.prog.funcNamed Rows.fnReplayLogRow.func = some 16 := by kernel_rfl
theorem closed : joinedFacts Try.prog 16 Try.f16 Rows.fnReplayLogSpec Rows.fnReplayLogRow = true := by
  unfold joinedFacts
  rw [enter_, lifts_, made_]
  kernel_rfl
theorem inst_ : Try.f16.isInstance Try.prog Rows.fnReplayLogRow.origin Rows.fnReplayLogRow.targs := of_decide_eq_true (by kernel_rfl)
theorem wrap_ : Try.f16.isWrapper Try.prog Rows.fnReplayLogRow.wrapper Rows.fnReplayLogRow.mainSum := by
  unfold Func.isWrapper
  rw [if_neg (by decide +kernel)]
  exact ⟨rfl, rfl⟩
theorem over : Rows.fnReplayLogRow.holds Try.pinned (OpenSpec.ofChange Rows.fnReplayLogSpec) :=
  OpenClaim.holds_of_wide 16 Try.f16 rfl rfl rfl rfl rfl rfl rfl ⟨rfl, rfl, rfl, rfl, rfl⟩ rfl rfl rfl rfl rfl named_ Try.func16 closed inst_ wrap_
    (fun os started H enc _ => lifted os started H enc)
theorem proved : Rows.FnReplayLogSaid := over
end Go.Proofs.Ytgflcaeibbnkcaa.fnReplayLog
