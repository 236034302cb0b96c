/- The statement Rows.FnShortLogKeysSaid: the Go function laws.FnShortLogKeys returns true for every input, and each argument reads afterwards as it read before. No conditions. -/
import Derived.Test.YtgflcaeibbnkcaaRows
import Derived.Test.YtgflcaeibbnkcaaPxO
import Derived.Test.YtgflcaeibbnkcaaLI
import Derived.Test.YtgflcaeibbnkcaaH0
import Derived.WalkKit
import Derived.ProofKit
import Derived.OpenShut
import Derived.ShutString
import Derived.ChangeOld
import Derived.SliceStrings
import Derived.Deep.Slices
import Derived.Deep.Fields
import Derived.ChangeSame
import Derived.Below
set_option linter.unusedVariables false
set_option linter.unusedSimpArgs false
namespace Go.Proofs.Ytgflcaeibbnkcaa
open Go.Px
set_option linter.unusedVariables false
theorem FnShortLogKeys_fn (A : Option Addr) (c : Nat) (l : List UInt8) (w : World) (hA : Rd w A ((l).map byteV)) (hl : l.length ≤ 9223372036854775807) (hc : l.length ≤ c) :
    Does Try.prog 5 [.slice (A) ((l).length) (c)] w (fun v w1 => v = .bool (true) ∧ Mem w w1 [] []) := by
  have hM : Mem w w [] [] := Mem.refl
  refine Does.enter1 Try.func5 rfl Try.results5 Try.ntmps5 rfl ?_
  refine C.seq ?_
  refine C.region ?_
  refine O.val (v := .bool (false)) rfl (Ru.assign rfl) rfl ?_
  refine O.nil ?_
  refine C.seq ?_
  refine C.seq ?_
  refine C.region ?_
  refine O.val (v := .slice (A) ((l).length) (c)) rfl (Ru.move rfl) rfl ?_
  refine O.val (v := I ((((l).length : Nat) : Int))) rfl (Ru.blenSlice Try.underlying22 rfl) rfl ?_
  refine O.val (v := .bool (decide ((((l).length : Nat) : Int) > 1048576))) rfl (Ru.gtr rfl rfl) rfl ?_
  refine O.nil ?_
  refine C.cond (p := (((l).length : Nat) : Int) > 1048576) rfl (fun c9 => ?_) (fun c9 => ?_)
  · refine C.seq ?_
    refine C.region ?_
    refine O.val (v := .bool (true)) rfl (Ru.assign rfl) rfl ?_
    refine O.nil ?_
    refine C.ret ?_
    refine P1 (v := .bool (true)) rfl ?_
    exact ⟨rfl, (Mem.none hM)⟩
  · refine C.skip ?_
    refine C.seq ?_
    refine C.region ?_
    refine O.val (v := .slice (A) ((l).length) (c)) rfl (Ru.move rfl) rfl ?_
    refine O.callg [.slice (A) ((l).length) (c)] rfl en24 rfl rfl (DrawShortLog_fn A c l w (hA.at hM) (by first | omega | assumption | (simp; omega) | simp | (intros; omega)) (by first | omega | assumption | (simp; omega) | simp | (intros; omega))) ?_
    rintro _ w3_1 ⟨l13_1, A13_1, c13_1, rfl, hl3_1, hR3_1⟩
    have hM3_1 : Mem w w3_1 [] [[⟨.slice (A13_1) ((l13_1).length) (c13_1), 34, 3, ((l13_1).length), (l13_1).flatMap encG⟩]] := Mem.call (Ma := []) hM hR3_1 rfl
    have hcr3_1_0 := (hM3_1.cap 0 rfl).1
    refine O.val (v := .slice (A13_1) ((l13_1).length) (c13_1)) rfl (Ru.assign rfl) rfl ?_
    refine O.nil ?_
    refine C.seq ?_
    refine C.region ?_
    refine O.val (v := .slice (A13_1) ((l13_1).length) (c13_1)) rfl (Ru.move rfl) rfl ?_
    refine O.callg [.slice (A13_1) ((l13_1).length) (c13_1)] rfl en25 rfl rfl (ShortLog_fn A13_1 c13_1 l13_1 w3_1 (hM3_1.rd 0 rfl) (by first | omega | assumption | (simp; omega) | simp | (intros; omega)) (by first | omega | assumption | (simp; omega) | simp | (intros; omega))) ?_
    rintro _ w4_1 ⟨A14_1, c14_1, rfl, hR4_1⟩
    have hM4_1 : Mem w w4_1 [] [[⟨.slice (A14_1) ((shF l13_1).length) (c14_1), 34, 3, ((shF l13_1).length), (shF l13_1).flatMap encG⟩], [⟨.slice (A13_1) ((l13_1).length) (c13_1), 34, 3, ((l13_1).length), (l13_1).flatMap encG⟩]] := Mem.call (Ma := []) hM3_1 hR4_1 rfl
    have hcr4_1_0 := (hM4_1.cap 0 rfl).1
    have hsl := shF_len (log := l13_1)
    refine O.val (v := .slice (A14_1) ((shF l13_1).length) (c14_1)) rfl (Ru.assign rfl) rfl ?_
    refine O.nil ?_
    refine C.seq ?_
    refine C.seq ?_
    refine C.region ?_
    refine O.val (v := .slice (A14_1) ((shF l13_1).length) (c14_1)) rfl (Ru.move rfl) rfl ?_
    refine O.val (v := .slice (A13_1) ((l13_1).length) (c13_1)) rfl (Ru.move rfl) rfl ?_
    refine O.callg [.slice (A13_1) ((l13_1).length) (c13_1)] rfl en27 rfl rfl (sShortLog_fn A13_1 c13_1 l13_1 w4_1 (hM4_1.rd 1 rfl) (by first | omega | assumption | (simp; omega) | simp | (intros; omega))) ?_
    rintro _ w5_2 ⟨A15_2, c15_2, rfl, hR5_2⟩
    have hM5_2 : Mem w w5_2 [] [[⟨.slice (A15_2) ((shF l13_1).length) (c15_2), 34, 3, ((shF l13_1).length), (shF l13_1).flatMap encG⟩], [⟨.slice (A14_1) ((shF l13_1).length) (c14_1), 34, 3, ((shF l13_1).length), (shF l13_1).flatMap encG⟩], [⟨.slice (A13_1) ((l13_1).length) (c13_1), 34, 3, ((l13_1).length), (l13_1).flatMap encG⟩]] := Mem.call (Ma := []) hM4_1 hR5_2 rfl
    have hcr5_2_0 := (hM5_2.cap 0 rfl).1
    refine O.callg [.slice (A14_1) ((shF l13_1).length) (c14_1), .slice (A15_2) ((shF l13_1).length) (c15_2)] rfl en26 rfl rfl (equalRecords_fn A14_1 c14_1 (shF l13_1) A15_2 c15_2 (shF l13_1) w5_2 (hM5_2.rd 1 rfl) (hM5_2.rd 0 rfl) (by omega)) ?_
    rintro _ w5_3 ⟨hv5_3, hR5_3⟩
    obtain rfl : _ = Value.bool true := hv5_3.trans (by simp)
    have hM5_3 : Mem w w5_3 [] [[⟨.slice (A15_2) ((shF l13_1).length) (c15_2), 34, 3, ((shF l13_1).length), (shF l13_1).flatMap encG⟩], [⟨.slice (A14_1) ((shF l13_1).length) (c14_1), 34, 3, ((shF l13_1).length), (shF l13_1).flatMap encG⟩], [⟨.slice (A13_1) ((l13_1).length) (c13_1), 34, 3, ((l13_1).length), (l13_1).flatMap encG⟩]] := Mem.call (Ma := []) hM5_2 hR5_3 rfl
    refine O.val (v := .bool (false)) rfl (Ru.not (b := true) rfl) rfl ?_
    refine O.nil ?_
    refine C.condF rfl ?_
    refine C.skip ?_
    refine C.seq ?_
    refine C.seq ?_
    refine C.region ?_
    refine O.val (v := I (0)) rfl (Ru.assign rfl) rfl ?_
    refine O.nil ?_
    refine C.block ?_
    refine C.loop (ι := Nat) (fun i => ([(3, .slice (A13_1) ((l13_1).length) (c13_1)), (4, .slice (A14_1) ((shF l13_1).length) (c14_1)), (5, I (((i : Nat) : Int)))] : List (Nat × Value))) (fun i w_ => (i ≤ (shF l13_1).length) ∧ (Mem w w_ [] [[⟨.slice (A15_2) ((shF l13_1).length) (c15_2), 34, 3, ((shF l13_1).length), (shF l13_1).flatMap encG⟩], [⟨.slice (A14_1) ((shF l13_1).length) (c14_1), 34, 3, ((shF l13_1).length), (shF l13_1).flatMap encG⟩], [⟨.slice (A13_1) ((l13_1).length) (c13_1), 34, 3, ((l13_1).length), (l13_1).flatMap encG⟩]])) (fun i => (shF l13_1).length - i) (0) (Has.cons rfl (Has.cons rfl (Has.cons (I_congr (by first | rfl | omega | (simp; omega) | simp)) Has.nil))) ⟨(Nat.zero_le _), (hM5_3.pick [0, 1, 2] (by decide) rfl)⟩ (fun i σ w_l8 hI => ?_)
    try dsimp only at hI
    obtain ⟨hi0_l8, hM_l8⟩ := hI
    have hcl0_l8 := (hM_l8.cap 0 rfl).1
    have hcl1_l8 := (hM_l8.cap 1 rfl).1
    have hcl2_l8 := (hM_l8.cap 2 rfl).1
    refine C.seq ?_
    refine C.seq ?_
    refine C.region ?_
    refine O.val (v := I (((i : Nat) : Int))) rfl (Ru.move rfl) rfl ?_
    refine O.val (v := .slice (A14_1) ((shF l13_1).length) (c14_1)) rfl (Ru.move rfl) rfl ?_
    refine O.val (v := I ((((shF l13_1).length : Nat) : Int))) rfl (Ru.blenSlice Try.underlying23 rfl) rfl ?_
    refine O.val (v := .bool (decide (((i : Nat) : Int) < (((shF l13_1).length : Nat) : Int)))) rfl (Ru.lss rfl rfl) rfl ?_
    refine O.nil ?_
    refine C.cond (p := ((i : Nat) : Int) < (((shF l13_1).length : Nat) : Int)) rfl (fun c22 => ?_) (fun c22 => ?_)
    · refine C.skip ?_
      refine C.seq ?_
      refine C.block ?_
      refine C.seq ?_
      refine C.seq ?_
      refine C.region ?_
      refine O.val (v := I (0)) rfl (Ru.assign rfl) rfl ?_
      refine O.nil ?_
      refine C.block ?_
      refine C.loop (ι := Nat) (fun j => ([(3, .slice (A13_1) ((l13_1).length) (c13_1)), (4, .slice (A14_1) ((shF l13_1).length) (c14_1)), (5, I (((i : Nat) : Int))), (6, I (((j : Nat) : Int)))] : List (Nat × Value))) (fun j w_ => (j ≤ i) ∧ (Mem w w_ [] [[⟨.slice (A15_2) ((shF l13_1).length) (c15_2), 34, 3, ((shF l13_1).length), (shF l13_1).flatMap encG⟩], [⟨.slice (A14_1) ((shF l13_1).length) (c14_1), 34, 3, ((shF l13_1).length), (shF l13_1).flatMap encG⟩], [⟨.slice (A13_1) ((l13_1).length) (c13_1), 34, 3, ((l13_1).length), (l13_1).flatMap encG⟩]])) (fun j => i - j) (0) (Has.cons rfl (Has.cons rfl (Has.cons rfl (Has.cons (I_congr (by first | rfl | omega | (simp; omega) | simp)) Has.nil)))) ⟨(Nat.zero_le _), (hM_l8.pick [0, 1, 2] (by decide) rfl)⟩ (fun j σ w_l11 hI => ?_)
      try dsimp only at hI
      obtain ⟨hi0_l11, hM_l11⟩ := hI
      have hcl0_l11 := (hM_l11.cap 0 rfl).1
      have hcl1_l11 := (hM_l11.cap 1 rfl).1
      have hcl2_l11 := (hM_l11.cap 2 rfl).1
      refine C.seq ?_
      refine C.seq ?_
      refine C.region ?_
      refine O.val (v := I (((j : Nat) : Int))) rfl (Ru.move rfl) rfl ?_
      refine O.val (v := I (((i : Nat) : Int))) rfl (Ru.move rfl) rfl ?_
      refine O.val (v := .bool (decide (((j : Nat) : Int) < ((i : Nat) : Int)))) rfl (Ru.lss rfl rfl) rfl ?_
      refine O.nil ?_
      refine C.cond (p := ((j : Nat) : Int) < ((i : Nat) : Int)) rfl (fun c27 => ?_) (fun c27 => ?_)
      · refine C.skip ?_
        refine C.seq ?_
        refine C.block ?_
        refine C.seq ?_
        refine C.draws (fun w2 => Mem w w2 [] [[⟨.slice (A15_2) ((shF l13_1).length) (c15_2), 34, 3, ((shF l13_1).length), (shF l13_1).flatMap encG⟩], [⟨.slice (A14_1) ((shF l13_1).length) (c14_1), 34, 3, ((shF l13_1).length), (shF l13_1).flatMap encG⟩], [⟨.slice (A13_1) ((l13_1).length) (c13_1), 34, 3, ((l13_1).length), (l13_1).flatMap encG⟩]]) mixed (by kernel_rfl) (hM_l11.ext (kdrawn _)) ?_
        refine QO.val (v := .slice (A14_1) ((shF l13_1).length) (c14_1)) rfl (fun w2 hw2 => Ru.move rfl) rfl ?_
        refine QO.val (v := I (((j : Nat) : Int))) rfl (fun w2 hw2 => Ru.move rfl) rfl ?_
        have hx13_2 : j < (shF l13_1).length := (by first | omega | (simp; omega))
        refine QO.val (v := .pointer (ofs (A14_1) (j * 3))) rfl (fun w2 hw2 => Ru.indexA (j := j) Try.underlying23 el34 rfl rfl (smf encG_len (hw2.rd 1 rfl) hx13_2 rfl) (by omega) (by first | omega | (simp; omega))) rfl ?_
        refine QO.val (v := .pointer (ofs (A14_1) (j * 3 + 1))) rfl (fun w2 hw2 => Ru.fieldA fl34_1 rfl (smf encG_len (hw2.rd 1 rfl) hx13_2 rfl)) rfl ?_
        refine QO.val rfl (fun w2 hw2 => Ru.load1 el3 rfl (ldf encG_len (hw2.rd 1 rfl) hx13_2 rfl)) rfl ?_
        refine QO.val (v := .slice (A14_1) ((shF l13_1).length) (c14_1)) rfl (fun w2 hw2 => Ru.move rfl) rfl ?_
        refine QO.val (v := I (((i : Nat) : Int))) rfl (fun w2 hw2 => Ru.move rfl) rfl ?_
        have hx13_7 : i < (shF l13_1).length := (by first | omega | (simp; omega))
        refine QO.val (v := .pointer (ofs (A14_1) (i * 3))) rfl (fun w2 hw2 => Ru.indexA (j := i) Try.underlying23 el34 rfl rfl (smf encG_len (hw2.rd 1 rfl) hx13_7 rfl) (by omega) (by first | omega | (simp; omega))) rfl ?_
        refine QO.val (v := .pointer (ofs (A14_1) (i * 3 + 1))) rfl (fun w2 hw2 => Ru.fieldA fl34_1 rfl (smf encG_len (hw2.rd 1 rfl) hx13_7 rfl)) rfl ?_
        refine QO.val rfl (fun w2 hw2 => Ru.load1 el3 rfl (ldf encG_len (hw2.rd 1 rfl) hx13_7 rfl)) rfl ?_
        refine QO.val (v := .bool (decide (((shF l13_1)[j]'hx13_2).key = ((shF l13_1)[i]'hx13_7).key))) rfl (fun w2 hw2 => Ru.eql rfl rfl) rfl ?_
        refine QO.nil ?_
        intro w13d hM13d
        refine C.cond (p := ((shF l13_1)[j]'hx13_2).key = ((shF l13_1)[i]'hx13_7).key) rfl (fun c40 => ?_) (fun c40 => ?_)
        · exact absurd c40 (shF_apart (by omega) (by omega))
        · refine C.skip ?_
          refine C.region ?_
          refine O.val (v := I (((j : Nat) : Int))) rfl (Ru.move rfl) rfl ?_
          refine O.val (v := I ((((j + 1) : Nat) : Int))) rfl (Ru.congr (v := I ((((j : Nat) : Int) + 1))) (v' := I ((((j + 1) : Nat) : Int))) (Ru.add rfl rfl (by omega)) (I_congr (by first | omega | simp))) rfl ?_
          refine O.val (v := I ((((j + 1) : Nat) : Int))) rfl (Ru.assign rfl) rfl ?_
          refine O.nil ?_
          exact loopEnd (j + 1) (by (try dsimp only); omega) (Has.cons rfl (Has.cons rfl (Has.cons rfl (Has.cons (I_congr (by first | rfl | omega | (simp; omega) | simp)) Has.nil)))) ⟨(by (try dsimp only); omega), (hM13d.pick [0, 1, 2] (by decide) rfl)⟩
      · refine C.exit ?_
        refine C.seq ?_
        refine C.region ?_
        refine O.val (v := .slice (A14_1) ((shF l13_1).length) (c14_1)) rfl (Ru.move rfl) rfl ?_
        refine O.val (v := I (((i : Nat) : Int))) rfl (Ru.move rfl) rfl ?_
        have hx15_2 : i < (shF l13_1).length := (by first | omega | (simp; omega))
        refine O.val (v := .pointer (ofs (A14_1) (i * 3))) rfl (Ru.indexA (j := i) Try.underlying23 el34 rfl rfl (smf encG_len (hM_l11.rd 1 rfl) hx15_2 rfl) (by omega) (by first | omega | (simp; omega))) rfl ?_
        refine O.val (v := .pointer (ofs (A14_1) (i * 3 + 0))) rfl (Ru.fieldA fl34_0 rfl (smf encG_len (hM_l11.rd 1 rfl) hx15_2 rfl)) rfl ?_
        refine O.val rfl (Ru.load1 el3 rfl (ldf encG_len (hM_l11.rd 1 rfl) hx15_2 rfl)) rfl ?_
        refine O.val (v := .bool (decide (((shF l13_1)[i]'hx15_2).kind = 3))) rfl (Ru.eql rfl rfl) rfl ?_
        refine O.nil ?_
        refine C.cond (p := ((shF l13_1)[i]'hx15_2).kind = 3) rfl (fun c46 => ?_) (fun c46 => ?_)
        · exact absurd c46 (shF_kind _ (List.getElem_mem _))
        · refine C.skip ?_
          refine C.region ?_
          refine O.val (v := I (((i : Nat) : Int))) rfl (Ru.move rfl) rfl ?_
          refine O.val (v := I ((((i + 1) : Nat) : Int))) rfl (Ru.congr (v := I ((((i : Nat) : Int) + 1))) (v' := I ((((i + 1) : Nat) : Int))) (Ru.add rfl rfl (by omega)) (I_congr (by first | omega | simp))) rfl ?_
          refine O.val (v := I ((((i + 1) : Nat) : Int))) rfl (Ru.assign rfl) rfl ?_
          refine O.nil ?_
          exact loopEnd (i + 1) (by (try dsimp only); omega) (Has.cons rfl (Has.cons rfl (Has.cons (I_congr (by first | rfl | omega | (simp; omega) | simp)) Has.nil))) ⟨(by (try dsimp only); omega), (hM_l11.pick [0, 1, 2] (by decide) rfl)⟩
    · refine C.exit ?_
      refine C.seq ?_
      refine C.region ?_
      refine O.val (v := .slice (A14_1) ((shF l13_1).length) (c14_1)) rfl (Ru.move rfl) rfl ?_
      refine O.val (v := I ((((shF l13_1).length : Nat) : Int))) rfl (Ru.blenSlice Try.underlying23 rfl) rfl ?_
      refine O.val (v := .slice (A13_1) ((l13_1).length) (c13_1)) rfl (Ru.move rfl) rfl ?_
      refine O.val (v := I ((((l13_1).length : Nat) : Int))) rfl (Ru.blenSlice Try.underlying23 rfl) rfl ?_
      refine O.val (v := .bool (decide ((((shF l13_1).length : Nat) : Int) ≤ (((l13_1).length : Nat) : Int)))) rfl (Ru.leq rfl rfl) rfl ?_
      refine O.val (v := .bool (decide ((((shF l13_1).length : Nat) : Int) ≤ (((l13_1).length : Nat) : Int)))) rfl (Ru.assign rfl) rfl ?_
      refine O.nil ?_
      refine C.ret ?_
      refine P1 (v := .bool (decide ((((shF l13_1).length : Nat) : Int) ≤ (((l13_1).length : Nat) : Int)))) rfl ?_
      exact ⟨(congrArg Value.bool (decide_eq_true (by omega))), (Mem.none hM_l8)⟩
end Go.Proofs.Ytgflcaeibbnkcaa
namespace Go.Proofs.Ytgflcaeibbnkcaa.fnShortLogKeys
open Go.ChangeShapes Go.WideShapes Go.ChangeAt Go.RowKit Go.Px
open Go.ChangeMaps (open_string shut_string)
set_option linter.unusedVariables false

theorem own : ownKnob Try.prog.godebug = none := by kernel_rfl
theorem laidOut : laidOutB Try.prog = true := by kernel_rfl

set_option maxRecDepth 100000 in
theorem lifted (os : Os) (started : os.Started) (H : Type) (enc : TypeId × Value → H) :
    ReturnsInHanded {} Try.checked os 5 .any (Rows.fnShortLogKeysSpec.pre6 enc Try.prog Try.f5 Rows.fnShortLogKeysRow.domain false) (Rows.fnShortLogKeysSpec.post enc Try.prog Try.f5 false true false false) := by
  refine returnsInHanded_of_change (C := Try.checked) own started (by kernel_rfl) Try.func5
    (ChangeSpec.witness6 (enc := enc) (C := Try.checked) false ⟨#[], #[.slice none 0 0], []⟩ 8 (by kernel_rfl) (by kernel_rfl) (by kernel_rfl) (by kernel_rfl)) ?_
  intro W base args ds gs before hval0 hW hcnd _
  have hval : ∀ (j : Nat) t v, Try.f5.params[j]? = some t → args[j]? = some v → Value.okWide Try.prog W .any base t v := hval0
  have hW' := hW
  obtain ⟨p, q, hA0, hV, rfl, hfz, hnd⟩ := hW
  have hA : DataW.TrodAll enc Try.prog W 0 (fun _ => true) true Try.f5.params.toList args.toList ds p := hA0
  rw [Try.params5] at hA hval
  obtain ⟨v0, vs0, d0, ds0, p0, q0, hargs, rfl, rfl, h0, r0⟩ := trodAll_cons hA
  obtain ⟨rfl, rfl, rfl⟩ := trodAll_nil r0
  obtain rfl : args = #[v0] := by cases args; simp_all
  obtain ⟨rfl, rfl⟩ := trodVars_none hV
  have k0 := h0
  have lt0 : ∀ x ∈ p0, x.block < W.heap.size := by obtain ⟨m, hm⟩ := k0; exact DataW.trod_lt m _ _ _ hm
  obtain ⟨a0, len0, cap0, rfl⟩ := okWide_slice Try.underlying22 (hval 0 22 v0 rfl rfl)
  have kk0 := k0
  obtain ⟨fuel0, hf0⟩ := kk0
  obtain ⟨z0, rfl, hz0, hc0, hw0, hRd0⟩ := slice_in (α := UInt8) (f := fun a : UInt8 => [byteV a]) (c := 1) Try.underlying22 (by kernel_rfl) (fun _ => rfl) (byte_el Try.underlying5) hf0
  rw [flat_one] at hRd0
  clear hA0 hval0
  refine (FnShortLogKeys_fn a0 cap0 z0 W hRd0 hz0 hc0).out.mono fun e W' ⟨v, he, hv, hg⟩ => ?_
  subst he hv
  have bel : Below W.heap.size W W' := ⟨hg.os, hg.tape, hg.output, hg.size, fun k hk => hg.block k hk (by simp)⟩
  exact ⟨_, rfl, _, _, _, [], _, [], hW', trodAll_mk1 (shut_bool Try.underlying4 _), (trodAll_cons_mk (Below.trod laidOut (by kernel_rfl) (of_decide_eq_true (by kernel_rfl)) k0 bel lt0) trodAll_mk0), rfl, bel.frame _, fun h => by cases h⟩

theorem named_ : Try.prog.funcNamed Rows.fnShortLogKeysRow.func = some 5 := by kernel_rfl
theorem closed : joinedFacts Try.prog 5 Try.f5 Rows.fnShortLogKeysSpec Rows.fnShortLogKeysRow = true := by
  unfold joinedFacts
  rw [enter_, lifts_, made_]
  kernel_rfl
theorem inst_ : Try.f5.isInstance Try.prog Rows.fnShortLogKeysRow.origin Rows.fnShortLogKeysRow.targs := of_decide_eq_true (by kernel_rfl)
theorem wrap_ : Try.f5.isWrapper Try.prog Rows.fnShortLogKeysRow.wrapper Rows.fnShortLogKeysRow.mainSum := by
  unfold Func.isWrapper
  rw [if_neg (by decide +kernel)]
  exact ⟨rfl, rfl⟩
theorem over : Rows.fnShortLogKeysRow.holds Try.pinned (OpenSpec.ofChange Rows.fnShortLogKeysSpec) :=
  OpenClaim.holds_of_wide 5 Try.f5 rfl rfl rfl rfl rfl rfl rfl ⟨rfl, rfl, rfl, rfl, rfl⟩ rfl rfl rfl rfl rfl named_ Try.func5 closed inst_ wrap_
    (fun os started H enc _ => lifted os started H enc)
theorem proved : Rows.FnShortLogKeysSaid := over
end Go.Proofs.Ytgflcaeibbnkcaa.fnShortLogKeys
