/- The statement Rows.FnUnpackWordsSaid: the Go function laws.FnUnpackWords returns true for every input, and each argument reads afterwards as it read before. No conditions. -/
import Derived.Test.YtekfncmhinbghaaRows
import Derived.Test.YtekfncmhinbghaaPxO
import Derived.Test.YtekfncmhinbghaaWI
import Derived.Test.YtekfncmhinbghaaH0
import Derived.WalkKit
import Derived.ProofKit
import Derived.OpenShut
import Derived.ShutString
import Derived.ChangeOld
import Derived.SliceStrings
import Derived.Deep.Slices
import Derived.Deep.Fields
import Derived.ChangeSame
import Derived.Below
set_option linter.unusedVariables false
set_option linter.unusedSimpArgs false
namespace Go.Proofs.Ytekfncmhinbghaa.V
open Go.Px
set_option linter.unusedVariables false
theorem FnUnpackWords_fn (A : Option Addr) (c : Nat) (l : List UInt8) (w : World) (hA : Rd w A ((l).map byteV)) (hl : l.length ≤ 9223372036854775807) (hc : l.length ≤ c) :
    Does Try.prog 18 [.slice (A) ((l).length) (c)] w (fun v w1 => v = .bool (true) ∧ Mem w w1 [] []) := by
  have hM : Mem w w [] [] := Mem.refl
  refine Does.enter1 Try.func18 rfl Try.results18 Try.ntmps18 rfl ?_
  refine C.seq ?_
  refine C.region ?_
  refine O.val (v := .bool (false)) rfl (Ru.assign rfl) rfl ?_
  refine O.nil ?_
  refine C.seq ?_
  refine C.seq ?_
  refine C.region ?_
  refine O.val (v := .slice (A) ((l).length) (c)) rfl (Ru.move rfl) rfl ?_
  refine O.val (v := I ((((l).length : Nat) : Int))) rfl (Ru.blenSlice Try.underlying29 rfl) rfl ?_
  refine O.val (v := .bool (decide ((((l).length : Nat) : Int) > 1048576))) rfl (Ru.gtr rfl rfl) rfl ?_
  refine O.nil ?_
  refine C.cond (p := (((l).length : Nat) : Int) > 1048576) rfl (fun c10 => ?_) (fun c10 => ?_)
  · refine C.seq ?_
    refine C.region ?_
    refine O.val (v := .bool (true)) rfl (Ru.assign rfl) rfl ?_
    refine O.nil ?_
    refine C.ret ?_
    refine P1 (v := .bool (true)) rfl ?_
    exact ⟨rfl, (Mem.none hM)⟩
  · refine C.skip ?_
    refine C.seq ?_
    refine C.region ?_
    refine O.val (v := .slice (A) ((l).length) (c)) rfl (Ru.move rfl) rfl ?_
    refine O.callg [.slice (A) ((l).length) (c)] rfl en42 rfl rfl (vDrawUnpackWords_fn A c l w (hA.at hM) (by first | omega | assumption | (simp; omega) | simp | (intros; omega)) (by first | omega | assumption | (simp; omega) | simp | (intros; omega))) ?_
    rintro _ w3_1 ⟨l13_1, A13_1, c13_1, rfl, hl3_1, hs3_1, hR3_1⟩
    have hM3_1 : Mem w w3_1 [] [[⟨.slice (A13_1) ((l13_1).length) (c13_1), 39, 2, ((l13_1).length), (l13_1).flatMap encR⟩]] := Mem.call (Ma := []) hM hR3_1 rfl
    refine O.val (v := .slice (A13_1) ((l13_1).length) (c13_1)) rfl (Ru.assign rfl) rfl ?_
    refine O.nil ?_
    refine C.seq ?_
    refine C.region ?_
    refine O.val (v := .slice (A13_1) ((l13_1).length) (c13_1)) rfl (Ru.move rfl) rfl ?_
    refine O.callg [.slice (A13_1) ((l13_1).length) (c13_1)] rfl en40 rfl rfl (vUnpackWords_fn A13_1 c13_1 l13_1 w3_1 (hM3_1.rd 0 rfl) (by omega) (by intro r hr; have := hs3_1 r hr; omega)) ?_
    rintro _ w4_1 ⟨A14_1, c14_1, rfl, hR4_1⟩
    have hM4_1 : Mem w w4_1 [] [[⟨.slice (A14_1) (((unpF l13_1).getD []).length) (c14_1), 9, 1, (((unpF l13_1).getD []).length), ((unpF l13_1).getD []).map S⟩], [⟨.slice (A13_1) ((l13_1).length) (c13_1), 39, 2, ((l13_1).length), (l13_1).flatMap encR⟩]] := Mem.call (Ma := []) hM3_1 hR4_1 rfl
    refine O.val (v := .tuple #[.slice (A14_1) (((unpF l13_1).getD []).length) (c14_1), .bool ((unpF l13_1).isSome)]) rfl (Ru.move rfl) rfl ?_
    refine O.val (v := .slice (A14_1) (((unpF l13_1).getD []).length) (c14_1)) rfl (Ru.extract rfl rfl) rfl ?_
    refine O.val (v := .bool ((unpF l13_1).isSome)) rfl (Ru.extract rfl rfl) rfl ?_
    refine O.val (v := .slice (A14_1) (((unpF l13_1).getD []).length) (c14_1)) rfl (Ru.assign rfl) rfl ?_
    refine O.val (v := .bool ((unpF l13_1).isSome)) rfl (Ru.assign rfl) rfl ?_
    refine O.nil ?_
    refine C.seq ?_
    refine C.region ?_
    refine O.val (v := .slice (A13_1) ((l13_1).length) (c13_1)) rfl (Ru.move rfl) rfl ?_
    refine O.callg [.slice (A13_1) ((l13_1).length) (c13_1)] rfl en43 rfl rfl (vSUnpackWords_fn A13_1 c13_1 l13_1 w4_1 (hM4_1.rd 1 rfl) (by omega) (by intro r hr; have := hs3_1 r hr; omega)) ?_
    rintro _ w5_1 ⟨A15_1, c15_1, rfl, hR5_1⟩
    have hM5_1 : Mem w w5_1 [] [[⟨.slice (A15_1) (((unpF l13_1).getD []).length) (c15_1), 9, 1, (((unpF l13_1).getD []).length), ((unpF l13_1).getD []).map S⟩], [⟨.slice (A14_1) (((unpF l13_1).getD []).length) (c14_1), 9, 1, (((unpF l13_1).getD []).length), ((unpF l13_1).getD []).map S⟩], [⟨.slice (A13_1) ((l13_1).length) (c13_1), 39, 2, ((l13_1).length), (l13_1).flatMap encR⟩]] := Mem.call (Ma := []) hM4_1 hR5_1 rfl
    have hul := unp_len (l := l13_1)
    have hum := unp_mem (l := l13_1)
    refine O.val (v := .tuple #[.slice (A15_1) (((unpF l13_1).getD []).length) (c15_1), .bool ((unpF l13_1).isSome)]) rfl (Ru.move rfl) rfl ?_
    refine O.val (v := .slice (A15_1) (((unpF l13_1).getD []).length) (c15_1)) rfl (Ru.extract rfl rfl) rfl ?_
    refine O.val (v := .bool ((unpF l13_1).isSome)) rfl (Ru.extract rfl rfl) rfl ?_
    refine O.val (v := .slice (A15_1) (((unpF l13_1).getD []).length) (c15_1)) rfl (Ru.assign rfl) rfl ?_
    refine O.val (v := .bool ((unpF l13_1).isSome)) rfl (Ru.assign rfl) rfl ?_
    refine O.nil ?_
    refine C.seq ?_
    refine C.seq ?_
    refine C.region ?_
    refine O.val (v := .slice (A14_1) (((unpF l13_1).getD []).length) (c14_1)) rfl (Ru.move rfl) rfl ?_
    refine O.val (v := .slice (A15_1) (((unpF l13_1).getD []).length) (c15_1)) rfl (Ru.move rfl) rfl ?_
    refine O.callg [.slice (A14_1) (((unpF l13_1).getD []).length) (c14_1), .slice (A15_1) (((unpF l13_1).getD []).length) (c15_1)] rfl en41 rfl rfl (vequalWords_fn A14_1 c14_1 ((unpF l13_1).getD []) A15_1 c15_1 ((unpF l13_1).getD []) w5_1 (hM5_1.rd 1 rfl) (hM5_1.rd 0 rfl) (by first | omega | assumption | (simp; omega) | simp | (intros; omega))) ?_
    rintro _ w6_2 ⟨hv6_2, hR6_2⟩
    obtain rfl : _ = Value.bool true := hv6_2.trans (by simp)
    have hM6_2 : Mem w w6_2 [] [[⟨.slice (A15_1) (((unpF l13_1).getD []).length) (c15_1), 9, 1, (((unpF l13_1).getD []).length), ((unpF l13_1).getD []).map S⟩], [⟨.slice (A14_1) (((unpF l13_1).getD []).length) (c14_1), 9, 1, (((unpF l13_1).getD []).length), ((unpF l13_1).getD []).map S⟩], [⟨.slice (A13_1) ((l13_1).length) (c13_1), 39, 2, ((l13_1).length), (l13_1).flatMap encR⟩]] := Mem.call (Ma := []) hM5_1 hR6_2 rfl
    refine O.val (v := .bool (false)) rfl (Ru.not (b := true) rfl) rfl ?_
    refine O.val (v := .bool (false)) rfl (Ru.move rfl) rfl ?_
    refine O.val (v := .bool ((unpF l13_1).isSome)) rfl (Ru.move rfl) rfl ?_
    refine O.val (v := .bool ((unpF l13_1).isSome)) rfl (Ru.move rfl) rfl ?_
    refine O.val (v := .bool (false)) rfl (Ru.congr (v := .bool (decide ((unpF l13_1).isSome ≠ (unpF l13_1).isSome))) (v' := .bool (false)) (Ru.bneq Try.underlying4 rfl rfl) (congrArg Value.bool (by simp))) rfl ?_
    refine O.val (v := .bool (false)) rfl (Ru.pickF rfl rfl) rfl ?_
    refine O.nil ?_
    refine C.condF rfl ?_
    refine C.skip ?_
    refine C.seq ?_
    refine C.region ?_
    refine O.val (v := .bool ((unpF l13_1).isSome)) rfl (Ru.move rfl) rfl ?_
    refine O.val (v := .bool (!((unpF l13_1).isSome))) rfl (Ru.not rfl) rfl ?_
    refine O.val (v := .bool (!((unpF l13_1).isSome))) rfl (Ru.move rfl) rfl ?_
    refine O.part 34 (!((unpF l13_1).isSome)) rfl (fun g34 => ?_) (fun g34 => ?_)
    · refine O.pass rfl rfl rfl rfl rfl ?_
      refine O.pass rfl rfl rfl rfl rfl ?_
      refine O.pass rfl rfl rfl rfl rfl ?_
      refine O.pass rfl rfl rfl rfl rfl ?_
      refine O.pass rfl rfl rfl rfl rfl ?_
      refine O.passU rfl rfl rfl rfl ?_
      refine O.passU rfl rfl rfl rfl ?_
      refine O.pass rfl rfl rfl rfl rfl ?_
      refine O.val (v := .bool (true)) rfl (Ru.pickT rfl rfl) rfl ?_
      refine O.val (v := .bool (true)) rfl (Ru.assign rfl) rfl ?_
      refine O.nil ?_
      refine C.ret ?_
      refine P1 (v := .bool (true)) rfl ?_
      exact ⟨(by first | rfl | (have hus := unp_some (l := l13_1) (by simpa using g34); simp_all)), (Mem.none hM6_2)⟩
    · refine O.val (v := .slice (A14_1) (((unpF l13_1).getD []).length) (c14_1)) rfl (Ru.move rfl) rfl ?_
      refine O.callg [.slice (A14_1) (((unpF l13_1).getD []).length) (c14_1)] rfl en32 rfl rfl (vPackWords_fn A14_1 c14_1 ((unpF l13_1).getD []) w6_2 (hM6_2.rd 1 rfl) (by omega) (by intro s hs; have := hum s hs; omega)) ?_
      rintro _ w8_4 ⟨A18_4, c18_4, rfl, hR8_4⟩
      have hM8_4 : Mem w w8_4 [] [[⟨.slice (A18_4) ((packF ((unpF l13_1).getD [])).length) (c18_4), 39, 2, ((packF ((unpF l13_1).getD [])).length), (packF ((unpF l13_1).getD [])).flatMap encR⟩], [⟨.slice (A15_1) (((unpF l13_1).getD []).length) (c15_1), 9, 1, (((unpF l13_1).getD []).length), ((unpF l13_1).getD []).map S⟩], [⟨.slice (A14_1) (((unpF l13_1).getD []).length) (c14_1), 9, 1, (((unpF l13_1).getD []).length), ((unpF l13_1).getD []).map S⟩], [⟨.slice (A13_1) ((l13_1).length) (c13_1), 39, 2, ((l13_1).length), (l13_1).flatMap encR⟩]] := Mem.call (Ma := []) hM6_2 hR8_4 rfl
      have hpl := packF_len ((unpF l13_1).getD [])
      refine O.val (v := .slice (A13_1) ((l13_1).length) (c13_1)) rfl (Ru.move rfl) rfl ?_
      refine O.callg [.slice (A18_4) ((packF ((unpF l13_1).getD [])).length) (c18_4), .slice (A13_1) ((l13_1).length) (c13_1)] rfl en33 rfl rfl (vequalRests_fn A18_4 c18_4 (packF ((unpF l13_1).getD [])) A13_1 c13_1 l13_1 w8_4 (hM8_4.rd 0 rfl) (hM8_4.rd 3 rfl) (by first | omega | assumption | (simp; omega) | simp | (intros; omega))) ?_
      rintro _ w8_6 ⟨rfl, hR8_6⟩
      have hM8_6 : Mem w w8_6 [] [[⟨.slice (A18_4) ((packF ((unpF l13_1).getD [])).length) (c18_4), 39, 2, ((packF ((unpF l13_1).getD [])).length), (packF ((unpF l13_1).getD [])).flatMap encR⟩], [⟨.slice (A15_1) (((unpF l13_1).getD []).length) (c15_1), 9, 1, (((unpF l13_1).getD []).length), ((unpF l13_1).getD []).map S⟩], [⟨.slice (A14_1) (((unpF l13_1).getD []).length) (c14_1), 9, 1, (((unpF l13_1).getD []).length), ((unpF l13_1).getD []).map S⟩], [⟨.slice (A13_1) ((l13_1).length) (c13_1), 39, 2, ((l13_1).length), (l13_1).flatMap encR⟩]] := Mem.call (Ma := []) hM8_4 hR8_6 rfl
      refine O.val (v := .bool (decide ((packF ((unpF l13_1).getD [])) = l13_1))) rfl (Ru.move rfl) rfl ?_
      refine O.part 39 (decide ((packF ((unpF l13_1).getD [])) = l13_1)) rfl (fun g39 => ?_) (fun g39 => ?_)
      · refine O.val (v := .slice (A14_1) (((unpF l13_1).getD []).length) (c14_1)) rfl (Ru.move rfl) rfl ?_
        refine O.callg [.slice (A14_1) (((unpF l13_1).getD []).length) (c14_1)] rfl en25 rfl rfl (vValidWords_fn A14_1 c14_1 ((unpF l13_1).getD []) w8_6 (hM8_6.rd 2 rfl) (by omega) (by intro s hs; have := hum s hs; omega)) ?_
        rintro _ w8_9 ⟨rfl, hR8_9⟩
        have hM8_9 : Mem w w8_9 [] [[⟨.slice (A18_4) ((packF ((unpF l13_1).getD [])).length) (c18_4), 39, 2, ((packF ((unpF l13_1).getD [])).length), (packF ((unpF l13_1).getD [])).flatMap encR⟩], [⟨.slice (A15_1) (((unpF l13_1).getD []).length) (c15_1), 9, 1, (((unpF l13_1).getD []).length), ((unpF l13_1).getD []).map S⟩], [⟨.slice (A14_1) (((unpF l13_1).getD []).length) (c14_1), 9, 1, (((unpF l13_1).getD []).length), ((unpF l13_1).getD []).map S⟩], [⟨.slice (A13_1) ((l13_1).length) (c13_1), 39, 2, ((l13_1).length), (l13_1).flatMap encR⟩]] := Mem.call (Ma := []) hM8_6 hR8_9 rfl
        refine O.val (v := .bool (validW ((unpF l13_1).getD []))) rfl (Ru.pickT rfl rfl) rfl ?_
        refine O.val (v := .bool (validW ((unpF l13_1).getD []))) rfl (Ru.pickF rfl rfl) rfl ?_
        refine O.val (v := .bool (validW ((unpF l13_1).getD []))) rfl (Ru.assign rfl) rfl ?_
        refine O.nil ?_
        refine C.ret ?_
        refine P1 (v := .bool (validW ((unpF l13_1).getD []))) rfl ?_
        exact ⟨(by first | rfl | (have hus := unp_some (l := l13_1) (by simpa using g34); simp_all)), (Mem.none hM8_9)⟩
      · refine O.pass rfl rfl rfl rfl rfl ?_
        refine O.pass rfl rfl rfl rfl rfl ?_
        refine O.val (v := .bool (false)) rfl (Ru.pickF rfl rfl) rfl ?_
        refine O.val (v := .bool (false)) rfl (Ru.pickF rfl rfl) rfl ?_
        refine O.val (v := .bool (false)) rfl (Ru.assign rfl) rfl ?_
        refine O.nil ?_
        refine C.ret ?_
        refine P1 (v := .bool (false)) rfl ?_
        exact ⟨(by first | rfl | (have hus := unp_some (l := l13_1) (by simpa using g34); simp_all)), (Mem.none hM8_6)⟩
end Go.Proofs.Ytekfncmhinbghaa.V
namespace Go.Proofs.Ytekfncmhinbghaa.fnUnpackWords
open Go.ChangeShapes Go.WideShapes Go.ChangeAt Go.RowKit Go.Px
open Go.ChangeMaps (open_string shut_string)
set_option linter.unusedVariables false

theorem own : ownKnob Try.prog.godebug = none := by kernel_rfl
theorem laidOut : laidOutB Try.prog = true := by kernel_rfl

set_option maxRecDepth 100000 in
theorem lifted (os : Os) (started : os.Started) (H : Type) (enc : TypeId × Value → H) :
    ReturnsInHanded {} Try.checked os 18 .any (Rows.fnUnpackWordsSpec.pre6 enc Try.prog Try.f18 Rows.fnUnpackWordsRow.domain false) (Rows.fnUnpackWordsSpec.post enc Try.prog Try.f18 false true false false) := by
  refine returnsInHanded_of_change (C := Try.checked) own started (by kernel_rfl) Try.func18
    (ChangeSpec.witness6 (enc := enc) (C := Try.checked) false ⟨#[], #[.slice none 0 0], []⟩ 8 (by kernel_rfl) (by kernel_rfl) (by kernel_rfl) (by kernel_rfl)) ?_
  intro W base args ds gs before hval0 hW hcnd _
  have hval : ∀ (j : Nat) t v, Try.f18.params[j]? = some t → args[j]? = some v → Value.okWide Try.prog W .any base t v := hval0
  have hW' := hW
  obtain ⟨p, q, hA0, hV, rfl, hfz, hnd⟩ := hW
  have hA : DataW.TrodAll enc Try.prog W 0 (fun _ => true) true Try.f18.params.toList args.toList ds p := hA0
  rw [Try.params18] at hA hval
  obtain ⟨v0, vs0, d0, ds0, p0, q0, hargs, rfl, rfl, h0, r0⟩ := trodAll_cons hA
  obtain ⟨rfl, rfl, rfl⟩ := trodAll_nil r0
  obtain rfl : args = #[v0] := by cases args; simp_all
  obtain ⟨rfl, rfl⟩ := trodVars_none hV
  have k0 := h0
  have lt0 : ∀ x ∈ p0, x.block < W.heap.size := by obtain ⟨m, hm⟩ := k0; exact DataW.trod_lt m _ _ _ hm
  obtain ⟨a0, len0, cap0, rfl⟩ := okWide_slice Try.underlying29 (hval 0 29 v0 rfl rfl)
  have kk0 := k0
  obtain ⟨fuel0, hf0⟩ := kk0
  obtain ⟨z0, rfl, hz0, hc0, hw0, hRd0⟩ := slice_in (α := UInt8) (f := fun a : UInt8 => [byteV a]) (c := 1) Try.underlying29 (by kernel_rfl) (fun _ => rfl) (byte_el Try.underlying5) hf0
  rw [flat_one] at hRd0
  clear hA0 hval0
  refine (V.FnUnpackWords_fn a0 cap0 z0 W hRd0 hz0 hc0).out.mono fun e W' ⟨v, he, hv, hg⟩ => ?_
  subst he hv
  have bel : Below W.heap.size W W' := ⟨hg.os, hg.tape, hg.output, hg.size, fun k hk => hg.block k hk (by simp)⟩
  exact ⟨_, rfl, _, _, _, [], _, [], hW', trodAll_mk1 (shut_bool Try.underlying4 _), (trodAll_cons_mk (Below.trod laidOut (by kernel_rfl) (of_decide_eq_true (by kernel_rfl)) k0 bel lt0) trodAll_mk0), rfl, bel.frame _, fun h => by cases h⟩

theorem named_ : Try.prog.funcNamed Rows.fnUnpackWordsRow.func = some 18 := by kernel_rfl
theorem closed : joinedFacts Try.prog 18 Try.f18 Rows.fnUnpackWordsSpec Rows.fnUnpackWordsRow = true := by
  unfold joinedFacts
  rw [enter_, lifts_, made_]
  kernel_rfl
theorem inst_ : Try.f18.isInstance Try.prog Rows.fnUnpackWordsRow.origin Rows.fnUnpackWordsRow.targs := of_decide_eq_true (by kernel_rfl)
theorem wrap_ : Try.f18.isWrapper Try.prog Rows.fnUnpackWordsRow.wrapper Rows.fnUnpackWordsRow.mainSum := by
  unfold Func.isWrapper
  rw [if_neg (by decide +kernel)]
  exact ⟨rfl, rfl⟩
theorem over : Rows.fnUnpackWordsRow.holds Try.pinned (OpenSpec.ofChange Rows.fnUnpackWordsSpec) :=
  OpenClaim.holds_of_wide 18 Try.f18 rfl rfl rfl rfl rfl rfl rfl ⟨rfl, rfl, rfl, rfl, rfl⟩ rfl rfl rfl rfl rfl named_ Try.func18 closed inst_ wrap_
    (fun os started H enc _ => lifted os started H enc)
theorem proved : Rows.FnUnpackWordsSaid := over
end Go.Proofs.Ytekfncmhinbghaa.fnUnpackWords
