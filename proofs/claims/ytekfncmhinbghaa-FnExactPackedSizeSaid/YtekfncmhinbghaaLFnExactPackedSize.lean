/- The statement Rows.FnExactPackedSizeSaid: the Go function laws.FnExactPackedSize returns true for every input, and each argument reads afterwards as it read before. No conditions. -/
import Derived.Test.YtekfncmhinbghaaRows
import Derived.Test.YtekfncmhinbghaaPxO
import Derived.Test.YtekfncmhinbghaaF1
import Derived.Test.YtekfncmhinbghaaH0
import Derived.WalkKit
import Derived.ProofKit
import Derived.OpenShut
import Derived.ShutString
import Derived.ChangeOld
import Derived.SliceStrings
import Derived.Deep.Slices
import Derived.Deep.Fields
import Derived.ChangeSame
import Derived.Below
set_option linter.unusedVariables false
set_option linter.unusedSimpArgs false
namespace Go.Proofs.Ytekfncmhinbghaa.fnExactPackedSize
open Go.ChangeShapes Go.WideShapes Go.ChangeAt Go.RowKit Go.Px
open Go.ChangeMaps (open_string shut_string)
set_option linter.unusedVariables false

theorem own : ownKnob Try.prog.godebug = none := by kernel_rfl
theorem laidOut : laidOutB Try.prog = true := by kernel_rfl
theorem FnExactPackedSize_fn (A : Option Addr) (c : Nat) (l : List Str) (w : World) (hA : Rd w A (l.map S)) (hl : l.length ≤ 9223372036854775807) (hs : ∀ s ∈ l, s.length ≤ 9223372036854775807) :
    Does Try.prog 9 [.slice (A) (l.length) (c)] w (fun v w1 => v = .bool true ∧ w.grownBy w1 none) := by
  refine Does.enter1 Try.func9 rfl Try.results9 Try.ntmps9 rfl ?_
  refine C.seq ?_
  refine C.region ?_
  refine O.val rfl (Ru.assign rfl) rfl ?_
  refine O.nil ?_
  refine C.seq ?_
  refine C.region ?_
  refine O.val rfl (Ru.assign rfl) rfl ?_
  refine O.nil ?_
  refine C.seq ?_
  refine C.region ?_
  refine O.val rfl (Ru.move rfl) rfl ?_
  refine O.val rfl (Ru.move rfl) rfl ?_
  refine O.callg [.slice (A) (l.length) (c), I (1048576)] rfl en22 rfl rfl (szStringS_fn (A) (c) (l) w (hA.ext (krefl w none)) (by omega) hs (1048576) (by decide) (by decide)) ?_
  rintro _ w2_2 ⟨rfl, hE2_2⟩
  have hK2_2 := kext (krefl w none) hE2_2
  refine O.val rfl (Ru.assign rfl) rfl ?_
  refine O.nil ?_
  refine C.seq ?_
  refine C.seq ?_
  refine C.region ?_
  refine O.val rfl (Ru.move rfl) rfl ?_
  refine O.val rfl (Ru.lss rfl rfl) rfl ?_
  refine O.nil ?_
  refine C.cond (p := szF (1048576) ((l).length + sumL (l)) < 0) rfl (fun c11 => ?_) (fun c11 => ?_)
  · refine C.seq ?_
    refine C.region ?_
    refine O.val rfl (Ru.assign rfl) rfl ?_
    refine O.nil ?_
    refine C.ret ?_
    refine P1 (v := .bool (true)) rfl ?_
    exact ⟨rfl, hK2_2⟩
  · obtain ⟨hz1, hz2⟩ := szF_le c11
    refine C.skip ?_
    refine C.seq ?_
    refine C.region ?_
    refine O.val rfl (Ru.move rfl) rfl ?_
    refine O.callg [.slice (A) (l.length) (c)] rfl en24 rfl rfl (toStringS_fn (A) (c) (l) w2_2 (hA.ext hK2_2) (by omega)) ?_
    rintro _ w5_1 ⟨ho5_1, hE5_1⟩
    have hz_ho5_1 := hK2_2.size
    obtain ⟨A5_1, c5_1, rfl, hc5_1, hm5_1, -, hF5_1, -⟩ := own_form ho5_1
    have hK5_1 := kext hK2_2 hE5_1
    refine O.callg [.slice (A5_1) ((l).length) (c5_1)] rfl en29 rfl rfl (SPackedSize_fn (A5_1) (c5_1) (l) w5_1 (own_rd ho5_1) (by omega) (fun s hs => by have := sumL_mem hs; omega)) ?_
    rintro _ w5_2 ⟨rfl, hE5_2⟩
    have hK5_2 := kext hK5_1 hE5_2
    replace ho5_1 := own_ext ho5_1 hE5_2
    refine O.val rfl (Ru.assign rfl) rfl ?_
    refine O.nil ?_
    refine C.seq ?_
    refine C.region ?_
    refine O.val rfl (Ru.move rfl) rfl ?_
    refine O.callg [.slice (A) (l.length) (c)] rfl en24 rfl rfl (toStringS_fn (A) (c) (l) w5_2 (hA.ext hK5_2) (by omega)) ?_
    rintro _ w6_1 ⟨ho6_1, hE6_1⟩
    have dj_ho5_1_ho6_1 := dj_new ho5_1 ho6_1 (Nat.le_refl _)
    have hz_ho6_1 := hK5_2.size
    obtain ⟨A6_1, c6_1, rfl, hc6_1, hm6_1, -, hF6_1, -⟩ := own_form ho6_1
    have hK6_1 := kext hK5_2 hE6_1
    replace ho5_1 := own_ext ho5_1 hE6_1
    refine O.val rfl (Ru.assign rfl) rfl ?_
    refine O.nil ?_
    refine C.seq ?_
    refine C.region ?_
    refine O.val rfl (Ru.move rfl) rfl ?_
    refine O.callg [.slice (A6_1) ((l).length) (c6_1)] rfl en30 rfl rfl (PackedSize_fn (A6_1) (c6_1) (l) w6_1 (own_rd ho6_1) (by omega) (fun s hs => by have := sumL_mem hs; omega)) ?_
    rintro _ w7_1 ⟨rfl, hE7_1⟩
    have hK7_1 := kext hK6_1 hE7_1
    replace ho5_1 := own_ext ho5_1 hE7_1
    replace ho6_1 := own_ext ho6_1 hE7_1
    refine O.val rfl (Ru.assign rfl) rfl ?_
    refine O.nil ?_
    refine C.seq ?_
    refine C.seq ?_
    refine C.region ?_
    refine O.val rfl (Ru.move rfl) rfl ?_
    refine O.val rfl (Ru.move rfl) rfl ?_
    refine O.val rfl (Ru.neq rfl rfl) rfl ?_
    refine O.nil ?_
    refine C.cond (p := pszF (l) ≠ pszF (l)) rfl (fun c21 => ?_) (fun c21 => ?_)
    · exact absurd rfl c21
    · refine C.skip ?_
      refine C.seq ?_
      refine C.seq ?_
      refine C.region ?_
      refine O.val rfl (Ru.move rfl) rfl ?_
      refine O.val rfl (Ru.move rfl) rfl ?_
      refine O.callg [.slice (A) (l.length) (c)] rfl en24 rfl rfl (toStringS_fn (A) (c) (l) w7_1 (hA.ext hK7_1) (by omega)) ?_
      rintro _ w10_2 ⟨ho10_2, hE10_2⟩
      have dj_ho5_1_ho10_2 := dj_new ho5_1 ho10_2 (Nat.le_refl _)
      have dj_ho6_1_ho10_2 := dj_new ho6_1 ho10_2 (Nat.le_refl _)
      have hz_ho10_2 := hK7_1.size
      obtain ⟨A10_2, c10_2, rfl, hc10_2, hm10_2, -, hF10_2, -⟩ := own_form ho10_2
      have hK10_2 := kext hK7_1 hE10_2
      replace ho5_1 := own_ext ho5_1 hE10_2
      replace ho6_1 := own_ext ho6_1 hE10_2
      refine O.callg [.slice (A6_1) ((l).length) (c6_1), .slice (A10_2) ((l).length) (c10_2)] rfl en26 rfl rfl (eqStringS_fn (A6_1) (c6_1) (l) (A10_2) (c10_2) (l) w10_2 (own_rd ho6_1) (own_rd ho10_2) (by omega)) ?_
      rintro _ w10_3 ⟨rfl, hE10_3⟩
      have hK10_3 := kext hK10_2 hE10_3
      replace ho5_1 := own_ext ho5_1 hE10_3
      replace ho6_1 := own_ext ho6_1 hE10_3
      replace ho10_2 := own_ext ho10_2 hE10_3
      refine O.val rfl (Ru.not rfl) rfl ?_
      refine O.nil ?_
      refine C.condn (b := (decide (l = l))) rfl (fun c26 => ?_) (fun c26 => ?_)
      · simp at c26
      · refine C.skip ?_
        refine C.seq ?_
        refine C.region ?_
        refine O.val rfl (Ru.assign rfl) rfl ?_
        refine O.nil ?_
        refine C.ret ?_
        refine P1 (v := .bool (true)) rfl ?_
        exact ⟨rfl, hK10_3⟩

set_option maxRecDepth 100000 in
theorem lifted (os : Os) (started : os.Started) (H : Type) (enc : TypeId × Value → H) :
    ReturnsInHanded {} Try.checked os 9 .any (Rows.fnExactPackedSizeSpec.pre6 enc Try.prog Try.f9 Rows.fnExactPackedSizeRow.domain false) (Rows.fnExactPackedSizeSpec.post enc Try.prog Try.f9 false true false false) := by
  refine returnsInHanded_of_change (C := Try.checked) own started (by kernel_rfl) Try.func9
    (ChangeSpec.witness6 (enc := enc) (C := Try.checked) false ⟨#[], #[.slice none 0 0], []⟩ 8 (by kernel_rfl) (by kernel_rfl) (by kernel_rfl) (by kernel_rfl)) ?_
  intro W base args ds gs before hval0 hW hcnd _
  have hval : ∀ (j : Nat) t v, Try.f9.params[j]? = some t → args[j]? = some v → Value.okWide Try.prog W .any base t v := hval0
  have hW' := hW
  obtain ⟨p, q, hA0, hV, rfl, hfz, hnd⟩ := hW
  have hA : DataW.TrodAll enc Try.prog W 0 (fun _ => true) true Try.f9.params.toList args.toList ds p := hA0
  rw [Try.params9] at hA hval
  obtain ⟨v0, vs0, d0, ds0, p0, q0, hargs, rfl, rfl, h0, r0⟩ := trodAll_cons hA
  obtain ⟨rfl, rfl, rfl⟩ := trodAll_nil r0
  obtain rfl : args = #[v0] := by cases args; simp_all
  obtain ⟨rfl, rfl⟩ := trodVars_none hV
  have k0 := h0
  have lt0 : ∀ x ∈ p0, x.block < W.heap.size := by obtain ⟨m, hm⟩ := k0; exact DataW.trod_lt m _ _ _ hm
  obtain ⟨a0, len0, cap0, rfl⟩ := okWide_slice Try.underlying24 (hval 0 24 v0 rfl rfl)
  have kk0 := k0
  obtain ⟨fuel0, hf0⟩ := kk0
  obtain ⟨z0, rfl, hz0, hc0, hw0, hRd0⟩ := slice_in (α := Str) (f := fun a : Str => [S a]) (c := 1) Try.underlying24 (by kernel_rfl) (fun _ => rfl) (str_el Try.underlying9) hf0
  rw [flat_one] at hRd0
  clear hA0 hval0
  refine (FnExactPackedSize_fn a0 cap0 z0 W hRd0 hz0 hw0).out.mono fun e W' ⟨v, he, hv, hg⟩ => ?_
  subst he hv
  have bel : Below W.heap.size W W' := ⟨hg.os, hg.tape, hg.output, hg.size, fun k hk => hg.block k hk (by simp)⟩
  exact ⟨_, rfl, _, _, _, [], _, [], hW', trodAll_mk1 (shut_bool Try.underlying4 _), (trodAll_cons_mk (Below.trod laidOut (by kernel_rfl) (of_decide_eq_true (by kernel_rfl)) k0 bel lt0) trodAll_mk0), rfl, bel.frame _, fun h => by cases h⟩

theorem named_ : Try.prog.funcNamed Rows.fnExactPackedSizeRow.func = some 9 := by kernel_rfl
theorem closed : joinedFacts Try.prog 9 Try.f9 Rows.fnExactPackedSizeSpec Rows.fnExactPackedSizeRow = true := by
  unfold joinedFacts
  rw [enter_, lifts_, made_]
  kernel_rfl
theorem inst_ : Try.f9.isInstance Try.prog Rows.fnExactPackedSizeRow.origin Rows.fnExactPackedSizeRow.targs := of_decide_eq_true (by kernel_rfl)
theorem wrap_ : Try.f9.isWrapper Try.prog Rows.fnExactPackedSizeRow.wrapper Rows.fnExactPackedSizeRow.mainSum := by
  unfold Func.isWrapper
  rw [if_neg (by decide +kernel)]
  exact ⟨rfl, rfl⟩
theorem over : Rows.fnExactPackedSizeRow.holds Try.pinned (OpenSpec.ofChange Rows.fnExactPackedSizeSpec) :=
  OpenClaim.holds_of_wide 9 Try.f9 rfl rfl rfl rfl rfl rfl rfl ⟨rfl, rfl, rfl, rfl, rfl⟩ rfl rfl rfl rfl rfl named_ Try.func9 closed inst_ wrap_
    (fun os started H enc _ => lifted os started H enc)
theorem proved : Rows.FnExactPackedSizeSaid := over
end Go.Proofs.Ytekfncmhinbghaa.fnExactPackedSize
