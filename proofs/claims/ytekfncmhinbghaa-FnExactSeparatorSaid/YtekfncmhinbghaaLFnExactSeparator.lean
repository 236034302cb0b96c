/- The statement Rows.FnExactSeparatorSaid: the Go function laws.FnExactSeparator returns true for every input, and each argument reads afterwards as it read before. No conditions. -/
import Derived.Test.YtekfncmhinbghaaRows
import Derived.Test.YtekfncmhinbghaaPxO
import Derived.Test.YtekfncmhinbghaaF0
import Derived.Test.YtekfncmhinbghaaH0
import Derived.WalkKit
import Derived.ProofKit
import Derived.OpenShut
import Derived.ShutString
import Derived.ChangeOld
import Derived.SliceStrings
import Derived.Deep.Slices
import Derived.Deep.Fields
import Derived.ChangeSame
import Derived.Below
set_option linter.unusedVariables false
set_option linter.unusedSimpArgs false
namespace Go.Proofs.Ytekfncmhinbghaa.fnExactSeparator
open Go.ChangeShapes Go.WideShapes Go.ChangeAt Go.RowKit Go.Px
open Go.ChangeMaps (open_string shut_string)
set_option linter.unusedVariables false

theorem own : ownKnob Try.prog.godebug = none := by kernel_rfl
theorem laidOut : laidOutB Try.prog = true := by kernel_rfl
theorem FnExactSeparator_fn (a b : Str) (w : World) :
    Does Try.prog 3 [S (a), S (b)] w (fun v w1 => v = .bool true ∧ w.grownBy w1 none) := by
  refine Does.enter1 Try.func3 rfl Try.results3 Try.ntmps3 rfl ?_
  refine C.seq ?_
  refine C.region ?_
  refine O.val rfl (Ru.assign rfl) rfl ?_
  refine O.nil ?_
  refine C.seq ?_
  refine C.seq ?_
  refine C.region ?_
  refine O.val rfl (Ru.move rfl) rfl ?_
  refine O.val rfl (Ru.slen Try.underlying9 rfl) rfl ?_
  refine O.val rfl (Ru.gtr rfl rfl) rfl ?_
  refine O.nil ?_
  refine C.cond (p := ((a).length : Int) > 1048576) rfl (fun c9 => ?_) (fun c9 => ?_)
  · refine C.seq ?_
    refine C.region ?_
    refine O.val rfl (Ru.assign rfl) rfl ?_
    refine O.nil ?_
    refine C.ret ?_
    refine P1 (v := .bool (true)) rfl ?_
    exact ⟨rfl, (krefl w none)⟩
  · refine C.skip ?_
    refine C.seq ?_
    refine C.seq ?_
    refine C.region ?_
    refine O.val rfl (Ru.move rfl) rfl ?_
    refine O.val rfl (Ru.slen Try.underlying9 rfl) rfl ?_
    refine O.val rfl (Ru.gtr rfl rfl) rfl ?_
    refine O.nil ?_
    refine C.cond (p := ((b).length : Int) > 1048576) rfl (fun c12 => ?_) (fun c12 => ?_)
    · refine C.seq ?_
      refine C.region ?_
      refine O.val rfl (Ru.assign rfl) rfl ?_
      refine O.nil ?_
      refine C.ret ?_
      refine P1 (v := .bool (true)) rfl ?_
      exact ⟨rfl, (krefl w none)⟩
    · refine C.skip ?_
      refine C.seq ?_
      refine C.region ?_
      refine O.val rfl (Ru.move rfl) rfl ?_
      refine O.val rfl (Ru.move rfl) rfl ?_
      refine O.callg [S (a), S (b)] rfl en20 rfl rfl (sSeparator_fn (a) (b) ((by omega)) ((by omega)) w) ?_
      rintro _ w5_2 ⟨rfl, hE5_2⟩
      have hK5_2 := kext (krefl w none) hE5_2
      refine O.val rfl (Ru.assign rfl) rfl ?_
      refine O.nil ?_
      refine C.seq ?_
      refine C.region ?_
      refine O.val rfl (Ru.move rfl) rfl ?_
      refine O.val rfl (Ru.move rfl) rfl ?_
      refine O.callg [S (a), S (b)] rfl en21 rfl rfl (Separator_fn (a) (b) ((by omega)) ((by omega)) w5_2) ?_
      rintro _ w6_2 ⟨rfl, hE6_2⟩
      have hK6_2 := kext hK5_2 hE6_2
      refine O.val rfl (Ru.assign rfl) rfl ?_
      refine O.nil ?_
      refine C.seq ?_
      refine C.seq ?_
      refine C.region ?_
      refine O.val rfl (Ru.move rfl) rfl ?_
      refine O.val rfl (Ru.move rfl) rfl ?_
      refine O.val rfl (Ru.sneq rfl rfl) rfl ?_
      refine O.nil ?_
      refine C.cond (p := sepF (a) (b) ≠ sepF (a) (b)) rfl (fun c21 => ?_) (fun c21 => ?_)
      · exact absurd rfl c21
      · refine C.skip ?_
        refine C.seq ?_
        refine C.region ?_
        refine O.val rfl (Ru.assign rfl) rfl ?_
        refine O.nil ?_
        refine C.ret ?_
        refine P1 (v := .bool (true)) rfl ?_
        exact ⟨rfl, hK6_2⟩

set_option maxRecDepth 100000 in
theorem lifted (os : Os) (started : os.Started) (H : Type) (enc : TypeId × Value → H) :
    ReturnsInHanded {} Try.checked os 3 .any (Rows.fnExactSeparatorSpec.pre6 enc Try.prog Try.f3 Rows.fnExactSeparatorRow.domain false) (Rows.fnExactSeparatorSpec.post enc Try.prog Try.f3 false true false false) := by
  refine returnsInHanded_of_change (C := Try.checked) own started (by kernel_rfl) Try.func3
    (ChangeSpec.witness6 (enc := enc) (C := Try.checked) false ⟨#[], #[.string ByteArray.empty, .string ByteArray.empty], []⟩ 8 (by kernel_rfl) (by kernel_rfl) (by kernel_rfl) (by kernel_rfl)) ?_
  intro W base args ds gs before hval0 hW hcnd _
  have hval : ∀ (j : Nat) t v, Try.f3.params[j]? = some t → args[j]? = some v → Value.okWide Try.prog W .any base t v := hval0
  have hW' := hW
  obtain ⟨p, q, hA0, hV, rfl, hfz, hnd⟩ := hW
  have hA : DataW.TrodAll enc Try.prog W 0 (fun _ => true) true Try.f3.params.toList args.toList ds p := hA0
  rw [Try.params3] at hA hval
  obtain ⟨v0, vs0, d0, ds0, p0, q0, hargs, rfl, rfl, h0, r0⟩ := trodAll_cons hA
  obtain ⟨v1, vs1, d1, ds1, p1, q1, rfl, rfl, rfl, h1, r1⟩ := trodAll_cons r0
  obtain ⟨rfl, rfl, rfl⟩ := trodAll_nil r1
  obtain rfl : args = #[v0, v1] := by cases args; simp_all
  obtain ⟨rfl, rfl⟩ := trodVars_none hV
  have k0 := h0
  have lt0 : ∀ x ∈ p0, x.block < W.heap.size := by obtain ⟨m, hm⟩ := k0; exact DataW.trod_lt m _ _ _ hm
  obtain ⟨a0, rfl, rfl, rfl, w0⟩ := open_string Try.underlying9 (hval 0 9 v0 rfl rfl) h0
  have k1 := h1
  have lt1 : ∀ x ∈ p1, x.block < W.heap.size := by obtain ⟨m, hm⟩ := k1; exact DataW.trod_lt m _ _ _ hm
  obtain ⟨a1, rfl, rfl, rfl, w1⟩ := open_string Try.underlying9 (hval 1 9 v1 rfl rfl) h1
  clear hA0 hval0
  refine (FnExactSeparator_fn a0.data.toList a1.data.toList W).out.mono fun e W' ⟨v, he, hv, hg⟩ => ?_
  subst he hv
  have bel : Below W.heap.size W W' := ⟨hg.os, hg.tape, hg.output, hg.size, fun k hk => hg.block k hk (by simp)⟩
  exact ⟨_, rfl, _, _, _, [], _, [], hW', trodAll_mk1 (shut_bool Try.underlying4 _), (trodAll_cons_mk (Below.trod laidOut (by kernel_rfl) (of_decide_eq_true (by kernel_rfl)) k0 bel lt0) (trodAll_cons_mk (Below.trod laidOut (by kernel_rfl) (of_decide_eq_true (by kernel_rfl)) k1 bel lt1) trodAll_mk0)), rfl, bel.frame _, fun h => by cases h⟩

theorem named_ : Try.prog.funcNamed Rows.fnExactSeparatorRow.func = some 3 := by kernel_rfl
theorem closed : joinedFacts Try.prog 3 Try.f3 Rows.fnExactSeparatorSpec Rows.fnExactSeparatorRow = true := by
  unfold joinedFacts
  rw [enter_, lifts_, made_]
  kernel_rfl
theorem inst_ : Try.f3.isInstance Try.prog Rows.fnExactSeparatorRow.origin Rows.fnExactSeparatorRow.targs := of_decide_eq_true (by kernel_rfl)
theorem wrap_ : Try.f3.isWrapper Try.prog Rows.fnExactSeparatorRow.wrapper Rows.fnExactSeparatorRow.mainSum := by
  unfold Func.isWrapper
  rw [if_neg (by decide +kernel)]
  exact ⟨rfl, rfl⟩
theorem over : Rows.fnExactSeparatorRow.holds Try.pinned (OpenSpec.ofChange Rows.fnExactSeparatorSpec) :=
  OpenClaim.holds_of_wide 3 Try.f3 rfl rfl rfl rfl rfl rfl rfl ⟨rfl, rfl, rfl, rfl, rfl⟩ rfl rfl rfl rfl rfl named_ Try.func3 closed inst_ wrap_
    (fun os started H enc _ => lifted os started H enc)
theorem proved : Rows.FnExactSeparatorSaid := over
end Go.Proofs.Ytekfncmhinbghaa.fnExactSeparator
