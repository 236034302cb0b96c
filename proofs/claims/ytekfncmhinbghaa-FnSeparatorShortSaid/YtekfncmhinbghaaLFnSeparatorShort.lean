/- The statement Rows.FnSeparatorShortSaid: the Go function laws.FnSeparatorShort returns true for every input, and each argument reads afterwards as it read before. No conditions. -/
import Derived.Test.YtekfncmhinbghaaRows
import Derived.Test.YtekfncmhinbghaaPxO
import Derived.Test.YtekfncmhinbghaaF1
import Derived.Test.YtekfncmhinbghaaW1
import Derived.Test.YtekfncmhinbghaaH0
import Derived.WalkKit
import Derived.ProofKit
import Derived.OpenShut
import Derived.ShutString
import Derived.ChangeOld
import Derived.SliceStrings
import Derived.Deep.Slices
import Derived.Deep.Fields
import Derived.ChangeSame
import Derived.Below
set_option linter.unusedVariables false
set_option linter.unusedSimpArgs false
namespace Go.Proofs.Ytekfncmhinbghaa.fnSeparatorShort
open Go.ChangeShapes Go.WideShapes Go.ChangeAt Go.RowKit Go.Px
open Go.ChangeMaps (open_string shut_string)
set_option linter.unusedVariables false

theorem own : ownKnob Try.prog.godebug = none := by kernel_rfl
theorem laidOut : laidOutB Try.prog = true := by kernel_rfl
theorem FnSeparatorShort_fn (A : Option Addr) (c : Nat) (l : List UInt8) (w : World) (hA : Rd w A (l.map byteV)) (hl : l.length ≤ 9223372036854775807) (hc : l.length ≤ c) :
    Does Try.prog 7 [.slice (A) (l.length) (c)] w (fun v w1 => v = .bool true ∧ w.grownBy w1 none) := by
  refine Does.enter1 Try.func7 rfl Try.results7 Try.ntmps7 rfl ?_
  refine C.seq ?_
  refine C.region ?_
  refine O.val rfl (Ru.assign rfl) rfl ?_
  refine O.nil ?_
  refine C.seq ?_
  refine C.seq ?_
  refine C.region ?_
  refine O.val rfl (Ru.move rfl) rfl ?_
  refine O.val rfl (Ru.blenSlice Try.underlying29 rfl) rfl ?_
  refine O.val rfl (Ru.gtr rfl rfl) rfl ?_
  refine O.nil ?_
  refine C.cond (p := ((l.length : Nat) : Int) > 1048576) rfl (fun c8 => ?_) (fun c8 => ?_)
  · refine C.seq ?_
    refine C.region ?_
    refine O.val rfl (Ru.assign rfl) rfl ?_
    refine O.nil ?_
    refine C.ret ?_
    refine P1 (v := .bool (true)) rfl ?_
    exact ⟨rfl, (krefl w none)⟩
  · refine C.skip ?_
    refine C.seq ?_
    refine C.region ?_
    refine O.val rfl (Ru.move rfl) rfl ?_
    refine O.callg [.slice (A) (l.length) (c)] rfl en27 rfl rfl (DrawSeparator_fn (A) (c) (l) w (hA.ext (krefl w none)) (by omega) hc) ?_
    rintro _ w3_1 ⟨⟨x, y, rfl, hx, hy⟩, hE3_1⟩
    have hK3_1 := kext (krefl w none) hE3_1
    refine O.val rfl (Ru.move rfl) rfl ?_
    refine O.val rfl (Ru.extract rfl rfl) rfl ?_
    refine O.val rfl (Ru.extract rfl rfl) rfl ?_
    refine O.val rfl (Ru.assign rfl) rfl ?_
    refine O.val rfl (Ru.assign rfl) rfl ?_
    refine O.nil ?_
    refine C.seq ?_
    refine C.region ?_
    refine O.val rfl (Ru.move rfl) rfl ?_
    refine O.val rfl (Ru.move rfl) rfl ?_
    refine O.callg [S (x), S (y)] rfl en21 rfl rfl (Separator_fn (x) (y) ((by omega)) ((by omega)) w3_1) ?_
    rintro _ w4_2 ⟨rfl, hE4_2⟩
    have hK4_2 := kext hK3_1 hE4_2
    refine O.val rfl (Ru.assign rfl) rfl ?_
    refine O.nil ?_
    refine C.seq ?_
    refine C.seq ?_
    refine C.region ?_
    refine O.val rfl (Ru.move rfl) rfl ?_
    refine O.val rfl (Ru.move rfl) rfl ?_
    refine O.val rfl (Ru.move rfl) rfl ?_
    refine O.callg [S (x), S (y)] rfl en20 rfl rfl (sSeparator_fn (x) (y) ((by omega)) ((by omega)) w4_2) ?_
    rintro _ w5_3 ⟨rfl, hE5_3⟩
    have hK5_3 := kext hK4_2 hE5_3
    refine O.val rfl (Ru.sneq rfl rfl) rfl ?_
    refine O.val rfl (Ru.move rfl) rfl ?_
    refine O.partp 22 (sepF (x) (y) ≠ sepF (x) (y)) rfl (fun g22 => ?_) (fun g22 => ?_)
    · refine O.pass rfl rfl rfl rfl rfl ?_
      refine O.pass rfl rfl rfl rfl rfl ?_
      refine O.val rfl (Ru.pickT rfl rfl) rfl ?_
      refine O.nil ?_
      refine C.condT rfl ?_
      refine C.seq ?_
      refine C.region ?_
      refine O.val rfl (Ru.move rfl) rfl ?_
      refine O.val rfl (Ru.move rfl) rfl ?_
      refine O.val rfl (Ru.move rfl) rfl ?_
      refine O.callg [S (x), S (y)] rfl en20 rfl rfl (sSeparator_fn (x) (y) ((by omega)) ((by omega)) w5_3) ?_
      rintro _ w6_3 ⟨rfl, hE6_3⟩
      have hK6_3 := kext hK5_3 hE6_3
      refine O.val rfl (Ru.seql rfl rfl) rfl ?_
      refine O.val rfl (Ru.assign rfl) rfl ?_
      refine O.nil ?_
      refine C.ret ?_
      refine P1 (v := .bool (decide (sepF (x) (y) = sepF (x) (y)))) rfl ?_
      exact ⟨by simp, hK6_3⟩
    · refine O.val rfl (Ru.move rfl) rfl ?_
      refine O.val rfl (Ru.seql rfl rfl) rfl ?_
      refine O.val rfl (Ru.pickF rfl rfl) rfl ?_
      refine O.nil ?_
      refine C.cond (p := sepF (x) (y) = []) rfl (fun c25 => ?_) (fun c25 => ?_)
      · refine C.seq ?_
        refine C.region ?_
        refine O.val rfl (Ru.move rfl) rfl ?_
        refine O.val rfl (Ru.move rfl) rfl ?_
        refine O.val rfl (Ru.move rfl) rfl ?_
        refine O.callg [S (x), S (y)] rfl en20 rfl rfl (sSeparator_fn (x) (y) ((by omega)) ((by omega)) w5_3) ?_
        rintro _ w6_3 ⟨rfl, hE6_3⟩
        have hK6_3 := kext hK5_3 hE6_3
        refine O.val rfl (Ru.seql rfl rfl) rfl ?_
        refine O.val rfl (Ru.assign rfl) rfl ?_
        refine O.nil ?_
        refine C.ret ?_
        refine P1 (v := .bool (decide (sepF (x) (y) = sepF (x) (y)))) rfl ?_
        exact ⟨by simp, hK6_3⟩
      · have hne : sepF x y ≠ [] := c25
        have h1 := sep_short hne
        have h2 := sep_pos hne
        have h3 := sep_back hne
        have h4 := sep_len hne
        have h5 := comm_le x y
        refine C.skip ?_
        refine C.seq ?_
        refine C.region ?_
        refine O.val rfl (Ru.move rfl) rfl ?_
        refine O.val rfl (Ru.move rfl) rfl ?_
        refine O.val rfl (Ru.slen Try.underlying9 rfl) rfl ?_
        refine O.val rfl (Ru.sub rfl rfl (by omega)) rfl ?_
        refine O.val rfl (Ru.ssliceTo (h := (sepF x y).length - 1) Try.underlying9 rfl rfl (by omega) (by omega)) rfl ?_
        refine O.val rfl (Ru.move rfl) rfl ?_
        refine O.val rfl (Ru.sleq rfl rfl) rfl ?_
        refine O.val rfl (Ru.move rfl) rfl ?_
        refine O.part 38 ((blt ((sepF (x) (y)).take ((sepF x y).length - 1)) (x) || decide ((sepF (x) (y)).take ((sepF x y).length - 1) = x))) rfl (fun g38 => ?_) (fun g38 => ?_)
        · refine O.val rfl (Ru.move rfl) rfl ?_
          refine O.val rfl (Ru.slen Try.underlying9 rfl) rfl ?_
          refine O.val rfl (Ru.move rfl) rfl ?_
          refine O.val rfl (Ru.slen Try.underlying9 rfl) rfl ?_
          refine O.val rfl (Ru.sub rfl rfl (by omega)) rfl ?_
          refine O.val rfl (Ru.geq rfl rfl) rfl ?_
          refine O.val rfl (Ru.pickT rfl rfl) rfl ?_
          refine O.val rfl (Ru.move rfl) rfl ?_
          refine O.partp 46 (((x).length : Int) ≥ (((sepF (x) (y)).length : Int) - 1)) rfl (fun g46 => ?_) (fun g46 => ?_)
          · refine O.val rfl (Ru.move rfl) rfl ?_
            refine O.val rfl (Ru.move rfl) rfl ?_
            refine O.callg [S (y), S (x)] rfl en21 rfl rfl (Separator_fn (y) (x) ((by omega)) ((by omega)) w5_3) ?_
            rintro _ w7_18 ⟨rfl, hE7_18⟩
            have hK7_18 := kext hK5_3 hE7_18
            refine O.val rfl (Ru.seql rfl rfl) rfl ?_
            refine O.val rfl (Ru.pickT rfl rfl) rfl ?_
            refine O.val rfl (Ru.assign rfl) rfl ?_
            refine O.nil ?_
            refine C.ret ?_
            refine P1 (v := .bool (decide (sepF (y) (x) = []))) rfl ?_
            exact ⟨by first | (simp_all; done) | (simp_all; omega), hK7_18⟩
          · refine O.pass rfl rfl rfl rfl rfl ?_
            refine O.pass rfl rfl rfl rfl rfl ?_
            refine O.pass rfl rfl rfl rfl rfl ?_
            refine O.pass rfl rfl rfl rfl rfl ?_
            refine O.val rfl (Ru.pickF rfl rfl) rfl ?_
            refine O.val rfl (Ru.assign rfl) rfl ?_
            refine O.nil ?_
            refine C.ret ?_
            refine P1 (v := .bool (false)) rfl ?_
            exact ⟨by first | (simp_all; done) | (simp_all; omega), hK5_3⟩
        · refine O.pass rfl rfl rfl rfl rfl ?_
          refine O.pass rfl rfl rfl rfl rfl ?_
          refine O.pass rfl rfl rfl rfl rfl ?_
          refine O.pass rfl rfl rfl rfl rfl ?_
          refine O.pass rfl rfl rfl rfl rfl ?_
          refine O.pass rfl rfl rfl rfl rfl ?_
          refine O.val rfl (Ru.pickF rfl rfl) rfl ?_
          refine O.val rfl (Ru.move rfl) rfl ?_
          refine O.pass rfl rfl rfl rfl rfl ?_
          refine O.pass rfl rfl rfl rfl rfl ?_
          refine O.pass rfl rfl rfl rfl rfl ?_
          refine O.pass rfl rfl rfl rfl rfl ?_
          refine O.val rfl (Ru.pickF rfl rfl) rfl ?_
          refine O.val rfl (Ru.assign rfl) rfl ?_
          refine O.nil ?_
          refine C.ret ?_
          refine P1 (v := .bool (false)) rfl ?_
          exact ⟨by first | (simp_all; done) | (simp_all; omega), hK5_3⟩

set_option maxRecDepth 100000 in
theorem lifted (os : Os) (started : os.Started) (H : Type) (enc : TypeId × Value → H) :
    ReturnsInHanded {} Try.checked os 7 .any (Rows.fnSeparatorShortSpec.pre6 enc Try.prog Try.f7 Rows.fnSeparatorShortRow.domain false) (Rows.fnSeparatorShortSpec.post enc Try.prog Try.f7 false true false false) := by
  refine returnsInHanded_of_change (C := Try.checked) own started (by kernel_rfl) Try.func7
    (ChangeSpec.witness6 (enc := enc) (C := Try.checked) false ⟨#[], #[.slice none 0 0], []⟩ 8 (by kernel_rfl) (by kernel_rfl) (by kernel_rfl) (by kernel_rfl)) ?_
  intro W base args ds gs before hval0 hW hcnd _
  have hval : ∀ (j : Nat) t v, Try.f7.params[j]? = some t → args[j]? = some v → Value.okWide Try.prog W .any base t v := hval0
  have hW' := hW
  obtain ⟨p, q, hA0, hV, rfl, hfz, hnd⟩ := hW
  have hA : DataW.TrodAll enc Try.prog W 0 (fun _ => true) true Try.f7.params.toList args.toList ds p := hA0
  rw [Try.params7] at hA hval
  obtain ⟨v0, vs0, d0, ds0, p0, q0, hargs, rfl, rfl, h0, r0⟩ := trodAll_cons hA
  obtain ⟨rfl, rfl, rfl⟩ := trodAll_nil r0
  obtain rfl : args = #[v0] := by cases args; simp_all
  obtain ⟨rfl, rfl⟩ := trodVars_none hV
  have k0 := h0
  have lt0 : ∀ x ∈ p0, x.block < W.heap.size := by obtain ⟨m, hm⟩ := k0; exact DataW.trod_lt m _ _ _ hm
  obtain ⟨a0, len0, cap0, rfl⟩ := okWide_slice Try.underlying29 (hval 0 29 v0 rfl rfl)
  have kk0 := k0
  obtain ⟨fuel0, hf0⟩ := kk0
  obtain ⟨z0, rfl, hz0, hc0, hw0, hRd0⟩ := slice_in (α := UInt8) (f := fun a : UInt8 => [byteV a]) (c := 1) Try.underlying29 (by kernel_rfl) (fun _ => rfl) (byte_el Try.underlying5) hf0
  rw [flat_one] at hRd0
  clear hA0 hval0
  refine (FnSeparatorShort_fn a0 cap0 z0 W hRd0 hz0 hc0).out.mono fun e W' ⟨v, he, hv, hg⟩ => ?_
  subst he hv
  have bel : Below W.heap.size W W' := ⟨hg.os, hg.tape, hg.output, hg.size, fun k hk => hg.block k hk (by simp)⟩
  exact ⟨_, rfl, _, _, _, [], _, [], hW', trodAll_mk1 (shut_bool Try.underlying4 _), (trodAll_cons_mk (Below.trod laidOut (by kernel_rfl) (of_decide_eq_true (by kernel_rfl)) k0 bel lt0) trodAll_mk0), rfl, bel.frame _, fun h => by cases h⟩

theorem named_ : Try.prog.funcNamed Rows.fnSeparatorShortRow.func = some 7 := by kernel_rfl
theorem closed : joinedFacts Try.prog 7 Try.f7 Rows.fnSeparatorShortSpec Rows.fnSeparatorShortRow = true := by
  unfold joinedFacts
  rw [enter_, lifts_, made_]
  kernel_rfl
theorem inst_ : Try.f7.isInstance Try.prog Rows.fnSeparatorShortRow.origin Rows.fnSeparatorShortRow.targs := of_decide_eq_true (by kernel_rfl)
theorem wrap_ : Try.f7.isWrapper Try.prog Rows.fnSeparatorShortRow.wrapper Rows.fnSeparatorShortRow.mainSum := by
  unfold Func.isWrapper
  rw [if_neg (by decide +kernel)]
  exact ⟨rfl, rfl⟩
theorem over : Rows.fnSeparatorShortRow.holds Try.pinned (OpenSpec.ofChange Rows.fnSeparatorShortSpec) :=
  OpenClaim.holds_of_wide 7 Try.f7 rfl rfl rfl rfl rfl rfl rfl ⟨rfl, rfl, rfl, rfl, rfl⟩ rfl rfl rfl rfl rfl named_ Try.func7 closed inst_ wrap_
    (fun os started H enc _ => lifted os started H enc)
theorem proved : Rows.FnSeparatorShortSaid := over
end Go.Proofs.Ytekfncmhinbghaa.fnSeparatorShort
