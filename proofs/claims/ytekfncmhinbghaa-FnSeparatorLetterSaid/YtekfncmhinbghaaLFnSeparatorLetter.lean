/- The statement Rows.FnSeparatorLetterSaid: the Go function laws.FnSeparatorLetter returns true for every input, and each argument reads afterwards as it read before. No conditions. -/
import Derived.Test.YtekfncmhinbghaaRows
import Derived.Test.YtekfncmhinbghaaPxO
import Derived.Test.YtekfncmhinbghaaF1
import Derived.Test.YtekfncmhinbghaaW1
import Derived.Test.YtekfncmhinbghaaH0
import Derived.WalkKit
import Derived.ProofKit
import Derived.OpenShut
import Derived.ShutString
import Derived.ChangeOld
import Derived.SliceStrings
import Derived.Deep.Slices
import Derived.Deep.Fields
import Derived.ChangeSame
import Derived.Below
set_option linter.unusedVariables false
set_option linter.unusedSimpArgs false
namespace Go.Proofs.Ytekfncmhinbghaa.fnSeparatorLetter
open Go.ChangeShapes Go.WideShapes Go.ChangeAt Go.RowKit Go.Px
open Go.ChangeMaps (open_string shut_string)
set_option linter.unusedVariables false

theorem own : ownKnob Try.prog.godebug = none := by kernel_rfl
theorem laidOut : laidOutB Try.prog = true := by kernel_rfl
theorem FnSeparatorLetter_fn (A : Option Addr) (c : Nat) (l : List UInt8) (w : World) (hA : Rd w A (l.map byteV)) (hl : l.length ≤ 9223372036854775807) (hc : l.length ≤ c) :
    Does Try.prog 6 [.slice (A) (l.length) (c)] w (fun v w1 => v = .bool true ∧ w.grownBy w1 none) := by
  refine Does.enter1 Try.func6 rfl Try.results6 Try.ntmps6 rfl ?_
  refine C.seq ?_
  refine C.region ?_
  refine O.val rfl (Ru.assign rfl) rfl ?_
  refine O.nil ?_
  refine C.seq ?_
  refine C.seq ?_
  refine C.region ?_
  refine O.val rfl (Ru.move rfl) rfl ?_
  refine O.val rfl (Ru.blenSlice Try.underlying29 rfl) rfl ?_
  refine O.val rfl (Ru.gtr rfl rfl) rfl ?_
  refine O.nil ?_
  refine C.cond (p := ((l.length : Nat) : Int) > 1048576) rfl (fun c9 => ?_) (fun c9 => ?_)
  · refine C.seq ?_
    refine C.region ?_
    refine O.val rfl (Ru.assign rfl) rfl ?_
    refine O.nil ?_
    refine C.ret ?_
    refine P1 (v := .bool (true)) rfl ?_
    exact ⟨rfl, (krefl w none)⟩
  · refine C.skip ?_
    refine C.seq ?_
    refine C.region ?_
    refine O.val rfl (Ru.move rfl) rfl ?_
    refine O.callg [.slice (A) (l.length) (c)] rfl en27 rfl rfl (DrawSeparator_fn (A) (c) (l) w (hA.ext (krefl w none)) (by omega) hc) ?_
    rintro _ w3_1 ⟨⟨x, y, rfl, hx, hy⟩, hE3_1⟩
    have hK3_1 := kext (krefl w none) hE3_1
    refine O.val rfl (Ru.move rfl) rfl ?_
    refine O.val rfl (Ru.extract rfl rfl) rfl ?_
    refine O.val rfl (Ru.extract rfl rfl) rfl ?_
    refine O.val rfl (Ru.assign rfl) rfl ?_
    refine O.val rfl (Ru.assign rfl) rfl ?_
    refine O.nil ?_
    refine C.seq ?_
    refine C.region ?_
    refine O.val rfl (Ru.move rfl) rfl ?_
    refine O.val rfl (Ru.move rfl) rfl ?_
    refine O.callg [S (x), S (y)] rfl en21 rfl rfl (Separator_fn (x) (y) ((by omega)) ((by omega)) w3_1) ?_
    rintro _ w4_2 ⟨rfl, hE4_2⟩
    have hK4_2 := kext hK3_1 hE4_2
    refine O.val rfl (Ru.assign rfl) rfl ?_
    refine O.nil ?_
    refine C.seq ?_
    refine C.seq ?_
    refine C.region ?_
    refine O.val rfl (Ru.move rfl) rfl ?_
    refine O.val rfl (Ru.move rfl) rfl ?_
    refine O.val rfl (Ru.move rfl) rfl ?_
    refine O.callg [S (x), S (y)] rfl en20 rfl rfl (sSeparator_fn (x) (y) ((by omega)) ((by omega)) w4_2) ?_
    rintro _ w5_3 ⟨rfl, hE5_3⟩
    have hK5_3 := kext hK4_2 hE5_3
    refine O.val rfl (Ru.sneq rfl rfl) rfl ?_
    refine O.val rfl (Ru.move rfl) rfl ?_
    refine O.partp 23 (sepF (x) (y) ≠ sepF (x) (y)) rfl (fun g23 => ?_) (fun g23 => ?_)
    · refine O.pass rfl rfl rfl rfl rfl ?_
      refine O.pass rfl rfl rfl rfl rfl ?_
      refine O.val rfl (Ru.pickT rfl rfl) rfl ?_
      refine O.nil ?_
      refine C.condT rfl ?_
      refine C.seq ?_
      refine C.region ?_
      refine O.val rfl (Ru.move rfl) rfl ?_
      refine O.val rfl (Ru.move rfl) rfl ?_
      refine O.val rfl (Ru.move rfl) rfl ?_
      refine O.callg [S (x), S (y)] rfl en20 rfl rfl (sSeparator_fn (x) (y) ((by omega)) ((by omega)) w5_3) ?_
      rintro _ w6_3 ⟨rfl, hE6_3⟩
      have hK6_3 := kext hK5_3 hE6_3
      refine O.val rfl (Ru.seql rfl rfl) rfl ?_
      refine O.val rfl (Ru.assign rfl) rfl ?_
      refine O.nil ?_
      refine C.ret ?_
      refine P1 (v := .bool (decide (sepF (x) (y) = sepF (x) (y)))) rfl ?_
      exact ⟨by simp, hK6_3⟩
    · refine O.val rfl (Ru.move rfl) rfl ?_
      refine O.val rfl (Ru.seql rfl rfl) rfl ?_
      refine O.val rfl (Ru.pickF rfl rfl) rfl ?_
      refine O.nil ?_
      refine C.cond (p := sepF (x) (y) = []) rfl (fun c26 => ?_) (fun c26 => ?_)
      · refine C.seq ?_
        refine C.region ?_
        refine O.val rfl (Ru.move rfl) rfl ?_
        refine O.val rfl (Ru.move rfl) rfl ?_
        refine O.val rfl (Ru.move rfl) rfl ?_
        refine O.callg [S (x), S (y)] rfl en20 rfl rfl (sSeparator_fn (x) (y) ((by omega)) ((by omega)) w5_3) ?_
        rintro _ w6_3 ⟨rfl, hE6_3⟩
        have hK6_3 := kext hK5_3 hE6_3
        refine O.val rfl (Ru.seql rfl rfl) rfl ?_
        refine O.val rfl (Ru.assign rfl) rfl ?_
        refine O.nil ?_
        refine C.ret ?_
        refine P1 (v := .bool (decide (sepF (x) (y) = sepF (x) (y)))) rfl ?_
        exact ⟨by simp, hK6_3⟩
      · have hne : sepF x y ≠ [] := c26
        have h4 := sep_len hne
        have h5 := comm_le x y
        refine C.skip ?_
        refine C.seq ?_
        refine C.region ?_
        refine O.val rfl (Ru.assign rfl) rfl ?_
        refine O.nil ?_
        refine C.seq ?_
        refine C.block ?_
        refine C.loop (ι := Nat) (fun k => ([(3, S (x)), (4, S (y)), (5, S (sepF (x) (y))), (6, I ((k : Int)))] : List (Nat × Value))) (fun k w_ => k ≤ comm x y ∧ w.grownBy w_ none) (fun k => x.length - k) (0) (Has.cons rfl (Has.cons rfl (Has.cons rfl (Has.cons rfl Has.nil)))) ⟨Nat.zero_le _, hK5_3⟩ (fun k σ w_l8 hI => ?_)
        obtain ⟨hk, hK⟩ := hI
        refine C.seq ?_
        refine C.seq ?_
        refine C.draws (fun w2 => w_l8.grownBy w2 none) mixed (by kernel_rfl) (kdrawn _) ?_
        refine QO.val rfl (fun w2 hw2 => Ru.move rfl) rfl ?_
        refine QO.val rfl (fun w2 hw2 => Ru.move rfl) rfl ?_
        refine QO.val rfl (fun w2 hw2 => Ru.slen Try.underlying9 rfl) rfl ?_
        refine QO.val rfl (fun w2 hw2 => Ru.lss rfl rfl) rfl ?_
        refine QO.val rfl (fun w2 hw2 => Ru.move rfl) rfl ?_
        refine QO.partp 36 ((k : Int) < ((x).length : Int)) rfl (fun g36 => ?_) (fun g36 => ?_)
        · have hk1 : k < x.length := by omega
          refine QO.val rfl (fun w2 hw2 => Ru.move rfl) rfl ?_
          refine QO.val rfl (fun w2 hw2 => Ru.move rfl) rfl ?_
          refine QO.val rfl (fun w2 hw2 => Ru.slen Try.underlying9 rfl) rfl ?_
          refine QO.val rfl (fun w2 hw2 => Ru.lss rfl rfl) rfl ?_
          refine QO.val rfl (fun w2 hw2 => Ru.pickT rfl rfl) rfl ?_
          refine QO.val rfl (fun w2 hw2 => Ru.move rfl) rfl ?_
          refine QO.partp 42 ((k : Int) < ((y).length : Int)) rfl (fun g42 => ?_) (fun g42 => ?_)
          · have hk2 : k < y.length := by omega
            refine QO.val rfl (fun w2 hw2 => Ru.move rfl) rfl ?_
            refine QO.val rfl (fun w2 hw2 => Ru.move rfl) rfl ?_
            refine QO.val rfl (fun w2 hw2 => Ru.sindex (k) hk1 Try.underlying9 rfl rfl (by omega) (by omega)) rfl ?_
            refine QO.val rfl (fun w2 hw2 => Ru.move rfl) rfl ?_
            refine QO.val rfl (fun w2 hw2 => Ru.move rfl) rfl ?_
            refine QO.val rfl (fun w2 hw2 => Ru.sindex (k) hk2 Try.underlying9 rfl rfl (by omega) (by omega)) rfl ?_
            refine QO.val rfl (fun w2 hw2 => Ru.eql rfl rfl) rfl ?_
            refine QO.val rfl (fun w2 hw2 => Ru.pickT rfl rfl) rfl ?_
            refine QO.nil ?_
            intro w8d hE8d
            have hK8d := kext hK hE8d
            refine C.cond (p := (((x)[k]'hk1).toNat : Int) = (((y)[k]'hk2).toNat : Int)) rfl (fun c50 => ?_) (fun c50 => ?_)
            · refine C.skip ?_
              refine C.block ?_
              refine C.region ?_
              refine O.val rfl (Ru.move rfl) rfl ?_
              refine O.val rfl (Ru.add rfl rfl (by omega)) rfl ?_
              refine O.val rfl (Ru.assign rfl) rfl ?_
              refine O.nil ?_
              refine loopEnd (k + 1) (by omega) (Has.cons rfl (Has.cons rfl (Has.cons rfl (Has.cons rfl Has.nil)))) ⟨comm_step hk hk1 hk2 (by apply UInt8.toNat.inj; omega), hK8d⟩
            · refine C.exit ?_
              refine C.seq ?_
              refine C.region ?_
              refine O.val rfl (Ru.move rfl) rfl ?_
              refine O.val rfl (Ru.slen Try.underlying9 rfl) rfl ?_
              refine O.val rfl (Ru.move rfl) rfl ?_
              refine O.val rfl (Ru.add rfl rfl (by omega)) rfl ?_
              refine O.val rfl (Ru.eql rfl rfl) rfl ?_
              refine O.val rfl (Ru.assign rfl) rfl ?_
              refine O.nil ?_
              refine C.ret ?_
              refine P1 (v := .bool (decide (((sepF (x) (y)).length : Int) = ((k : Int) + 1)))) rfl ?_
              exact ⟨by rw [show comm x y = k from comm_stop hk (by first | exact .inl (by omega) | exact .inr (.inl (by omega)) | exact .inr (.inr ⟨hk1, hk2, fun e => c50 (by rw [e])⟩))] at h4; simp; omega, hK8d⟩
          · refine QO.pass rfl rfl rfl rfl rfl ?_
            refine QO.pass rfl rfl rfl rfl rfl ?_
            refine QO.pass rfl rfl rfl rfl rfl ?_
            refine QO.pass rfl rfl rfl rfl rfl ?_
            refine QO.pass rfl rfl rfl rfl rfl ?_
            refine QO.pass rfl rfl rfl rfl rfl ?_
            refine QO.pass rfl rfl rfl rfl rfl ?_
            refine QO.val rfl (fun w2 hw2 => Ru.pickF rfl rfl) rfl ?_
            refine QO.nil ?_
            intro w8d hE8d
            have hK8d := kext hK hE8d
            refine C.condF rfl ?_
            refine C.exit ?_
            refine C.seq ?_
            refine C.region ?_
            refine O.val rfl (Ru.move rfl) rfl ?_
            refine O.val rfl (Ru.slen Try.underlying9 rfl) rfl ?_
            refine O.val rfl (Ru.move rfl) rfl ?_
            refine O.val rfl (Ru.add rfl rfl (by omega)) rfl ?_
            refine O.val rfl (Ru.eql rfl rfl) rfl ?_
            refine O.val rfl (Ru.assign rfl) rfl ?_
            refine O.nil ?_
            refine C.ret ?_
            refine P1 (v := .bool (decide (((sepF (x) (y)).length : Int) = ((k : Int) + 1)))) rfl ?_
            exact ⟨by rw [show comm x y = k from comm_stop hk (by first | exact .inl (by omega) | exact .inr (.inl (by omega)) | exact .inr (.inr ⟨hk1, hk2, fun e => c50 (by rw [e])⟩))] at h4; simp; omega, hK8d⟩
        · refine QO.pass rfl rfl rfl rfl rfl ?_
          refine QO.pass rfl rfl rfl rfl rfl ?_
          refine QO.pass rfl rfl rfl rfl rfl ?_
          refine QO.pass rfl rfl rfl rfl rfl ?_
          refine QO.val rfl (fun w2 hw2 => Ru.pickF rfl rfl) rfl ?_
          refine QO.val rfl (fun w2 hw2 => Ru.move rfl) rfl ?_
          refine QO.pass rfl rfl rfl rfl rfl ?_
          refine QO.pass rfl rfl rfl rfl rfl ?_
          refine QO.pass rfl rfl rfl rfl rfl ?_
          refine QO.pass rfl rfl rfl rfl rfl ?_
          refine QO.pass rfl rfl rfl rfl rfl ?_
          refine QO.pass rfl rfl rfl rfl rfl ?_
          refine QO.pass rfl rfl rfl rfl rfl ?_
          refine QO.val rfl (fun w2 hw2 => Ru.pickF rfl rfl) rfl ?_
          refine QO.nil ?_
          intro w8d hE8d
          have hK8d := kext hK hE8d
          refine C.condF rfl ?_
          refine C.exit ?_
          refine C.seq ?_
          refine C.region ?_
          refine O.val rfl (Ru.move rfl) rfl ?_
          refine O.val rfl (Ru.slen Try.underlying9 rfl) rfl ?_
          refine O.val rfl (Ru.move rfl) rfl ?_
          refine O.val rfl (Ru.add rfl rfl (by omega)) rfl ?_
          refine O.val rfl (Ru.eql rfl rfl) rfl ?_
          refine O.val rfl (Ru.assign rfl) rfl ?_
          refine O.nil ?_
          refine C.ret ?_
          refine P1 (v := .bool (decide (((sepF (x) (y)).length : Int) = ((k : Int) + 1)))) rfl ?_
          exact ⟨by rw [show comm x y = k from comm_stop hk (by first | exact .inl (by omega) | exact .inr (.inl (by omega)) | exact .inr (.inr ⟨hk1, hk2, fun e => c50 (by rw [e])⟩))] at h4; simp; omega, hK8d⟩

set_option maxRecDepth 100000 in
theorem lifted (os : Os) (started : os.Started) (H : Type) (enc : TypeId × Value → H) :
    ReturnsInHanded {} Try.checked os 6 .any (Rows.fnSeparatorLetterSpec.pre6 enc Try.prog Try.f6 Rows.fnSeparatorLetterRow.domain false) (Rows.fnSeparatorLetterSpec.post enc Try.prog Try.f6 false true false false) := by
  refine returnsInHanded_of_change (C := Try.checked) own started (by kernel_rfl) Try.func6
    (ChangeSpec.witness6 (enc := enc) (C := Try.checked) false ⟨#[], #[.slice none 0 0], []⟩ 8 (by kernel_rfl) (by kernel_rfl) (by kernel_rfl) (by kernel_rfl)) ?_
  intro W base args ds gs before hval0 hW hcnd _
  have hval : ∀ (j : Nat) t v, Try.f6.params[j]? = some t → args[j]? = some v → Value.okWide Try.prog W .any base t v := hval0
  have hW' := hW
  obtain ⟨p, q, hA0, hV, rfl, hfz, hnd⟩ := hW
  have hA : DataW.TrodAll enc Try.prog W 0 (fun _ => true) true Try.f6.params.toList args.toList ds p := hA0
  rw [Try.params6] at hA hval
  obtain ⟨v0, vs0, d0, ds0, p0, q0, hargs, rfl, rfl, h0, r0⟩ := trodAll_cons hA
  obtain ⟨rfl, rfl, rfl⟩ := trodAll_nil r0
  obtain rfl : args = #[v0] := by cases args; simp_all
  obtain ⟨rfl, rfl⟩ := trodVars_none hV
  have k0 := h0
  have lt0 : ∀ x ∈ p0, x.block < W.heap.size := by obtain ⟨m, hm⟩ := k0; exact DataW.trod_lt m _ _ _ hm
  obtain ⟨a0, len0, cap0, rfl⟩ := okWide_slice Try.underlying29 (hval 0 29 v0 rfl rfl)
  have kk0 := k0
  obtain ⟨fuel0, hf0⟩ := kk0
  obtain ⟨z0, rfl, hz0, hc0, hw0, hRd0⟩ := slice_in (α := UInt8) (f := fun a : UInt8 => [byteV a]) (c := 1) Try.underlying29 (by kernel_rfl) (fun _ => rfl) (byte_el Try.underlying5) hf0
  rw [flat_one] at hRd0
  clear hA0 hval0
  refine (FnSeparatorLetter_fn a0 cap0 z0 W hRd0 hz0 hc0).out.mono fun e W' ⟨v, he, hv, hg⟩ => ?_
  subst he hv
  have bel : Below W.heap.size W W' := ⟨hg.os, hg.tape, hg.output, hg.size, fun k hk => hg.block k hk (by simp)⟩
  exact ⟨_, rfl, _, _, _, [], _, [], hW', trodAll_mk1 (shut_bool Try.underlying4 _), (trodAll_cons_mk (Below.trod laidOut (by kernel_rfl) (of_decide_eq_true (by kernel_rfl)) k0 bel lt0) trodAll_mk0), rfl, bel.frame _, fun h => by cases h⟩

theorem named_ : Try.prog.funcNamed Rows.fnSeparatorLetterRow.func = some 6 := by kernel_rfl
theorem closed : joinedFacts Try.prog 6 Try.f6 Rows.fnSeparatorLetterSpec Rows.fnSeparatorLetterRow = true := by
  unfold joinedFacts
  rw [enter_, lifts_, made_]
  kernel_rfl
theorem inst_ : Try.f6.isInstance Try.prog Rows.fnSeparatorLetterRow.origin Rows.fnSeparatorLetterRow.targs := of_decide_eq_true (by kernel_rfl)
theorem wrap_ : Try.f6.isWrapper Try.prog Rows.fnSeparatorLetterRow.wrapper Rows.fnSeparatorLetterRow.mainSum := by
  unfold Func.isWrapper
  rw [if_neg (by decide +kernel)]
  exact ⟨rfl, rfl⟩
theorem over : Rows.fnSeparatorLetterRow.holds Try.pinned (OpenSpec.ofChange Rows.fnSeparatorLetterSpec) :=
  OpenClaim.holds_of_wide 6 Try.f6 rfl rfl rfl rfl rfl rfl rfl ⟨rfl, rfl, rfl, rfl, rfl⟩ rfl rfl rfl rfl rfl named_ Try.func6 closed inst_ wrap_
    (fun os started H enc _ => lifted os started H enc)
theorem proved : Rows.FnSeparatorLetterSaid := over
end Go.Proofs.Ytekfncmhinbghaa.fnSeparatorLetter
