/- The statement Rows.FnFindLinkHighSaid: the Go function laws.FnFindLinkHigh returns true for every input, and each argument reads afterwards as it read before. No conditions. -/
import Derived.Test.YteljpjapacajoaaRows
import Derived.Test.YteljpjapacajoaaPxO
import Derived.Test.YteljpjapacajoaaDZ
import Derived.Test.YteljpjapacajoaaH0
import Derived.WalkKit
import Derived.ProofKit
import Derived.OpenShut
import Derived.ShutString
import Derived.ChangeOld
import Derived.SliceStrings
import Derived.Deep.Slices
import Derived.Deep.Fields
import Derived.ChangeSame
import Derived.Below
set_option linter.unusedVariables false
set_option linter.unusedSimpArgs false
namespace Go.Proofs.Yteljpjapacajoaa
open Go.Px
set_option linter.unusedVariables false
theorem FnFindLinkHigh_fn (A : Option Addr) (c : Nat) (l : List UInt8) (w : World) (hA : Rd w A ((l).map byteV)) (hl : l.length ≤ 9223372036854775807) (hc : l.length ≤ c) :
    Does Try.prog 4 [.slice (A) ((l).length) (c)] w (fun v w1 => v = .bool (true) ∧ Mem w w1 [] []) := by
  have hM : Mem w w [] [] := Mem.refl
  refine Does.enter1 Try.func4 rfl Try.results4 Try.ntmps4 rfl ?_
  refine C.seq ?_
  refine C.region ?_
  refine O.val (v := .bool (false)) rfl (Ru.assign rfl) rfl ?_
  refine O.nil ?_
  refine C.seq ?_
  refine C.seq ?_
  refine C.region ?_
  refine O.val (v := .slice (A) ((l).length) (c)) rfl (Ru.move rfl) rfl ?_
  refine O.val (v := I ((((l).length : Nat) : Int))) rfl (Ru.blenSlice Try.underlying22 rfl) rfl ?_
  refine O.val (v := .bool (decide ((((l).length : Nat) : Int) > 1048576))) rfl (Ru.gtr rfl rfl) rfl ?_
  refine O.nil ?_
  refine C.cond (p := (((l).length : Nat) : Int) > 1048576) rfl (fun c10 => ?_) (fun c10 => ?_)
  · refine C.seq ?_
    refine C.region ?_
    refine O.val (v := .bool (true)) rfl (Ru.assign rfl) rfl ?_
    refine O.nil ?_
    refine C.ret ?_
    refine P1 (v := .bool (true)) rfl ?_
    exact ⟨rfl, (Mem.none hM)⟩
  · refine C.skip ?_
    refine C.seq ?_
    refine C.region ?_
    refine O.val (v := .slice (A) ((l).length) (c)) rfl (Ru.move rfl) rfl ?_
    refine O.callg [.slice (A) ((l).length) (c)] rfl en20 rfl rfl (DrawFindLink_fn A c l w (hA.at hM) (by first | omega | assumption | (simp; omega) | simp | (intros; omega)) (by first | omega | assumption | (simp; omega) | simp | (intros; omega))) ?_
    rintro _ w3_1 ⟨l13_1, A13_1, c13_1, G3_1, at13_1, k13_1, rfl, hl3_1, hk3_1, hG3_1, hcp3_1, hR3_1⟩
    have hM3_1 : Mem w w3_1 [] [[⟨.slice (A13_1) ((l13_1).length) (c13_1), 28, 3, ((l13_1).length), (l13_1).flatMap encL⟩], G3_1] := Mem.call (Ma := []) hM hR3_1 rfl
    have hcr3_1_0 := (hM3_1.cap 0 rfl).1
    refine O.val (v := .tuple #[.slice (A13_1) ((l13_1).length) (c13_1), I (at13_1), I (k13_1)]) rfl (Ru.move rfl) rfl ?_
    refine O.val (v := .slice (A13_1) ((l13_1).length) (c13_1)) rfl (Ru.extract rfl rfl) rfl ?_
    refine O.val (v := I (at13_1)) rfl (Ru.extract rfl rfl) rfl ?_
    refine O.val (v := I (k13_1)) rfl (Ru.extract rfl rfl) rfl ?_
    refine O.val (v := .slice (A13_1) ((l13_1).length) (c13_1)) rfl (Ru.assign rfl) rfl ?_
    refine O.val (v := I (at13_1)) rfl (Ru.assign rfl) rfl ?_
    refine O.val (v := I (k13_1)) rfl (Ru.assign rfl) rfl ?_
    refine O.nil ?_
    refine C.seq ?_
    refine C.region ?_
    refine O.val (v := .slice (A13_1) ((l13_1).length) (c13_1)) rfl (Ru.move rfl) rfl ?_
    refine O.val (v := I (at13_1)) rfl (Ru.move rfl) rfl ?_
    refine O.val (v := I (k13_1)) rfl (Ru.move rfl) rfl ?_
    refine O.callg [.slice (A13_1) ((l13_1).length) (c13_1), I (at13_1), I (k13_1)] rfl en21 rfl rfl (FindLink_fn A13_1 c13_1 l13_1 at13_1 k13_1 w3_1 (hM3_1.rd 0 rfl) (hG3_1 _ (Mem.gown hM3_1 1 rfl)) (by omega)) ?_
    rintro _ w4_3 ⟨rfl, hR4_3⟩
    have hM4_3 : Mem w w4_3 [] [[⟨.slice (A13_1) ((l13_1).length) (c13_1), 28, 3, ((l13_1).length), (l13_1).flatMap encL⟩], G3_1] := Mem.call (Ma := []) hM3_1 hR4_3 rfl
    refine O.val (v := I (findC (tsL l13_1) at13_1 k13_1)) rfl (Ru.assign rfl) rfl ?_
    refine O.nil ?_
    refine C.seq ?_
    refine C.seq ?_
    refine C.region ?_
    refine O.val (v := I (findC (tsL l13_1) at13_1 k13_1)) rfl (Ru.move rfl) rfl ?_
    refine O.val (v := .slice (A13_1) ((l13_1).length) (c13_1)) rfl (Ru.move rfl) rfl ?_
    refine O.val (v := I (at13_1)) rfl (Ru.move rfl) rfl ?_
    refine O.val (v := I (k13_1)) rfl (Ru.move rfl) rfl ?_
    refine O.callg [.slice (A13_1) ((l13_1).length) (c13_1), I (at13_1), I (k13_1)] rfl en22 rfl rfl (sFindLink_fn A13_1 c13_1 l13_1 at13_1 k13_1 w4_3 (hM4_3.rd 0 rfl) (hG3_1 _ (Mem.gown hM4_3 1 rfl)) (by omega)) ?_
    rintro _ w5_4 ⟨rfl, hR5_4⟩
    have hM5_4 : Mem w w5_4 [] [[⟨.slice (A13_1) ((l13_1).length) (c13_1), 28, 3, ((l13_1).length), (l13_1).flatMap encL⟩], G3_1] := Mem.call (Ma := []) hM4_3 hR5_4 rfl
    refine O.val (v := .bool (false)) rfl (Ru.congr (v := .bool (decide (findC (tsL l13_1) at13_1 k13_1 ≠ findC (tsL l13_1) at13_1 k13_1))) (v' := .bool (false)) (Ru.neq rfl rfl) ((congrArg Value.bool (decide_eq_false (by simp))))) rfl ?_
    refine O.val (v := .bool (false)) rfl (Ru.move rfl) rfl ?_
    refine O.val (v := I (findC (tsL l13_1) at13_1 k13_1)) rfl (Ru.move rfl) rfl ?_
    refine O.val (v := .bool (decide (findC (tsL l13_1) at13_1 k13_1 < 0))) rfl (Ru.lss rfl rfl) rfl ?_
    refine O.val (v := .bool (decide (findC (tsL l13_1) at13_1 k13_1 < 0))) rfl (Ru.pickF rfl rfl) rfl ?_
    refine O.nil ?_
    refine C.cond (p := findC (tsL l13_1) at13_1 k13_1 < 0) rfl (fun c30 => ?_) (fun c30 => ?_)
    · refine C.seq ?_
      refine C.region ?_
      refine O.val (v := I (findC (tsL l13_1) at13_1 k13_1)) rfl (Ru.move rfl) rfl ?_
      refine O.val (v := .slice (A13_1) ((l13_1).length) (c13_1)) rfl (Ru.move rfl) rfl ?_
      refine O.val (v := I (at13_1)) rfl (Ru.move rfl) rfl ?_
      refine O.val (v := I (k13_1)) rfl (Ru.move rfl) rfl ?_
      refine O.callg [.slice (A13_1) ((l13_1).length) (c13_1), I (at13_1), I (k13_1)] rfl en22 rfl rfl (sFindLink_fn A13_1 c13_1 l13_1 at13_1 k13_1 w5_4 (hM5_4.rd 0 rfl) (hG3_1 _ (Mem.gown hM5_4 1 rfl)) (by omega)) ?_
      rintro _ w6_4 ⟨rfl, hR6_4⟩
      have hM6_4 : Mem w w6_4 [] [[⟨.slice (A13_1) ((l13_1).length) (c13_1), 28, 3, ((l13_1).length), (l13_1).flatMap encL⟩], G3_1] := Mem.call (Ma := []) hM5_4 hR6_4 rfl
      refine O.val (v := .bool (true)) rfl (Ru.congr (v := .bool (decide (findC (tsL l13_1) at13_1 k13_1 = findC (tsL l13_1) at13_1 k13_1))) (v' := .bool (true)) (Ru.eql rfl rfl) ((congrArg Value.bool (decide_eq_true rfl)))) rfl ?_
      refine O.val (v := .bool (true)) rfl (Ru.assign rfl) rfl ?_
      refine O.nil ?_
      refine C.ret ?_
      refine P1 (v := .bool (true)) rfl ?_
      exact ⟨rfl, (Mem.none hM6_4)⟩
    · refine C.skip ?_
      refine C.seq ?_
      refine C.seq ?_
      refine C.region ?_
      refine O.val (v := I (0)) rfl (Ru.assign rfl) rfl ?_
      refine O.nil ?_
      refine C.block ?_
      refine C.loop (ι := Nat) (fun i => ([(3, .slice (A13_1) ((l13_1).length) (c13_1)), (7, I (((i : Nat) : Int)))] : List (Nat × Value))) (fun i w_ => (i ≤ l13_1.length) ∧ (Mem w w_ [] [[⟨.slice (A13_1) ((l13_1).length) (c13_1), 28, 3, ((l13_1).length), (l13_1).flatMap encL⟩], G3_1])) (fun i => l13_1.length - i) (0) (Has.cons rfl (Has.cons (I_congr (by first | rfl | omega | (simp; omega) | simp)) Has.nil)) ⟨(Nat.zero_le _), (hM5_4.pick [0, 1] (by decide) rfl)⟩ (fun i σ w_l8 hI => ?_)
      try dsimp only at hI
      obtain ⟨hi0_l8, hM_l8⟩ := hI
      have hcl0_l8 := (hM_l8.cap 0 rfl).1
      refine C.seq ?_
      refine C.seq ?_
      refine C.region ?_
      refine O.val (v := I (((i : Nat) : Int))) rfl (Ru.move rfl) rfl ?_
      refine O.val (v := .slice (A13_1) ((l13_1).length) (c13_1)) rfl (Ru.move rfl) rfl ?_
      refine O.val (v := I ((((l13_1).length : Nat) : Int))) rfl (Ru.blenSlice Try.underlying23 rfl) rfl ?_
      refine O.val (v := .bool (decide (((i : Nat) : Int) < (((l13_1).length : Nat) : Int)))) rfl (Ru.lss rfl rfl) rfl ?_
      refine O.nil ?_
      refine C.cond (p := ((i : Nat) : Int) < (((l13_1).length : Nat) : Int)) rfl (fun c40 => ?_) (fun c40 => ?_)
      · refine C.skip ?_
        refine C.seq ?_
        refine C.block ?_
        refine C.seq ?_
        refine C.region ?_
        refine O.val (v := .slice (A13_1) ((l13_1).length) (c13_1)) rfl (Ru.move rfl) rfl ?_
        refine O.val (v := I (((i : Nat) : Int))) rfl (Ru.move rfl) rfl ?_
        have hx10_2 : i < (l13_1).length := (by first | omega | (simp; omega))
        refine O.val (v := .pointer (ofs (A13_1) (i * 3))) rfl (Ru.indexA (j := i) Try.underlying23 el28 rfl rfl (smf encL_len (hM_l8.rd 0 rfl) hx10_2 rfl) (by omega) (by first | omega | (simp; omega))) rfl ?_
        refine O.val (v := .pointer (ofs (A13_1) (i * 3 + 1))) rfl (Ru.fieldA fl28_1 rfl (smf encL_len (hM_l8.rd 0 rfl) hx10_2 rfl)) rfl ?_
        refine O.val rfl (Ru.load1 el3 rfl (ldf encL_len (hM_l8.rd 0 rfl) hx10_2 rfl)) rfl ?_
        refine O.val (v := .bool (decide (((l13_1)[i]'hx10_2).t.high ≤ 99))) rfl (Ru.leq rfl rfl) rfl ?_
        refine O.val (v := .bool (decide (((l13_1)[i]'hx10_2).t.high ≤ 99))) rfl (Ru.move rfl) rfl ?_
        refine O.partp 49 (((l13_1)[i]'hx10_2).t.high ≤ 99) rfl (fun g49 => ?_) (fun g49 => ?_)
        · refine O.val (v := .slice (A13_1) ((l13_1).length) (c13_1)) rfl (Ru.move rfl) rfl ?_
          refine O.val (v := I (((i : Nat) : Int))) rfl (Ru.move rfl) rfl ?_
          refine O.val (v := .slice (A13_1) ((l13_1).length) (c13_1)) rfl (Ru.move rfl) rfl ?_
          refine O.val (v := I (((i : Nat) : Int))) rfl (Ru.move rfl) rfl ?_
          have hx10_11 : i < (l13_1).length := (by first | omega | (simp; omega))
          refine O.val (v := .pointer (ofs (A13_1) (i * 3))) rfl (Ru.indexA (j := i) Try.underlying23 el28 rfl rfl (smf encL_len (hM_l8.rd 0 rfl) hx10_11 rfl) (by omega) (by first | omega | (simp; omega))) rfl ?_
          refine O.val (v := .pointer (ofs (A13_1) (i * 3 + 1))) rfl (Ru.fieldA fl28_1 rfl (smf encL_len (hM_l8.rd 0 rfl) hx10_11 rfl)) rfl ?_
          refine O.val rfl (Ru.load1 el3 rfl (ldf encL_len (hM_l8.rd 0 rfl) hx10_11 rfl)) rfl ?_
          refine O.callg [.slice (A13_1) ((l13_1).length) (c13_1), I (((i : Nat) : Int)), I (((l13_1)[i]'hx10_11).t.high)] rfl en21 rfl rfl (FindLink_fn A13_1 c13_1 l13_1 ((i : Nat) : Int) (((l13_1)[i]'hx10_11).t.high) w_l8 (hM_l8.rd 0 rfl) (hG3_1 _ (Mem.gown hM_l8 1 rfl)) (by omega)) ?_
          rintro _ w10_14 ⟨rfl, hR10_14⟩
          have hM10_14 : Mem w w10_14 [] [[⟨.slice (A13_1) ((l13_1).length) (c13_1), 28, 3, ((l13_1).length), (l13_1).flatMap encL⟩], G3_1] := Mem.call (Ma := []) hM_l8 hR10_14 rfl
          refine O.val (v := I (((i : Nat) : Int))) rfl (Ru.move rfl) rfl ?_
          refine O.val (v := .bool (false)) rfl (Ru.congr (v := .bool (decide (findC (tsL l13_1) ((i : Nat) : Int) (((l13_1)[i]'hx10_11).t.high) = ((i : Nat) : Int)))) (v' := .bool (false)) (Ru.eql rfl rfl) ((congrArg Value.bool (decide_eq_false (by have h9 := find_high (l := tsL l13_1) (i := i) (by simp; omega); rw [gL_ts hx10_2] at h9; exact h9))))) rfl ?_
          refine O.val (v := .bool (false)) rfl (Ru.pickT rfl rfl) rfl ?_
          refine O.nil ?_
          refine C.condF rfl ?_
          refine C.skip ?_
          refine C.region ?_
          refine O.val (v := I (((i : Nat) : Int))) rfl (Ru.move rfl) rfl ?_
          refine O.val (v := I ((((i + 1) : Nat) : Int))) rfl (Ru.congr (v := I ((((i : Nat) : Int) + 1))) (v' := I ((((i + 1) : Nat) : Int))) (Ru.add rfl rfl (by omega)) (I_congr (by first | omega | simp))) rfl ?_
          refine O.val (v := I ((((i + 1) : Nat) : Int))) rfl (Ru.assign rfl) rfl ?_
          refine O.nil ?_
          exact loopEnd (i + 1) (by (try dsimp only); omega) (Has.cons rfl (Has.cons (I_congr (by first | rfl | omega | (simp; omega) | simp)) Has.nil)) ⟨(by (try dsimp only); omega), (hM10_14.pick [0, 1] (by decide) rfl)⟩
        · refine O.pass rfl rfl rfl rfl rfl ?_
          refine O.pass rfl rfl rfl rfl rfl ?_
          refine O.pass rfl rfl rfl rfl rfl ?_
          refine O.pass rfl rfl rfl rfl rfl ?_
          refine O.pass rfl rfl rfl rfl rfl ?_
          refine O.pass rfl rfl rfl rfl rfl ?_
          refine O.pass rfl rfl rfl rfl rfl ?_
          refine O.pass rfl rfl rfl rfl rfl ?_
          refine O.pass rfl rfl rfl rfl rfl ?_
          refine O.pass rfl rfl rfl rfl rfl ?_
          refine O.val (v := .bool (false)) rfl (Ru.pickF rfl rfl) rfl ?_
          refine O.nil ?_
          refine C.condF rfl ?_
          refine C.skip ?_
          refine C.region ?_
          refine O.val (v := I (((i : Nat) : Int))) rfl (Ru.move rfl) rfl ?_
          refine O.val (v := I ((((i + 1) : Nat) : Int))) rfl (Ru.congr (v := I ((((i : Nat) : Int) + 1))) (v' := I ((((i + 1) : Nat) : Int))) (Ru.add rfl rfl (by omega)) (I_congr (by first | omega | simp))) rfl ?_
          refine O.val (v := I ((((i + 1) : Nat) : Int))) rfl (Ru.assign rfl) rfl ?_
          refine O.nil ?_
          exact loopEnd (i + 1) (by (try dsimp only); omega) (Has.cons rfl (Has.cons (I_congr (by first | rfl | omega | (simp; omega) | simp)) Has.nil)) ⟨(by (try dsimp only); omega), (hM_l8.pick [0, 1] (by decide) rfl)⟩
      · refine C.exit ?_
        refine C.seq ?_
        refine C.region ?_
        refine O.val (v := .bool (true)) rfl (Ru.assign rfl) rfl ?_
        refine O.nil ?_
        refine C.ret ?_
        refine P1 (v := .bool (true)) rfl ?_
        exact ⟨rfl, (Mem.none hM_l8)⟩
end Go.Proofs.Yteljpjapacajoaa
namespace Go.Proofs.Yteljpjapacajoaa.fnFindLinkHigh
open Go.ChangeShapes Go.WideShapes Go.ChangeAt Go.RowKit Go.Px
open Go.ChangeMaps (open_string shut_string)
set_option linter.unusedVariables false

theorem own : ownKnob Try.prog.godebug = none := by kernel_rfl
theorem laidOut : laidOutB Try.prog = true := by kernel_rfl

set_option maxRecDepth 100000 in
theorem lifted (os : Os) (started : os.Started) (H : Type) (enc : TypeId × Value → H) :
    ReturnsInHanded {} Try.checked os 4 .any (Rows.fnFindLinkHighSpec.pre6 enc Try.prog Try.f4 Rows.fnFindLinkHighRow.domain false) (Rows.fnFindLinkHighSpec.post enc Try.prog Try.f4 false true false false) := by
  refine returnsInHanded_of_change (C := Try.checked) own started (by kernel_rfl) Try.func4
    (ChangeSpec.witness6 (enc := enc) (C := Try.checked) false ⟨#[], #[.slice none 0 0], []⟩ 8 (by kernel_rfl) (by kernel_rfl) (by kernel_rfl) (by kernel_rfl)) ?_
  intro W base args ds gs before hval0 hW hcnd _
  have hval : ∀ (j : Nat) t v, Try.f4.params[j]? = some t → args[j]? = some v → Value.okWide Try.prog W .any base t v := hval0
  have hW' := hW
  obtain ⟨p, q, hA0, hV, rfl, hfz, hnd⟩ := hW
  have hA : DataW.TrodAll enc Try.prog W 0 (fun _ => true) true Try.f4.params.toList args.toList ds p := hA0
  rw [Try.params4] at hA hval
  obtain ⟨v0, vs0, d0, ds0, p0, q0, hargs, rfl, rfl, h0, r0⟩ := trodAll_cons hA
  obtain ⟨rfl, rfl, rfl⟩ := trodAll_nil r0
  obtain rfl : args = #[v0] := by cases args; simp_all
  obtain ⟨rfl, rfl⟩ := trodVars_none hV
  have k0 := h0
  have lt0 : ∀ x ∈ p0, x.block < W.heap.size := by obtain ⟨m, hm⟩ := k0; exact DataW.trod_lt m _ _ _ hm
  obtain ⟨a0, len0, cap0, rfl⟩ := okWide_slice Try.underlying22 (hval 0 22 v0 rfl rfl)
  have kk0 := k0
  obtain ⟨fuel0, hf0⟩ := kk0
  obtain ⟨z0, rfl, hz0, hc0, hw0, hRd0⟩ := slice_in (α := UInt8) (f := fun a : UInt8 => [byteV a]) (c := 1) Try.underlying22 (by kernel_rfl) (fun _ => rfl) (byte_el Try.underlying5) hf0
  rw [flat_one] at hRd0
  clear hA0 hval0
  refine (FnFindLinkHigh_fn a0 cap0 z0 W hRd0 hz0 hc0).out.mono fun e W' ⟨v, he, hv, hg⟩ => ?_
  subst he hv
  have bel : Below W.heap.size W W' := ⟨hg.os, hg.tape, hg.output, hg.size, fun k hk => hg.block k hk (by simp)⟩
  exact ⟨_, rfl, _, _, _, [], _, [], hW', trodAll_mk1 (shut_bool Try.underlying4 _), (trodAll_cons_mk (Below.trod laidOut (by kernel_rfl) (of_decide_eq_true (by kernel_rfl)) k0 bel lt0) trodAll_mk0), rfl, bel.frame _, fun h => by cases h⟩

theorem named_ : Try.prog.funcNamed Rows.fnFindLinkHighRow.func = some 4 := by kernel_rfl
theorem closed : joinedFacts Try.prog 4 Try.f4 Rows.fnFindLinkHighSpec Rows.fnFindLinkHighRow = true := by
  unfold joinedFacts
  rw [enter_, lifts_, made_]
  kernel_rfl
theorem inst_ : Try.f4.isInstance Try.prog Rows.fnFindLinkHighRow.origin Rows.fnFindLinkHighRow.targs := of_decide_eq_true (by kernel_rfl)
theorem wrap_ : Try.f4.isWrapper Try.prog Rows.fnFindLinkHighRow.wrapper Rows.fnFindLinkHighRow.mainSum := by
  unfold Func.isWrapper
  rw [if_neg (by decide +kernel)]
  exact ⟨rfl, rfl⟩
theorem over : Rows.fnFindLinkHighRow.holds Try.pinned (OpenSpec.ofChange Rows.fnFindLinkHighSpec) :=
  OpenClaim.holds_of_wide 4 Try.f4 rfl rfl rfl rfl rfl rfl rfl ⟨rfl, rfl, rfl, rfl, rfl⟩ rfl rfl rfl rfl rfl named_ Try.func4 closed inst_ wrap_
    (fun os started H enc _ => lifted os started H enc)
theorem proved : Rows.FnFindLinkHighSaid := over
end Go.Proofs.Yteljpjapacajoaa.fnFindLinkHigh
