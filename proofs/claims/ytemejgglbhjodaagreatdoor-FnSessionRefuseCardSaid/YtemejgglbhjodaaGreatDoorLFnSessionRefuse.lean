/- The statement Rows.FnSessionRefuseCardSaid: the Go function laws.FnSessionRefuse returns true for every input, and each argument reads afterwards as it read before; the tied card. Condition: the listed package-level variables read as the card ties them to the program's text. -/
import Derived.Test.YtemejgglbhjodaaGreatDoorP9
import Derived.Test.YtemejgglbhjodaaGreatDoorRows
import Derived.Test.YtemejgglbhjodaaGreatDoorCards
import Derived.Test.YtemejgglbhjodaaGreatDoorTie
import Derived.WalkKit
import Derived.ProofKit
import Derived.OpenShut
import Derived.ShutString
import Derived.ChangeOld
import Derived.SliceStrings
import Derived.Deep.Slices
import Derived.Deep.Fields
import Derived.ChangeSame
import Derived.Below
import Derived.LaidMore
import Derived.Stop.Joined
import Derived.SevenTiedAt
import Derived.MakeChecks
import Derived.Lay
set_option linter.unusedVariables false
set_option linter.unusedSimpArgs false
namespace Go.Proofs.YtemejgglbhjodaaGreatDoor
open Go.Px
set_option linter.unusedVariables false
set_option maxHeartbeats 2000000 in
theorem FnSessionRefuse_fn (A : Option Addr) (c : Nat) (l : List UInt8) (w : World) (hA : Rd w A ((l).map byteV)) (hl : l.length ≤ 9223372036854775807) (hc : l.length ≤ c) (hlw : LW w) :
    aR Tryz.prog 6 [.slice (A) ((l).length) (c)] w (fun v w1 => v = .bool (true) ∧ Mem w w1 [] []) := by
  have hM : Mem w w [] [] := Mem.refl
  refine aR.n1 Tryz.func6 rfl Tryz.results6 Tryz.ntmps6 rfl ?_
  refine cd 11 [] (fun c8 => ?_) (fun c8 => ?_)
  · refine E1 5 [] (.bool (true)) ?_
    exact ⟨rfl, (Mem.none hM)⟩
  refine cq 4 [] (b := jR _ _ _ w (hA.at hM) q0 q0) (c := ?_)
  rintro _ w3_1 ⟨L13_1, A13_1, c13_1, rfl, hll3_1, hlp3_1, hR3_1⟩
  have hM3_1 := hM.cl 0 hR3_1
  have hcr3_1_0 := (hM3_1.cap 0 rfl).1
  refine cp 5 [] (b := fY _ _ _ w3_1 (hM3_1.rd 0 rfl) qo (by exact fun x hx => Nat.le_trans (hlp3_1 x hx) (by omega)) qo (hlw.at hM3_1)) (c := fun w4_1 hM4_1 => ?_)
  refine cp 7 [] (b := jZ _ _ _ w4_1 (hM4_1.rd 0 rfl) qo (by exact fun x hx => Nat.le_trans (hlp3_1 x hx) (by omega))) (c := fun w5_2 hM5_2 => ?_)
  refine ov 0 [] (s := Vb (false)) (a := by exact cv (Ru.congr (v := .bool (decide (eR L13_1 ≠ eR L13_1))) (v' := .bool (false)) (Ru.sneq rfl rfl) ((congrArg Value.bool (decide_eq_false (by simp))))) rfl) (b := ?_)
  refine Lt 5 [] (([[103, 101, 116, 32, 49], [100, 114, 111, 112, 32, 49], [112, 117, 116, 32, 49, 48, 48, 32, 49], [112, 117, 116, 32, 49, 32, 49, 48, 48, 49], [112, 117, 116, 32, 48, 49, 32, 49], [112, 117, 116, 32, 49, 32, 45, 49, 48, 48, 48], [103, 101, 116, 32, 49], [115, 99, 97, 110, 32, 48, 32, 120], [115, 99, 97, 110, 32, 49, 32, 49], [116, 114, 101, 101], [112, 117, 116, 32, 49], [112, 97, 103, 101, 115], [100, 114, 111, 112, 32, 49], [116, 114, 101, 101]]).map S) (fun w7_0 b7_0 hb7_0 hM7_0 => ?_)
  refine cq 0 [] (vs := [.slice (bl b7_0) (([[103, 101, 116, 32, 49], [100, 114, 111, 112, 32, 49], [112, 117, 116, 32, 49, 48, 48, 32, 49], [112, 117, 116, 32, 49, 32, 49, 48, 48, 49], [112, 117, 116, 32, 48, 49, 32, 49], [112, 117, 116, 32, 49, 32, 45, 49, 48, 48, 48], [103, 101, 116, 32, 49], [115, 99, 97, 110, 32, 48, 32, 120], [115, 99, 97, 110, 32, 49, 32, 49], [116, 114, 101, 101], [112, 117, 116, 32, 49], [112, 97, 103, 101, 115], [100, 114, 111, 112, 32, 49], [116, 114, 101, 101]]).length) (14)]) (hvs := (by first | rfl | (rw [show ([[103, 101, 116, 32, 49], [100, 114, 111, 112, 32, 49], [112, 117, 116, 32, 49, 48, 48, 32, 49], [112, 117, 116, 32, 49, 32, 49, 48, 48, 49], [112, 117, 116, 32, 48, 49, 32, 49], [112, 117, 116, 32, 49, 32, 45, 49, 48, 48, 48], [103, 101, 116, 32, 49], [115, 99, 97, 110, 32, 48, 32, 120], [115, 99, 97, 110, 32, 49, 32, 49], [116, 114, 101, 101], [112, 117, 116, 32, 49], [112, 97, 103, 101, 115], [100, 114, 111, 112, 32, 49], [116, 114, 101, 101]]).length = 14 from (by first | rfl | (simp; done) | omega | (simp; omega))]; rfl))) (b := fY (bl b7_0) 14 ([[103, 101, 116, 32, 49], [100, 114, 111, 112, 32, 49], [112, 117, 116, 32, 49, 48, 48, 32, 49], [112, 117, 116, 32, 49, 32, 49, 48, 48, 49], [112, 117, 116, 32, 48, 49, 32, 49], [112, 117, 116, 32, 49, 32, 45, 49, 48, 48, 48], [103, 101, 116, 32, 49], [115, 99, 97, 110, 32, 48, 32, 120], [115, 99, 97, 110, 32, 49, 32, 49], [116, 114, 101, 101], [112, 117, 116, 32, 49], [112, 97, 103, 101, 115], [100, 114, 111, 112, 32, 49], [116, 114, 101, 101]]) w7_0 (hM7_0.rd 0 rfl) (by decide) (by decide) (by decide) (hlw.at hM7_0)) (c := ?_)
  rintro _ w7_1 ⟨rfl, hR7_1⟩
  have hM7_1 := hM7_0.cl 0 hR7_1
  refine ov 5 [] (s := Vb (true)) (a := by exact cv (Ru.congr (v := .bool (decide (eR ([[103, 101, 116, 32, 49], [100, 114, 111, 112, 32, 49], [112, 117, 116, 32, 49, 48, 48, 32, 49], [112, 117, 116, 32, 49, 32, 49, 48, 48, 49], [112, 117, 116, 32, 48, 49, 32, 49], [112, 117, 116, 32, 49, 32, 45, 49, 48, 48, 48], [103, 101, 116, 32, 49], [115, 99, 97, 110, 32, 48, 32, 120], [115, 99, 97, 110, 32, 49, 32, 49], [116, 114, 101, 101], [112, 117, 116, 32, 49], [112, 97, 103, 101, 115], [100, 114, 111, 112, 32, 49], [116, 114, 101, 101]]) = [110, 111, 10, 110, 111, 10, 110, 111, 10, 110, 111, 10, 110, 111, 10, 111, 107, 10, 45, 49, 48, 48, 48, 10, 110, 111, 10, 10, 49, 58, 45, 49, 48, 48, 48, 10, 119, 104, 97, 116, 10, 49, 32, 49, 10, 111, 107, 10, 10]))) (v' := .bool (true)) (Ru.seql rfl rfl) ((congrArg Value.bool (decide_eq_true aGd)))) rfl) (b := ?_)
  refine E1 3 [] (.bool (true)) ?_
  exact ⟨rfl, (Mem.none hM7_1)⟩
end Go.Proofs.YtemejgglbhjodaaGreatDoor
namespace Go.Proofs.YtemejgglbhjodaaGreatDoor.fnSessionRefuse
open Go.ChangeShapes Go.WideShapes Go.ChangeAt Go.RowKit Go.Px
open Go.ChangeMaps (open_string shut_string)
set_option linter.unusedVariables false
theorem own : ownKnob Tryz.prog.godebug = none := by kernel_rfl
theorem laidOut : laidOutB Tryz.prog = true := by kernel_rfl
set_option maxRecDepth 100000 in
theorem lifted (os : Os) (started : os.Started) (H : Type) (enc : TypeId × Value → H) :
    ReturnsInHanded {} Tryz.checked os 6 .any (fun w args => (Rows.fnSessionRefuseSpec.pre enc Tryz.prog Tryz.f6 [] false w args ∧ laidMetH Tryz.prog Rows.fnSessionRefuseRow.laid w) ∧ sizedMet enc Tryz.prog Tryz.f6 (OpenSpec.ofChange Rows.fnSessionRefuseSpec) false w args) (Rows.fnSessionRefuseSpec.post enc Tryz.prog Tryz.f6 false true false false) := by
  refine Px.returnsIn_and_shaped (C := Tryz.checked) (X := fun w _ => laidMetH Tryz.prog Rows.fnSessionRefuseRow.laid w) (fun _ _ _ hh h => h.of_heap hh) own started (by kernel_rfl) Tryz.func6
    (ChangeSpec.witness_shaped (enc := enc) (C := Tryz.checked) (os := os) (X := fun w _ => laidMetH Tryz.prog Rows.fnSessionRefuseRow.laid w) false (World.laidAll Tryz.prog os Rows.fnSessionRefuseRow.laid) #[.slice none 0 0] 8 (World.laidAll_os _ _ _) (World.shaped_of_ZipB (by kernel_rfl) (by kernel_rfl)) (by kernel_rfl) (by kernel_rfl) (by kernel_rfl) (by rw [MakeChecks.laidMetH_plain _ _ _ (by kernel_rfl)]; exact laidMet_laidAll _ (by kernel_rfl) (by kernel_rfl))) ?_
  intro W base args ds gs before hval0 hW hL hsh
  have hval : ∀ (j : Nat) t v, Tryz.f6.params[j]? = some t → args[j]? = some v → Value.okWide Tryz.prog W .any base t v := hval0
  have hW' := hW
  obtain ⟨p, q, hA0, hV, rfl, hfz, hnd⟩ := hW'
  have hW' := hW
  have hA : DataW.TrodAll enc Tryz.prog W 0 (fun _ => true) true Tryz.f6.params.toList args.toList ds p := hA0
  rw [Tryz.params6] at hA hval
  obtain ⟨v0, vs0, d0, ds0, p0, q0, hargs, rfl, rfl, h0, r0⟩ := trodAll_cons hA
  obtain ⟨rfl, rfl, rfl⟩ := trodAll_nil r0
  obtain rfl : args = #[v0] := by cases args; simp_all
  obtain ⟨rfl, rfl⟩ := trodVars_none hV
  have k0 := h0
  have lt0 : ∀ x ∈ p0, x.block < W.heap.size := by obtain ⟨m, hm⟩ := k0; exact DataW.trod_lt m _ _ _ hm
  obtain ⟨a0, len0, cap0, rfl⟩ := okWide_slice Tryz.underlying22 (hval 0 22 v0 rfl rfl)
  have kk0 := k0
  obtain ⟨fuel0, hf0⟩ := kk0
  obtain ⟨z0, rfl, hz0, hc0, hw0, hRd0⟩ := uJ (α := UInt8) (f := fun a : UInt8 => [byteV a]) (c := 1) Tryz.underlying22 (by kernel_rfl) (fun _ => rfl) (wN Tryz.underlying5) hf0
  rw [tN] at hRd0
  have hLw : LW W := aJj hL hsh
  clear hA0 hval0
  refine (FnSessionRefuse_fn a0 cap0 z0 W hRd0 hz0 hc0 hLw).out.mono fun e W' ⟨v, he, hv, hg⟩ => ?_
  subst he hv
  have bel : Below W.heap.size W W' := ⟨hg.os, hg.tape, hg.output, hg.size, fun k hk => hg.block k hk (by simp)⟩
  exact ⟨_, rfl, _, _, _, [], _, [], hW', trodAll_mk1 (shut_bool Tryz.underlying4 _), (trodAll_cons_mk (Below.trod laidOut (by kernel_rfl) (of_decide_eq_true (by kernel_rfl)) k0 bel lt0) trodAll_mk0), rfl, bel.frame _, fun h => by cases h⟩
theorem named_ : Tryz.prog.funcNamed Rows.fnSessionRefuseRow.func = some 6 := by kernel_rfl
theorem closed : joinedFacts Tryz.prog 6 Tryz.f6 Rows.fnSessionRefuseSpec Rows.fnSessionRefuseRow = true := by kernel_rfl
theorem inst_ : Tryz.f6.isInstance Tryz.prog Rows.fnSessionRefuseRow.origin Rows.fnSessionRefuseRow.targs := of_decide_eq_true (by kernel_rfl)
theorem wrap_ : Tryz.f6.isWrapper Tryz.prog Rows.fnSessionRefuseRow.wrapper Rows.fnSessionRefuseRow.mainSum := by
  unfold Func.isWrapper
  rw [if_neg (by decide +kernel)]
  exact ⟨rfl, rfl⟩
theorem over : Rows.fnSessionRefuseRow.holds Tryz.pinned (OpenSpec.ofChange Rows.fnSessionRefuseSpec) :=
  OpenClaim.holds_of_wide 6 Tryz.f6 rfl rfl rfl rfl rfl rfl rfl ⟨rfl, rfl, rfl, rfl, rfl⟩ rfl rfl rfl rfl rfl named_ Tryz.func6 closed inst_ wrap_
    (fun os started H enc _ => lifted os started H enc)
theorem proved : Rows.FnSessionRefuseCardSaid :=
  Claim7.holds_tied_plain_at .later [] [.data, .data, .data, .data, .sentinel, .sentinel, .pinned] true (true, "ffc965ebab3b4f46face1f8cfe82471ad686a5b506f194f3dcdf81a67ea81070") true over (fun _ h => by cases h) (by kernel_rfl) (fun _ h => by cases h) fnSessionRefuse_row_tie rfl ⟨rfl, rfl⟩ (by kernel_rfl) rfl
    (fun f fn hf hfn => by
      obtain rfl : f = 6 := Option.some.inj (named_.symm.trans hf) |>.symm
      obtain rfl : fn = Tryz.f6 := (Option.some.inj (Tryz.func6.symm.trans hfn)).symm
      exact ⟨by kernel_rfl, fun j t ht => by
        rw [Tryz.params6] at ht
        have hm : t ∈ [22] := by simpa using Array.mem_of_getElem? ht
        have hall : ([22].all fun u => !Tryz.prog.wantsStandIn u) = true := by kernel_rfl
        exact (show Tryz.prog.wantsStandIn t = false by simpa using List.all_eq_true.1 hall t hm)⟩)
    (by kernel_rfl)
end Go.Proofs.YtemejgglbhjodaaGreatDoor.fnSessionRefuse
