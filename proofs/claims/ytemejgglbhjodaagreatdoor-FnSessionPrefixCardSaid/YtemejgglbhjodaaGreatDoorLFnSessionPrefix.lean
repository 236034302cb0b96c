/- The statement Rows.FnSessionPrefixCardSaid: the Go function laws.FnSessionPrefix returns true for every input, and each argument reads afterwards as it read before; the tied card. Condition: the listed package-level variables read as the card ties them to the program's text. -/
import Derived.Test.YtemejgglbhjodaaGreatDoorP9
import Derived.Test.YtemejgglbhjodaaGreatDoorRows
import Derived.Test.YtemejgglbhjodaaGreatDoorCards
import Derived.Test.YtemejgglbhjodaaGreatDoorTie
import Derived.WalkKit
import Derived.ProofKit
import Derived.OpenShut
import Derived.ShutString
import Derived.ChangeOld
import Derived.SliceStrings
import Derived.Deep.Slices
import Derived.Deep.Fields
import Derived.ChangeSame
import Derived.Below
import Derived.LaidMore
import Derived.Stop.Joined
import Derived.SevenTiedAt
import Derived.MakeChecks
import Derived.Lay
set_option linter.unusedVariables false
set_option linter.unusedSimpArgs false
namespace Go.Proofs.YtemejgglbhjodaaGreatDoor
open Go.Px
set_option linter.unusedVariables false
set_option maxHeartbeats 2000000 in
theorem FnSessionPrefix_fn (A : Option Addr) (c : Nat) (l : List UInt8) (w : World) (hA : Rd w A ((l).map byteV)) (hl : l.length ≤ 9223372036854775807) (hc : l.length ≤ c) (hlw : LW w) :
    aR Tryz.prog 8 [.slice (A) ((l).length) (c)] w (fun v w1 => v = .bool (true) ∧ Mem w w1 [] []) := by
  have hM : Mem w w [] [] := Mem.refl
  refine aR.n1 Tryz.func8 rfl Tryz.results8 Tryz.ntmps8 rfl ?_
  refine cd 11 [] (fun c9 => ?_) (fun c9 => ?_)
  · refine E1 5 [] (.bool (true)) ?_
    exact ⟨rfl, (Mem.none hM)⟩
  refine cq 4 [] (b := jR _ _ _ w (hA.at hM) q0 q0) (c := ?_)
  rintro _ w3_1 ⟨L13_1, A13_1, c13_1, rfl, hll3_1, hlp3_1, hR3_1⟩
  have hM3_1 := hM.cl 0 hR3_1
  have hcr3_1_0 := (hM3_1.cap 0 rfl).1
  refine cp 5 [] (b := fY _ _ _ w3_1 (hM3_1.rd 0 rfl) qo (by exact fun x hx => Nat.le_trans (hlp3_1 x hx) (by omega)) qo (hlw.at hM3_1)) (c := fun w4_1 hM4_1 => ?_)
  refine cp 7 [] (b := jZ _ _ _ w4_1 (hM4_1.rd 0 rfl) qo (by exact fun x hx => Nat.le_trans (hlp3_1 x hx) (by omega))) (c := fun w5_2 hM5_2 => ?_)
  refine ov 0 [] (s := Vb (false)) (a := by exact cv (Ru.congr (v := .bool (decide (eR L13_1 ≠ eR L13_1))) (v' := .bool (false)) (Ru.sneq rfl rfl) ((congrArg Value.bool (decide_eq_false (by simp))))) rfl) (b := ?_)
  refine lp1 9 [] (fun (k : Nat) => ([(5, Vi (((k : Nat) : Int)))] : List (Nat × SV))) (fun (k : Nat) => (k ≤ L13_1.length)) (fun (k : Nat) => []) (fun (k : Nat) => L13_1.length - k) [3, 4] [] [0] 0 (fun k σ w_l8 hI hM_l8 => ?_) (h0 := (Nat.zero_le _))
  have hi0_l8 := hI
  have hcl0_l8 := (hM_l8.cap 0 rfl).1
  refine cd 8 [] (fun c21 => ?_) (fun c21 => ?_)
  · have hkl : k < L13_1.length := by omega
    have hpx := aMd (l := L13_1) (n := k)
    have hsl := aGc L13_1
    have hcp10_2 := hM_l8.cap 0 rfl
    refine ov 7 [] (s := Vl (A13_1) (((L13_1).take (k)).length) (c13_1)) (a := by exact cv (Ru.congr (v := .slice (A13_1) (k) (c13_1)) (v' := .slice (A13_1) (((L13_1).take (k)).length) (c13_1)) (Ru.lsliceTo (h := k) Tryz.underlying47 el9 rfl rfl (by omega) (by omega)) (sl_congr (by first | rfl | (simp; done) | omega | (simp; omega)))) rfl) (b := ?_)
    refine cp 0 [] (b := fY _ _ _ w_l8 (fE (hM_l8.rd 0 rfl)) (by rw [List.length_take]; omega) (by exact fun x hx => Nat.le_trans (hlp3_1 x (List.mem_of_mem_take hx)) (by omega)) (by rw [List.length_take]; omega) (hlw.at hM_l8)) (c := fun w10_3 hM10_3 => ?_)
    refine pp 10 [] 33 (fun g33 => ?_) (fun g33 => ?_)
    · exfalso; omega
    refine ov 3 [] (a := ksT ((eR ((L13_1).take (k))).length)) (b := ?_)
    refine ov 1 [] (s := Vb (false)) (a := by exact cv (Ru.congr (v := .bool (decide ((eR L13_1).take ((eR ((L13_1).take (k))).length) ≠ eR ((L13_1).take (k))))) (v' := .bool (false)) (Ru.sneq rfl rfl) ((congrArg Value.bool (decide_eq_false (by rw [hpx.2]; simp))))) rfl) (b := ?_)
    refine ov 6 [] (a := bL (k + 1)) (b := ?_)
    exact le1 2 [] (k + 1) [0] (h := by exact (by (try dsimp only); omega))
  refine E1 6 [] (.bool (true)) ?_
  exact ⟨rfl, (Mem.none hM_l8)⟩
end Go.Proofs.YtemejgglbhjodaaGreatDoor
namespace Go.Proofs.YtemejgglbhjodaaGreatDoor.fnSessionPrefix
open Go.ChangeShapes Go.WideShapes Go.ChangeAt Go.RowKit Go.Px
open Go.ChangeMaps (open_string shut_string)
set_option linter.unusedVariables false
theorem own : ownKnob Tryz.prog.godebug = none := by kernel_rfl
theorem laidOut : laidOutB Tryz.prog = true := by kernel_rfl
set_option maxRecDepth 100000 in
theorem lifted (os : Os) (started : os.Started) (H : Type) (enc : TypeId × Value → H) :
    ReturnsInHanded {} Tryz.checked os 8 .any (fun w args => (Rows.fnSessionPrefixSpec.pre enc Tryz.prog Tryz.f8 [] false w args ∧ laidMetH Tryz.prog Rows.fnSessionPrefixRow.laid w) ∧ sizedMet enc Tryz.prog Tryz.f8 (OpenSpec.ofChange Rows.fnSessionPrefixSpec) false w args) (Rows.fnSessionPrefixSpec.post enc Tryz.prog Tryz.f8 false true false false) := by
  refine Px.returnsIn_and_shaped (C := Tryz.checked) (X := fun w _ => laidMetH Tryz.prog Rows.fnSessionPrefixRow.laid w) (fun _ _ _ hh h => h.of_heap hh) own started (by kernel_rfl) Tryz.func8
    (ChangeSpec.witness_shaped (enc := enc) (C := Tryz.checked) (os := os) (X := fun w _ => laidMetH Tryz.prog Rows.fnSessionPrefixRow.laid w) false (World.laidAll Tryz.prog os Rows.fnSessionPrefixRow.laid) #[.slice none 0 0] 8 (World.laidAll_os _ _ _) (World.shaped_of_ZipB (by kernel_rfl) (by kernel_rfl)) (by kernel_rfl) (by kernel_rfl) (by kernel_rfl) (by rw [MakeChecks.laidMetH_plain _ _ _ (by kernel_rfl)]; exact laidMet_laidAll _ (by kernel_rfl) (by kernel_rfl))) ?_
  intro W base args ds gs before hval0 hW hL hsh
  have hval : ∀ (j : Nat) t v, Tryz.f8.params[j]? = some t → args[j]? = some v → Value.okWide Tryz.prog W .any base t v := hval0
  have hW' := hW
  obtain ⟨p, q, hA0, hV, rfl, hfz, hnd⟩ := hW'
  have hW' := hW
  have hA : DataW.TrodAll enc Tryz.prog W 0 (fun _ => true) true Tryz.f8.params.toList args.toList ds p := hA0
  rw [Tryz.params8] at hA hval
  obtain ⟨v0, vs0, d0, ds0, p0, q0, hargs, rfl, rfl, h0, r0⟩ := trodAll_cons hA
  obtain ⟨rfl, rfl, rfl⟩ := trodAll_nil r0
  obtain rfl : args = #[v0] := by cases args; simp_all
  obtain ⟨rfl, rfl⟩ := trodVars_none hV
  have k0 := h0
  have lt0 : ∀ x ∈ p0, x.block < W.heap.size := by obtain ⟨m, hm⟩ := k0; exact DataW.trod_lt m _ _ _ hm
  obtain ⟨a0, len0, cap0, rfl⟩ := okWide_slice Tryz.underlying22 (hval 0 22 v0 rfl rfl)
  have kk0 := k0
  obtain ⟨fuel0, hf0⟩ := kk0
  obtain ⟨z0, rfl, hz0, hc0, hw0, hRd0⟩ := uJ (α := UInt8) (f := fun a : UInt8 => [byteV a]) (c := 1) Tryz.underlying22 (by kernel_rfl) (fun _ => rfl) (wN Tryz.underlying5) hf0
  rw [tN] at hRd0
  have hLw : LW W := aJj hL hsh
  clear hA0 hval0
  refine (FnSessionPrefix_fn a0 cap0 z0 W hRd0 hz0 hc0 hLw).out.mono fun e W' ⟨v, he, hv, hg⟩ => ?_
  subst he hv
  have bel : Below W.heap.size W W' := ⟨hg.os, hg.tape, hg.output, hg.size, fun k hk => hg.block k hk (by simp)⟩
  exact ⟨_, rfl, _, _, _, [], _, [], hW', trodAll_mk1 (shut_bool Tryz.underlying4 _), (trodAll_cons_mk (Below.trod laidOut (by kernel_rfl) (of_decide_eq_true (by kernel_rfl)) k0 bel lt0) trodAll_mk0), rfl, bel.frame _, fun h => by cases h⟩
theorem named_ : Tryz.prog.funcNamed Rows.fnSessionPrefixRow.func = some 8 := by kernel_rfl
theorem closed : joinedFacts Tryz.prog 8 Tryz.f8 Rows.fnSessionPrefixSpec Rows.fnSessionPrefixRow = true := by kernel_rfl
theorem inst_ : Tryz.f8.isInstance Tryz.prog Rows.fnSessionPrefixRow.origin Rows.fnSessionPrefixRow.targs := of_decide_eq_true (by kernel_rfl)
theorem wrap_ : Tryz.f8.isWrapper Tryz.prog Rows.fnSessionPrefixRow.wrapper Rows.fnSessionPrefixRow.mainSum := by
  unfold Func.isWrapper
  rw [if_neg (by decide +kernel)]
  exact ⟨rfl, rfl⟩
theorem over : Rows.fnSessionPrefixRow.holds Tryz.pinned (OpenSpec.ofChange Rows.fnSessionPrefixSpec) :=
  OpenClaim.holds_of_wide 8 Tryz.f8 rfl rfl rfl rfl rfl rfl rfl ⟨rfl, rfl, rfl, rfl, rfl⟩ rfl rfl rfl rfl rfl named_ Tryz.func8 closed inst_ wrap_
    (fun os started H enc _ => lifted os started H enc)
theorem proved : Rows.FnSessionPrefixCardSaid :=
  Claim7.holds_tied_plain_at .later [] [.data, .data, .data, .data, .sentinel, .sentinel, .pinned] true (true, "ffc965ebab3b4f46face1f8cfe82471ad686a5b506f194f3dcdf81a67ea81070") true over (fun _ h => by cases h) (by kernel_rfl) (fun _ h => by cases h) fnSessionPrefix_row_tie rfl ⟨rfl, rfl⟩ (by kernel_rfl) rfl
    (fun f fn hf hfn => by
      obtain rfl : f = 8 := Option.some.inj (named_.symm.trans hf) |>.symm
      obtain rfl : fn = Tryz.f8 := (Option.some.inj (Tryz.func8.symm.trans hfn)).symm
      exact ⟨by kernel_rfl, fun j t ht => by
        rw [Tryz.params8] at ht
        have hm : t ∈ [22] := by simpa using Array.mem_of_getElem? ht
        have hall : ([22].all fun u => !Tryz.prog.wantsStandIn u) = true := by kernel_rfl
        exact (show Tryz.prog.wantsStandIn t = false by simpa using List.all_eq_true.1 hall t hm)⟩)
    (by kernel_rfl)
end Go.Proofs.YtemejgglbhjodaaGreatDoor.fnSessionPrefix
