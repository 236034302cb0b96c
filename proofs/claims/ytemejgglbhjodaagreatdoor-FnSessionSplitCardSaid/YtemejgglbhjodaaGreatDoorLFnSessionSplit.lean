/- The statement Rows.FnSessionSplitCardSaid: the Go function laws.FnSessionSplit returns true for every input, and each argument reads afterwards as it read before; the tied card. Condition: the listed package-level variables read as the card ties them to the program's text. -/
import Derived.Test.YtemejgglbhjodaaGreatDoorP9
import Derived.Test.YtemejgglbhjodaaGreatDoorRows
import Derived.Test.YtemejgglbhjodaaGreatDoorCards
import Derived.Test.YtemejgglbhjodaaGreatDoorTie
import Derived.Below
import Derived.LaidMore
import Derived.Stop.Joined
import Derived.Lay
set_option linter.unusedVariables false
namespace Go.Proofs.YtemejgglbhjodaaGreatDoor
open Go.Px
set_option maxHeartbeats 2000000 in
theorem FnSessionSplit_fn (A : Option Addr) (c : Nat) (l : List UInt8) (w : World) (hA : Rd w A (l.map byteV)) (hl : l.length <= 9223372036854775807) (hc : l.length <= c) (hlw : LW w) :
  aR Tryz.prog 7 [.slice A l.length c] w (λ v w1 => v = .bool true /\ Mem w w1 [] []) := by
 have hM : Mem w w [] [] := Mem.refl
 refine aR.n1 Tryz.func7 rfl Tryz.results7 Tryz.ntmps7 rfl ?_
 refine cd 11 [] (λ c8 => ?_) (λ c8 => ?_)
 refine E1 5 [] (.bool true) ?_
 exact ⟨rfl, (Mem.none hM)⟩
 refine cq 4 [] (b := jR _ _ _ w (hA.at hM) q0 q0) (c := ?_)
 rintro _ j0 ⟨c0, m0, n0, rfl, s0, e0, h0⟩
 have a0 := hM.cl 0 h0
 have r0 := (a0.cap 0 rfl).1
 refine cp 5 [] (b := fY _ _ _ j0 (a0.rd 0 rfl) qo (by exact λ x hx => cR (e0 x hx) t1) qo (hlw.at a0)) (c := λ k0 f0 => ?_)
 refine cp 7 [] (b := jZ _ _ _ k0 (f0.rd 0 rfl) qo (by exact λ x hx => cR (e0 x hx) t1)) (c := λ t0 o0 => ?_)
 refine ov 0 [] (s := Vb false) (a := by exact cv (Ru.congr (v := .bool (decide (eR c0 ≠ eR c0))) (v' := .bool false) (Ru.sneq rfl rfl) (congrArg Value.bool (decide_eq_false t11))) rfl) (b := ?_)
 refine Lt 5 [] (([[112, 117, 116, 32, 49, 32, 49], [112, 117, 116, 32, 50, 32, 50], [112, 117, 116, 32, 51, 32, 51], [112, 117, 116, 32, 52, 32, 52], [112, 97, 103, 101, 115], [112, 117, 116, 32, 53, 32, 53], [112, 97, 103, 101, 115], [116, 114, 101, 101], [115, 99, 97, 110, 32, 50, 32, 53], [100, 114, 111, 112, 32, 49], [116, 114, 101, 101], [100, 114, 111, 112, 32, 50], [116, 114, 101, 101], [112, 97, 103, 101, 115], [103, 101, 116, 32, 52], [103, 101, 116, 32, 50]]).map S) (λ l0 d0 p0 b0 => ?_)
 refine cq 0 [] (vs := [.slice (bl d0) ([[112, 117, 116, 32, 49, 32, 49], [112, 117, 116, 32, 50, 32, 50], [112, 117, 116, 32, 51, 32, 51], [112, 117, 116, 32, 52, 32, 52], [112, 97, 103, 101, 115], [112, 117, 116, 32, 53, 32, 53], [112, 97, 103, 101, 115], [116, 114, 101, 101], [115, 99, 97, 110, 32, 50, 32, 53], [100, 114, 111, 112, 32, 49], [116, 114, 101, 101], [100, 114, 111, 112, 32, 50], [116, 114, 101, 101], [112, 97, 103, 101, 115], [103, 101, 116, 32, 52], [103, 101, 116, 32, 50]]).length 16]) (hvs := (by first | rfl | (rw [show ([[112, 117, 116, 32, 49, 32, 49], [112, 117, 116, 32, 50, 32, 50], [112, 117, 116, 32, 51, 32, 51], [112, 117, 116, 32, 52, 32, 52], [112, 97, 103, 101, 115], [112, 117, 116, 32, 53, 32, 53], [112, 97, 103, 101, 115], [116, 114, 101, 101], [115, 99, 97, 110, 32, 50, 32, 53], [100, 114, 111, 112, 32, 49], [116, 114, 101, 101], [100, 114, 111, 112, 32, 50], [116, 114, 101, 101], [112, 97, 103, 101, 115], [103, 101, 116, 32, 52], [103, 101, 116, 32, 50]]).length = 16 from t6]; rfl))) (b := fY (bl d0) 16 ([[112, 117, 116, 32, 49, 32, 49], [112, 117, 116, 32, 50, 32, 50], [112, 117, 116, 32, 51, 32, 51], [112, 117, 116, 32, 52, 32, 52], [112, 97, 103, 101, 115], [112, 117, 116, 32, 53, 32, 53], [112, 97, 103, 101, 115], [116, 114, 101, 101], [115, 99, 97, 110, 32, 50, 32, 53], [100, 114, 111, 112, 32, 49], [116, 114, 101, 101], [100, 114, 111, 112, 32, 50], [116, 114, 101, 101], [112, 97, 103, 101, 115], [103, 101, 116, 32, 52], [103, 101, 116, 32, 50]]) l0 (b0.rd 0 rfl) t19 t19 t19 (hlw.at b0)) (c := ?_)
 rintro _ u0 ⟨rfl, i0⟩
 have g0 := b0.cl 0 i0
 refine ov 5 [] (s := Vb true) (a := by exact cv (Ru.congr (v := .bool (decide (eR ([[112, 117, 116, 32, 49, 32, 49], [112, 117, 116, 32, 50, 32, 50], [112, 117, 116, 32, 51, 32, 51], [112, 117, 116, 32, 52, 32, 52], [112, 97, 103, 101, 115], [112, 117, 116, 32, 53, 32, 53], [112, 97, 103, 101, 115], [116, 114, 101, 101], [115, 99, 97, 110, 32, 50, 32, 53], [100, 114, 111, 112, 32, 49], [116, 114, 101, 101], [100, 114, 111, 112, 32, 50], [116, 114, 101, 101], [112, 97, 103, 101, 115], [103, 101, 116, 32, 52], [103, 101, 116, 32, 50]]) = [111, 107, 10, 111, 107, 10, 111, 107, 10, 111, 107, 10, 49, 32, 49, 10, 111, 107, 10, 51, 32, 50, 10, 40, 49, 58, 49, 44, 50, 58, 50, 44, 51, 58, 51, 32, 52, 32, 52, 58, 52, 44, 53, 58, 53, 41, 10, 50, 58, 50, 44, 51, 58, 51, 44, 52, 58, 52, 10, 111, 107, 10, 40, 50, 58, 50, 44, 51, 58, 51, 32, 52, 32, 52, 58, 52, 44, 53, 58, 53, 41, 10, 111, 107, 10, 51, 58, 51, 44, 52, 58, 52, 44, 53, 58, 53, 10, 49, 32, 49, 10, 52, 10, 110, 111, 10]))) (v' := .bool true) (Ru.seql rfl rfl) (congrArg Value.bool (decide_eq_true aIe))) rfl) (b := ?_)
 refine E1 3 [] (.bool true) ?_
 exact ⟨rfl, (Mem.none g0)⟩
end Go.Proofs.YtemejgglbhjodaaGreatDoor
namespace Go.Proofs.YtemejgglbhjodaaGreatDoor.fnSessionSplit
open Go.ChangeShapes Go.WideShapes Go.ChangeAt Go.RowKit Go.Px
open Go.ChangeMaps (open_string shut_string)
theorem own : ownKnob Tryz.prog.godebug = none := by kernel_rfl
theorem laidOut : laidOutB Tryz.prog = true := by kernel_rfl
set_option maxRecDepth 100000 in
theorem lifted (os : Os) (started : os.Started) (H : Type) (enc : TypeId × Value → H) :
    ReturnsInHanded {} Tryz.checked os 7 .any (fun w args => (Rows.fnSessionSplitSpec.pre enc Tryz.prog Tryz.f7 [] false w args ∧ laidMetH Tryz.prog Rows.fnSessionSplitRow.laid w) ∧ sizedMet enc Tryz.prog Tryz.f7 (OpenSpec.ofChange Rows.fnSessionSplitSpec) false w args) (Rows.fnSessionSplitSpec.post enc Tryz.prog Tryz.f7 false true false false) := by
  refine Px.returnsIn_and_shaped (C := Tryz.checked) (X := fun w _ => laidMetH Tryz.prog Rows.fnSessionSplitRow.laid w) (fun _ _ _ hh h => h.of_heap hh) own started (by kernel_rfl) Tryz.func7
    (ChangeSpec.witness_shaped (enc := enc) (C := Tryz.checked) (os := os) (X := fun w _ => laidMetH Tryz.prog Rows.fnSessionSplitRow.laid w) false (World.laidAll Tryz.prog os Rows.fnSessionSplitRow.laid) #[.slice none 0 0] 8 (World.laidAll_os _ _ _) (World.shaped_of_ZipB (by kernel_rfl) (by kernel_rfl)) (by kernel_rfl) (by kernel_rfl) (by kernel_rfl) (by rw [MakeChecks.laidMetH_plain _ _ _ (by kernel_rfl)]; exact laidMet_laidAll _ (by kernel_rfl) (by kernel_rfl))) ?_
  intro W base args ds gs before hval0 hW hL hsh
  have hval : ∀ (j : Nat) t v, Tryz.f7.params[j]? = some t → args[j]? = some v → Value.okWide Tryz.prog W .any base t v := hval0
  have hW' := hW
  obtain ⟨p, q, hA0, hV, rfl, hfz, hnd⟩ := hW'
  have hW' := hW
  have hA : DataW.TrodAll enc Tryz.prog W 0 (fun _ => true) true Tryz.f7.params.toList args.toList ds p := hA0
  rw [Tryz.params7] at hA hval
  obtain ⟨v0, vs0, d0, ds0, p0, q0, hargs, rfl, rfl, h0, r0⟩ := trodAll_cons hA
  obtain ⟨rfl, rfl, rfl⟩ := trodAll_nil r0
  obtain rfl : args = #[v0] := by cases args; simp_all
  obtain ⟨rfl, rfl⟩ := trodVars_none hV
  have k0 := h0
  have lt0 : ∀ x ∈ p0, x.block < W.heap.size := by obtain ⟨m, hm⟩ := k0; exact DataW.trod_lt m _ _ _ hm
  obtain ⟨a0, len0, cap0, rfl⟩ := okWide_slice Tryz.underlying22 (hval 0 22 v0 rfl rfl)
  have kk0 := k0
  obtain ⟨fuel0, hf0⟩ := kk0
  obtain ⟨z0, rfl, hz0, hc0, hw0, hRd0⟩ := uJ (α := UInt8) (f := fun a : UInt8 => [byteV a]) (c := 1) Tryz.underlying22 (by kernel_rfl) (fun _ => rfl) (wN Tryz.underlying5) hf0
  rw [tN] at hRd0
  have hLw : LW W := aJj hL hsh
  clear hA0 hval0
  refine (FnSessionSplit_fn a0 cap0 z0 W hRd0 hz0 hc0 hLw).out.mono fun e W' ⟨v, he, hv, hg⟩ => ?_
  subst he hv
  have bel : Below W.heap.size W W' := ⟨hg.os, hg.tape, hg.output, hg.size, fun k hk => hg.block k hk (by simp)⟩
  exact ⟨_, rfl, _, _, _, [], _, [], hW', trodAll_mk1 (shut_bool Tryz.underlying4 _), (trodAll_cons_mk (Below.trod laidOut (by kernel_rfl) (of_decide_eq_true (by kernel_rfl)) k0 bel lt0) trodAll_mk0), rfl, bel.frame _, fun h => by cases h⟩
theorem named_ : Tryz.prog.funcNamed Rows.fnSessionSplitRow.func = some 7 := by kernel_rfl
theorem closed : joinedFacts Tryz.prog 7 Tryz.f7 Rows.fnSessionSplitSpec Rows.fnSessionSplitRow = true := by kernel_rfl
theorem inst_ : Tryz.f7.isInstance Tryz.prog Rows.fnSessionSplitRow.origin Rows.fnSessionSplitRow.targs := of_decide_eq_true (by kernel_rfl)
theorem wrap_ : Tryz.f7.isWrapper Tryz.prog Rows.fnSessionSplitRow.wrapper Rows.fnSessionSplitRow.mainSum := by
  unfold Func.isWrapper
  rw [if_neg (by decide +kernel)]
  exact ⟨rfl, rfl⟩
theorem over : Rows.fnSessionSplitRow.holds Tryz.pinned (OpenSpec.ofChange Rows.fnSessionSplitSpec) :=
  OpenClaim.holds_of_wide 7 Tryz.f7 rfl rfl rfl rfl rfl rfl rfl ⟨rfl, rfl, rfl, rfl, rfl⟩ rfl rfl rfl rfl rfl named_ Tryz.func7 closed inst_ wrap_
    (fun os started H enc _ => lifted os started H enc)
theorem proved : Rows.FnSessionSplitCardSaid :=
  Claim7.holds_tied_plain_at .later [] [.data, .data, .data, .data, .sentinel, .sentinel, .pinned] true (true, "ffc965ebab3b4f46face1f8cfe82471ad686a5b506f194f3dcdf81a67ea81070") true over (fun _ h => by cases h) (by kernel_rfl) (fun _ h => by cases h) fnSessionSplit_row_tie rfl ⟨rfl, rfl⟩ (by kernel_rfl) rfl
    (fun f fn hf hfn => by
      obtain rfl : f = 7 := Option.some.inj (named_.symm.trans hf) |>.symm
      obtain rfl : fn = Tryz.f7 := (Option.some.inj (Tryz.func7.symm.trans hfn)).symm
      exact ⟨by kernel_rfl, fun j t ht => by
        rw [Tryz.params7] at ht
        have hm : t ∈ [22] := by simpa using Array.mem_of_getElem? ht
        have hall : ([22].all fun u => !Tryz.prog.wantsStandIn u) = true := by kernel_rfl
        exact (show Tryz.prog.wantsStandIn t = false by simpa using List.all_eq_true.1 hall t hm)⟩)
    (by kernel_rfl)
end Go.Proofs.YtemejgglbhjodaaGreatDoor.fnSessionSplit
