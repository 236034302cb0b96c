/- Rows.FnSessionQuestionsCardSaid: laws.FnSessionQuestions returns true for every input and leaves its argument as it was. Condition: the listed variables read as the card ties them. -/
import Derived.Test.YtemejgglbhjodaaGreatDoorP9
import Derived.Test.YtemejgglbhjodaaGreatDoorRows
import Derived.Test.YtemejgglbhjodaaGreatDoorCards
import Derived.Test.YtemejgglbhjodaaGreatDoorTie
import Derived.Below
import Derived.LaidMore
import Derived.Stop.Joined
import Derived.Lay
set_option linter.unusedVariables false
namespace Go.Proofs.YtemejgglbhjodaaGreatDoor
open Go.Px
set_option maxHeartbeats 2000000 in
theorem FnSessionQuestions_fn (A : Option Addr) (c : Nat) (l : List UInt8) (w : World) (hA : Rd w A (l.map byteV)) (hl : l.length <= 9223372036854775807) (hc : l.length <= c) (hlw : LW w) :
  aR Tryz.prog 5 [.slice A l.length c] w (λ v w1 => v = .bool true /\ Mem w w1 [] []) := by
 have hM : Mem w w [] [] := Mem.refl
 refine aR.n1 Tryz.func5 rfl Tryz.results5 Tryz.ntmps5 rfl ?_
 refine cd 11 [] (λ c11 => ?_) (λ c11 => ?_)
 refine E1 5 [] (.bool true) ?_
 exact ⟨rfl, (Mem.none hM)⟩
 refine cq 4 [] (b := jR _ _ _ w (hA.at hM) q0 q0) (c := ?_)
 rintro _ t0 ⟨a0, y0, H0, rfl, Y0, b0, n0⟩
 have c0 := hM.cl 0 n0
 have X0 := (c0.cap 0 rfl).1
 refine cp 5 [] (b := fY _ _ _ t0 (c0.rd 0 rfl) qo (by exact λ x hx => cR (b0 x hx) t1) qo (hlw.at c0)) (c := λ u0 f0 => ?_)
 refine cp 7 [] (b := jZ _ _ _ u0 (f0.rd 0 rfl) qo (by exact λ x hx => cR (b0 x hx) t1)) (c := λ v0 g0 => ?_)
 refine ov 0 [] (s := Vb false) (a := by exact cv (Ru.congr (v := .bool (decide (eR a0 ≠ eR a0))) (v' := .bool false) (Ru.sneq rfl rfl) (congrArg Value.bool (decide_eq_false t11))) rfl) (b := ?_)
 refine ov 3 [] (a := bL (a0.length + 4)) (b := ?_)
 refine cd 3 [] (λ c25 => ?_) (λ c25 => ?_)
 refine cp 4 [] (b := jZ _ _ _ v0 (g0.rd 0 rfl) qo (by exact λ x hx => cR (b0 x hx) t1)) (c := λ Z0 h0 => ?_)
 refine ov 0 [] (s := Vb true) (a := by exact cv (Ru.congr (v := .bool (decide (eR a0 = eR a0))) (v' := .bool true) (Ru.seql rfl rfl) (congrArg Value.bool (decide_eq_true rfl))) rfl) (b := ?_)
 refine E1 3 [] (.bool true) ?_
 exact ⟨rfl, (Mem.none h0)⟩
 obtain ⟨O9, X9, Q9, hO9, hA9, hB9, hQ9, hs9⟩ := aPc (l := a0) t1
 simp only [aA] at hs9
 refine Lt 3 [] (([]).map S) (λ a1 D0 P0 i0 => ?_)
 refine aM0 1 [] 0 (i0.rd 1 rfl) (λ b1 z0 I0 T0 M0 => ?_) (hn := t5) (hb := t5)
 refine Lt 0 [] (([[116, 114, 101, 101]]).map S) (λ c1 E0 Q0 j0 => ?_)
 refine aM 0 [] 1 (j0.rd 0 rfl) (λ w0 A0 J0 U0 d0 => ?_) (hn := t5) (hb := t5)
 refine cq 0 [] (b := fY _ _ _ w0 (d0.rd 1 rfl) (by (simp only [aA, aG, bA]; omega)) (by (intro x hx; rcases bE.1 hx with hx | hx; exact cR (b0 x hx) t1; exact (by decide : ∀ x ∈ ([[116, 114, 101, 101]] : List Str), x.length <= 1048576) x hx)) qo (hlw.at d0)) (c := ?_)
 rintro _ d1 ⟨r0, o0⟩
 obtain rfl : _ = S (O9 ++ X9) := r0.trans (congrArg S hA9)
 have N0 := d0.cl 0 o0
 refine Lt 4 [] (([]).map S) (λ e1 F0 R0 k0 => ?_)
 refine aM0 1 [] 0 (k0.rd 3 rfl) (λ f1 B0 K0 V0 O0 => ?_) (hn := t5) (hb := t5)
 refine Lt 0 [] (([[112, 97, 103, 101, 115], [103, 101, 116, 32, 53], [115, 99, 97, 110, 32, 49, 32, 57], [116, 114, 101, 101]]).map S) (λ g1 G0 S0 l0 => ?_)
 refine aM 0 [] 1 (l0.rd 0 rfl) (λ x0 C0 L0 W0 e0 => ?_) (hn := t5) (hb := t5)
 refine cq 0 [] (b := fY _ _ _ x0 (e0.rd 1 rfl) (by (simp only [aA, aG, bA]; omega)) (by (intro x hx; rcases bE.1 hx with hx | hx; exact cR (b0 x hx) t1; exact (by decide : ∀ x ∈ ([[112, 97, 103, 101, 115], [103, 101, 116, 32, 53], [115, 99, 97, 110, 32, 49, 32, 57], [116, 114, 101, 101]] : List Str), x.length <= 1048576) x hx)) qo (hlw.at e0)) (c := ?_)
 rintro _ h1 ⟨s0, p0⟩
 obtain rfl : _ = S (O9 ++ (Q9 ++ X9)) := s0.trans (congrArg S hB9)
 have m0 := e0.cl 0 p0
 have hO9l : (eR a0).length = O9.length := congrArg List.length hO9
 refine pp 11 [] 47 (λ g47 => ?_) (λ g47 => ?_)
 exfalso; simp only [aA] at g47; omega
 refine cd 7 [] (λ c53 => ?_) (λ c53 => ?_)
 exfalso; simp only [aA] at c53; omega
 refine ov 6 [] (s := Vs X9) (a := by exact cv (Ru.congr (v := S ((O9 ++ X9).drop (eR a0).length)) (v' := S X9) (Ru.ssliceFrom (l := (eR a0).length) Tryz.underlying9 rfl rfl t1 (by simp only [aA]; omega)) (congrArg S (by rw [hO9l, List.drop_left]))) rfl) (b := ?_)
 refine ov 7 [] (s := Vs (Q9 ++ X9)) (a := by exact cv (Ru.congr (v := S ((O9 ++ (Q9 ++ X9)).drop (eR a0).length)) (v' := S (Q9 ++ X9)) (Ru.ssliceFrom (l := (eR a0).length) Tryz.underlying9 rfl rfl t1 (by simp only [aA]; omega)) (congrArg S (by rw [hO9l, List.drop_left]))) rfl) (b := ?_)
 refine pp 10 [] 67 (λ g67 => ?_) (λ g67 => ?_)
 refine ov 5 [] (s := Vi ((Q9.length : Nat) : Int)) (a := by exact cv (Ru.congr (v := I (((Q9 ++ X9).length : Int) - (X9.length : Int))) (v' := I ((Q9.length : Nat) : Int)) (Ru.sub rfl rfl (by simp only [aA]; omega)) (I_congr (by simp only [aA]; omega))) rfl) (b := ?_)
 refine ov 0 [] (s := Vs X9) (a := by exact cv (Ru.congr (v := S ((Q9 ++ X9).drop Q9.length)) (v' := S X9) (Ru.ssliceFrom (l := Q9.length) Tryz.underlying9 rfl rfl t1 (by simp only [aA]; omega)) (congrArg S List.drop_left)) rfl) (b := ?_)
 refine ov 1 [] (s := Vb true) (a := by exact cv (Ru.congr (v := .bool (decide (X9 = X9))) (v' := .bool true) (Ru.seql rfl rfl) (congrArg Value.bool (decide_eq_true rfl))) rfl) (b := ?_)
 refine E1 4 [] (.bool true) ?_
 exact ⟨rfl, (Mem.none m0)⟩
 exfalso; simp only [aA] at g67; omega
end Go.Proofs.YtemejgglbhjodaaGreatDoor
namespace Go.Proofs.YtemejgglbhjodaaGreatDoor.fnSessionQuestions
open Go.ChangeShapes Go.WideShapes Go.ChangeAt Go.RowKit Go.Px
open Go.ChangeMaps (open_string shut_string)
theorem own : ownKnob Tryz.prog.godebug = none := by kernel_rfl
theorem laidOut : laidOutB Tryz.prog = true := by kernel_rfl
set_option maxRecDepth 100000 in
theorem lifted (os : Os) (started : os.Started) (H : Type) (enc : TypeId × Value → H) :
    ReturnsInHanded {} Tryz.checked os 5 .any (fun w args => (Rows.fnSessionQuestionsSpec.pre enc Tryz.prog Tryz.f5 [] false w args ∧ laidMetH Tryz.prog Rows.fnSessionQuestionsRow.laid w) ∧ sizedMet enc Tryz.prog Tryz.f5 (OpenSpec.ofChange Rows.fnSessionQuestionsSpec) false w args) (Rows.fnSessionQuestionsSpec.post enc Tryz.prog Tryz.f5 false true false false) := by
  refine Px.returnsIn_and_shaped (C := Tryz.checked) (X := fun w _ => laidMetH Tryz.prog Rows.fnSessionQuestionsRow.laid w) (fun _ _ _ hh h => h.of_heap hh) own started (by kernel_rfl) Tryz.func5
    (ChangeSpec.witness_shaped (enc := enc) (C := Tryz.checked) (os := os) (X := fun w _ => laidMetH Tryz.prog Rows.fnSessionQuestionsRow.laid w) false (World.laidAll Tryz.prog os Rows.fnSessionQuestionsRow.laid) #[.slice none 0 0] 8 (World.laidAll_os _ _ _) (World.shaped_of_ZipB (by kernel_rfl) (by kernel_rfl)) (by kernel_rfl) (by kernel_rfl) (by kernel_rfl) (by rw [MakeChecks.laidMetH_plain _ _ _ (by kernel_rfl)]; exact laidMet_laidAll _ (by kernel_rfl) (by kernel_rfl))) ?_
  intro W base args ds gs before hval0 hW hL hsh
  have hval : ∀ (j : Nat) t v, Tryz.f5.params[j]? = some t → args[j]? = some v → Value.okWide Tryz.prog W .any base t v := hval0
  have hW' := hW
  obtain ⟨p, q, hA0, hV, rfl, hfz, hnd⟩ := hW'
  have hW' := hW
  have hA : DataW.TrodAll enc Tryz.prog W 0 (fun _ => true) true Tryz.f5.params.toList args.toList ds p := hA0
  rw [Tryz.params5] at hA hval
  obtain ⟨v0, vs0, d0, ds0, p0, q0, hargs, rfl, rfl, h0, r0⟩ := trodAll_cons hA
  obtain ⟨rfl, rfl, rfl⟩ := trodAll_nil r0
  obtain rfl : args = #[v0] := by cases args; simp_all
  obtain ⟨rfl, rfl⟩ := trodVars_none hV
  have k0 := h0
  have lt0 : ∀ x ∈ p0, x.block < W.heap.size := by obtain ⟨m, hm⟩ := k0; exact DataW.trod_lt m _ _ _ hm
  obtain ⟨a0, len0, cap0, rfl⟩ := okWide_slice Tryz.underlying22 (hval 0 22 v0 rfl rfl)
  have kk0 := k0
  obtain ⟨fuel0, hf0⟩ := kk0
  obtain ⟨z0, rfl, hz0, hc0, hw0, hRd0⟩ := uJ (α := UInt8) (f := fun a : UInt8 => [byteV a]) (c := 1) Tryz.underlying22 (by kernel_rfl) (fun _ => rfl) (wN Tryz.underlying5) hf0
  rw [tN] at hRd0
  have hLw : LW W := aJj hL hsh
  clear hA0 hval0
  refine (FnSessionQuestions_fn a0 cap0 z0 W hRd0 hz0 hc0 hLw).out.mono fun e W' ⟨v, he, hv, hg⟩ => ?_
  subst he hv
  have bel : Below W.heap.size W W' := ⟨hg.os, hg.tape, hg.output, hg.size, fun k hk => hg.block k hk (by simp)⟩
  exact ⟨_, rfl, _, _, _, [], _, [], hW', trodAll_mk1 (shut_bool Tryz.underlying4 _), (trodAll_cons_mk (Below.trod laidOut (by kernel_rfl) (of_decide_eq_true (by kernel_rfl)) k0 bel lt0) trodAll_mk0), rfl, bel.frame _, fun h => by cases h⟩
theorem named_ : Tryz.prog.funcNamed Rows.fnSessionQuestionsRow.func = some 5 := by kernel_rfl
theorem closed : joinedFacts Tryz.prog 5 Tryz.f5 Rows.fnSessionQuestionsSpec Rows.fnSessionQuestionsRow = true := by kernel_rfl
theorem inst_ : Tryz.f5.isInstance Tryz.prog Rows.fnSessionQuestionsRow.origin Rows.fnSessionQuestionsRow.targs := of_decide_eq_true (by kernel_rfl)
theorem wrap_ : Tryz.f5.isWrapper Tryz.prog Rows.fnSessionQuestionsRow.wrapper Rows.fnSessionQuestionsRow.mainSum := by
  unfold Func.isWrapper
  rw [if_neg (by decide +kernel)]
  exact ⟨rfl, rfl⟩
theorem over : Rows.fnSessionQuestionsRow.holds Tryz.pinned (OpenSpec.ofChange Rows.fnSessionQuestionsSpec) :=
  OpenClaim.holds_of_wide 5 Tryz.f5 rfl rfl rfl rfl rfl rfl rfl ⟨rfl, rfl, rfl, rfl, rfl⟩ rfl rfl rfl rfl rfl named_ Tryz.func5 closed inst_ wrap_
    (fun os started H enc _ => lifted os started H enc)
theorem proved : Rows.FnSessionQuestionsCardSaid :=
  Claim7.holds_tied_plain_at .later [] [.data, .data, .data, .data, .sentinel, .sentinel, .pinned] true (true, "ffc965ebab3b4f46face1f8cfe82471ad686a5b506f194f3dcdf81a67ea81070") true over (fun _ h => by cases h) (by kernel_rfl) (fun _ h => by cases h) fnSessionQuestions_row_tie rfl ⟨rfl, rfl⟩ (by kernel_rfl) rfl
    (fun f fn hf hfn => by
      obtain rfl : f = 5 := Option.some.inj (named_.symm.trans hf) |>.symm
      obtain rfl : fn = Tryz.f5 := (Option.some.inj (Tryz.func5.symm.trans hfn)).symm
      exact ⟨by kernel_rfl, fun j t ht => by
        rw [Tryz.params5] at ht
        have hm : t ∈ [22] := by simpa using Array.mem_of_getElem? ht
        have hall : ([22].all fun u => !Tryz.prog.wantsStandIn u) = true := by kernel_rfl
        exact (show Tryz.prog.wantsStandIn t = false by simpa using List.all_eq_true.1 hall t hm)⟩)
    (by kernel_rfl)
end Go.Proofs.YtemejgglbhjodaaGreatDoor.fnSessionQuestions
