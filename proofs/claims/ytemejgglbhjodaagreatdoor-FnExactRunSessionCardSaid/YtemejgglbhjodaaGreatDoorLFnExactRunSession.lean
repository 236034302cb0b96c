/- The statement Rows.FnExactRunSessionCardSaid: the Go function laws.FnExactRunSession returns true for every input, and each argument reads afterwards as it read before; the tied card. Condition: the listed package-level variables read as the card ties them to the program's text. -/
import Derived.Test.YtemejgglbhjodaaGreatDoorPX
import Derived.Test.YtemejgglbhjodaaGreatDoorRows
import Derived.Test.YtemejgglbhjodaaGreatDoorCards
import Derived.Test.YtemejgglbhjodaaGreatDoorTie
import Derived.Below
import Derived.LaidMore
import Derived.Stop.Joined
import Derived.Lay
set_option linter.unusedVariables false
namespace Go.Proofs.YtemejgglbhjodaaGreatDoor
open Go.Px
set_option maxHeartbeats 2000000 in
theorem FnExactRunSession_fn (A : Option Addr) (c : Nat) (l : List Str) (w : World) (hA : Rd w A (l.map S)) (hl : l.length <= 9223372036854775807) (hs : ∀ x ∈ l, x.length <= 9223372036854775807) (hlw : LW w) :
  aR Tryz.prog 9 [.slice A l.length c] w (λ v w1 => v = .bool true /\ Mem w w1 [] []) := by
 have hM : Mem w w [] [] := Mem.refl
 refine aR.n1 Tryz.func9 rfl Tryz.results9 Tryz.ntmps9 rfl ?_
 refine cq 12 [] (b := szStringS_fn _ _ _ _ w (hA.at hM) q0 q0 (by rfl)) (c := ?_)
 rintro _ p0 ⟨E0, rfl, m0, j0⟩
 have b0 := hM.cl 0 j0
 refine cd 8 [] (λ c11 => ?_) (λ c11 => ?_)
 refine E1 5 [] (.bool true) ?_
 exact ⟨rfl, (Mem.none b0)⟩
 obtain ⟨hl9, hp9⟩ := m0 t1
 refine cq 4 [] (b := toStringS_fn _ _ _ p0 (hA.at b0) qo) (c := ?_)
 rintro _ r0 ⟨w0, z0, rfl, k0⟩
 have d0 := b0.cl 0 k0
 have C0 := (d0.cap 0 rfl).1
 refine cp 0 [] (b := jZ _ _ _ r0 (d0.rd 0 rfl) qo (by exact hp9)) (c := λ s0 e0 => ?_)
 refine cq 5 [] (b := toStringS_fn _ _ _ s0 (hA.at e0) qo) (c := ?_)
 rintro _ t0 ⟨x0, A0, rfl, l0⟩
 have c0 := e0.cl 0 l0
 have D0 := (c0.cap 0 rfl).1
 refine cp 5 [] (b := fY _ _ _ t0 (c0.rd 0 rfl) qo (by exact hp9) qo (hlw.at c0)) (c := λ u0 f0 => ?_)
 refine ov 7 [] (s := Vb false) (a := by exact cv (Ru.congr (v := .bool (decide (eR l ≠ eR l))) (v' := .bool false) (Ru.sneq rfl rfl) (congrArg Value.bool (decide_eq_false t11))) rfl) (b := ?_)
 refine cq 8 [] (b := toStringS_fn _ _ _ u0 (hA.at f0) qo) (c := ?_)
 rintro _ o0 ⟨v0, y0, rfl, h0⟩
 have a0 := f0.cl 0 h0
 have B0 := (a0.cap 0 rfl).1
 refine cq 0 [] (b := eqStringS_fn _ _ _ _ _ _ o0 (a0.rd 1 rfl) (a0.rd 0 rfl) qo) (c := ?_)
 rintro _ F0 ⟨n0, i0⟩
 obtain rfl : _ = .bool true := n0.trans (congrArg Value.bool (decide_eq_true rfl))
 have g0 := a0.cl 0 i0
 refine E1 9 [] (.bool true) ?_
 exact ⟨rfl, (Mem.none g0)⟩
end Go.Proofs.YtemejgglbhjodaaGreatDoor
namespace Go.Proofs.YtemejgglbhjodaaGreatDoor.fnExactRunSession
open Go.ChangeShapes Go.WideShapes Go.ChangeAt Go.RowKit Go.Px
open Go.ChangeMaps (open_string shut_string)
theorem own : ownKnob Tryz.prog.godebug = none := by kernel_rfl
theorem laidOut : laidOutB Tryz.prog = true := by kernel_rfl
set_option maxRecDepth 100000 in
theorem lifted (os : Os) (started : os.Started) (H : Type) (enc : TypeId × Value → H) :
    ReturnsInHanded {} Tryz.checked os 9 .any (fun w args => (Rows.fnExactRunSessionSpec.pre enc Tryz.prog Tryz.f9 [] false w args ∧ laidMetH Tryz.prog Rows.fnExactRunSessionRow.laid w) ∧ sizedMet enc Tryz.prog Tryz.f9 (OpenSpec.ofChange Rows.fnExactRunSessionSpec) false w args) (Rows.fnExactRunSessionSpec.post enc Tryz.prog Tryz.f9 false true false false) := by
  refine Px.returnsIn_and_shaped (C := Tryz.checked) (X := fun w _ => laidMetH Tryz.prog Rows.fnExactRunSessionRow.laid w) (fun _ _ _ hh h => h.of_heap hh) own started (by kernel_rfl) Tryz.func9
    (ChangeSpec.witness_shaped (enc := enc) (C := Tryz.checked) (os := os) (X := fun w _ => laidMetH Tryz.prog Rows.fnExactRunSessionRow.laid w) false (World.laidAll Tryz.prog os Rows.fnExactRunSessionRow.laid) #[.slice none 0 0] 8 (World.laidAll_os _ _ _) (World.shaped_of_ZipB (by kernel_rfl) (by kernel_rfl)) (by kernel_rfl) (by kernel_rfl) (by kernel_rfl) (by rw [MakeChecks.laidMetH_plain _ _ _ (by kernel_rfl)]; exact laidMet_laidAll _ (by kernel_rfl) (by kernel_rfl))) ?_
  intro W base args ds gs before hval0 hW hL hsh
  have hval : ∀ (j : Nat) t v, Tryz.f9.params[j]? = some t → args[j]? = some v → Value.okWide Tryz.prog W .any base t v := hval0
  have hW' := hW
  obtain ⟨p, q, hA0, hV, rfl, hfz, hnd⟩ := hW'
  have hW' := hW
  have hA : DataW.TrodAll enc Tryz.prog W 0 (fun _ => true) true Tryz.f9.params.toList args.toList ds p := hA0
  rw [Tryz.params9] at hA hval
  obtain ⟨v0, vs0, d0, ds0, p0, q0, hargs, rfl, rfl, h0, r0⟩ := trodAll_cons hA
  obtain ⟨rfl, rfl, rfl⟩ := trodAll_nil r0
  obtain rfl : args = #[v0] := by cases args; simp_all
  obtain ⟨rfl, rfl⟩ := trodVars_none hV
  have k0 := h0
  have lt0 : ∀ x ∈ p0, x.block < W.heap.size := by obtain ⟨m, hm⟩ := k0; exact DataW.trod_lt m _ _ _ hm
  obtain ⟨a0, len0, cap0, rfl⟩ := okWide_slice Tryz.underlying47 (hval 0 47 v0 rfl rfl)
  have kk0 := k0
  obtain ⟨fuel0, hf0⟩ := kk0
  obtain ⟨z0, rfl, hz0, hc0, hw0, hRd0⟩ := uJ (α := Str) (f := fun a : Str => [S a]) (c := 1) Tryz.underlying47 (by kernel_rfl) (fun _ => rfl) (str_el Tryz.underlying9) hf0
  rw [tN] at hRd0
  have hLw : LW W := aJj hL hsh
  clear hA0 hval0
  refine (FnExactRunSession_fn a0 cap0 z0 W hRd0 hz0 hw0 hLw).out.mono fun e W' ⟨v, he, hv, hg⟩ => ?_
  subst he hv
  have bel : Below W.heap.size W W' := ⟨hg.os, hg.tape, hg.output, hg.size, fun k hk => hg.block k hk (by simp)⟩
  exact ⟨_, rfl, _, _, _, [], _, [], hW', trodAll_mk1 (shut_bool Tryz.underlying4 _), (trodAll_cons_mk (Below.trod laidOut (by kernel_rfl) (of_decide_eq_true (by kernel_rfl)) k0 bel lt0) trodAll_mk0), rfl, bel.frame _, fun h => by cases h⟩
theorem named_ : Tryz.prog.funcNamed Rows.fnExactRunSessionRow.func = some 9 := by kernel_rfl
theorem closed : joinedFacts Tryz.prog 9 Tryz.f9 Rows.fnExactRunSessionSpec Rows.fnExactRunSessionRow = true := by kernel_rfl
theorem inst_ : Tryz.f9.isInstance Tryz.prog Rows.fnExactRunSessionRow.origin Rows.fnExactRunSessionRow.targs := of_decide_eq_true (by kernel_rfl)
theorem wrap_ : Tryz.f9.isWrapper Tryz.prog Rows.fnExactRunSessionRow.wrapper Rows.fnExactRunSessionRow.mainSum := by
  unfold Func.isWrapper
  rw [if_neg (by decide +kernel)]
  exact ⟨rfl, rfl⟩
theorem over : Rows.fnExactRunSessionRow.holds Tryz.pinned (OpenSpec.ofChange Rows.fnExactRunSessionSpec) :=
  OpenClaim.holds_of_wide 9 Tryz.f9 rfl rfl rfl rfl rfl rfl rfl ⟨rfl, rfl, rfl, rfl, rfl⟩ rfl rfl rfl rfl rfl named_ Tryz.func9 closed inst_ wrap_
    (fun os started H enc _ => lifted os started H enc)
theorem proved : Rows.FnExactRunSessionCardSaid :=
  Claim7.holds_tied_plain_at .later [] [.data, .data, .data, .data, .sentinel, .sentinel, .pinned] true (true, "ffc965ebab3b4f46face1f8cfe82471ad686a5b506f194f3dcdf81a67ea81070") true over (fun _ h => by cases h) (by kernel_rfl) (fun _ h => by cases h) fnExactRunSession_row_tie rfl ⟨rfl, rfl⟩ (by kernel_rfl) rfl
    (fun f fn hf hfn => by
      obtain rfl : f = 9 := Option.some.inj (named_.symm.trans hf) |>.symm
      obtain rfl : fn = Tryz.f9 := (Option.some.inj (Tryz.func9.symm.trans hfn)).symm
      exact ⟨by kernel_rfl, fun j t ht => by
        rw [Tryz.params9] at ht
        have hm : t ∈ [47] := by simpa using Array.mem_of_getElem? ht
        have hall : ([47].all fun u => !Tryz.prog.wantsStandIn u) = true := by kernel_rfl
        exact (show Tryz.prog.wantsStandIn t = false by simpa using List.all_eq_true.1 hall t hm)⟩)
    (by kernel_rfl)
end Go.Proofs.YtemejgglbhjodaaGreatDoor.fnExactRunSession
