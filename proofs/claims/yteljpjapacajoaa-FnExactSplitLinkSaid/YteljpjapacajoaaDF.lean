/- Own layer: part of this seat (DF). Plain theorems; no conditions. -/
import Derived.Test.YteljpjapacajoaaDE
set_option linter.unusedVariables false
set_option linter.unusedSimpArgs false
namespace Go.Proofs.Yteljpjapacajoaa
open Go.Px
set_option maxHeartbeats 2000000 in
theorem SplitLink_fn (A : Option Addr) (c : Nat) (l : List LnkL) (at0 : Int) (w : World) (hA : Rd w A ((l).flatMap encL)) (hNA : Nst w l) (hl : l.length ≤ 1048576) (hcp : ∀ x ∈ l, x.t.keys.length ≤ x.cp) :
    Does Try.prog 32 [.slice (A) ((l).length) (c), I (at0)] w (fun v w1 => ∃ (L1 : List LnkL) (A1 : Option Addr) (c1 : Nat), v = .tuple #[.slice (A1) ((L1).length) (c1), .bool ((splitF (tsL l) at0).isSome)] ∧ (tsL L1 = (splitF (tsL l) at0).getD []) ∧ Mem w w1 [] [[⟨.slice (A1) ((L1).length) (c1), 28, 3, ((L1).length), (L1).flatMap encL⟩], (L1).map (keyF 3)]) := by
  have hM : Mem w w [] [] := Mem.refl
  refine Does.enter2 Try.func32 rfl Try.results32 Try.ntmps32 rfl ?_
  refine C.seq ?_
  refine C.region ?_
  refine O.val (v := .slice (none) (0) (0)) rfl (Ru.assign rfl) rfl ?_
  refine O.val (v := .bool (false)) rfl (Ru.assign rfl) rfl ?_
  refine O.nil ?_
  refine C.seq ?_
  refine C.seq ?_
  refine C.region ?_
  refine O.val (v := .slice (A) ((l).length) (c)) rfl (Ru.move rfl) rfl ?_
  refine O.callg [.slice (A) ((l).length) (c)] rfl en18 rfl rfl (ValidChain_fn A c l w (hA.at hM) (hNA.at hM) (by first | omega | assumption | (simp; omega) | simp | (intros; omega))) ?_
  rintro _ w1_1 ⟨rfl, hR1_1⟩
  have hM1_1 : Mem w w1_1 [] [] := Mem.call (Ma := []) hM hR1_1 rfl
  refine O.val (v := .bool (!(validC (tsL l)))) rfl (Ru.not rfl) rfl ?_
  refine O.val (v := .bool (!(validC (tsL l)))) rfl (Ru.move rfl) rfl ?_
  refine O.part 12 (!(validC (tsL l))) rfl (fun g12 => ?_) (fun g12 => ?_)
  · refine O.pass rfl rfl rfl rfl rfl ?_
    refine O.pass rfl rfl rfl rfl rfl ?_
    refine O.val (v := .bool (true)) rfl (Ru.pickT rfl rfl) rfl ?_
    refine O.val (v := .bool (true)) rfl (Ru.move rfl) rfl ?_
    refine O.pass rfl rfl rfl rfl rfl ?_
    refine O.pass rfl rfl rfl rfl rfl ?_
    refine O.pass rfl rfl rfl rfl rfl ?_
    refine O.pass rfl rfl rfl rfl rfl ?_
    refine O.val (v := .bool (true)) rfl (Ru.pickT rfl rfl) rfl ?_
    refine O.val (v := .bool (true)) rfl (Ru.move rfl) rfl ?_
    refine O.pass rfl rfl rfl rfl rfl ?_
    refine O.pass rfl rfl rfl rfl rfl ?_
    refine O.pass rfl rfl rfl rfl rfl ?_
    refine O.pass rfl rfl rfl rfl rfl ?_
    refine O.pass rfl rfl rfl rfl rfl ?_
    refine O.pass rfl rfl rfl rfl rfl ?_
    refine O.pass rfl rfl rfl rfl rfl ?_
    refine O.val (v := .bool (true)) rfl (Ru.pickT rfl rfl) rfl ?_
    refine O.val (v := .bool (true)) rfl (Ru.move rfl) rfl ?_
    refine O.pass rfl rfl rfl rfl rfl ?_
    refine O.pass rfl rfl rfl rfl rfl ?_
    refine O.pass rfl rfl rfl rfl rfl ?_
    refine O.val (v := .bool (true)) rfl (Ru.pickT rfl rfl) rfl ?_
    refine O.nil ?_
    refine C.condT rfl ?_
    refine C.seq ?_
    refine C.region ?_
    refine O.val (v := .slice (none) (0) (0)) rfl (Ru.assign rfl) rfl ?_
    refine O.val (v := .bool (false)) rfl (Ru.assign rfl) rfl ?_
    refine O.nil ?_
    refine C.ret ?_
    refine P2 (v := .slice (none) (0) (0)) (v' := .bool (false)) rfl rfl ?_
    have hno : splOk (tsL l) at0 = false := by cases hh : splOk (tsL l) at0 with | false => rfl | true => (exfalso; obtain ⟨a1, ⟨a2, a3⟩, a4, a5⟩ := splOk_iff.1 hh; simp at a3 a5; have a6 : at0.toNat < l.length := (by omega); rw [gL_ts a6] at a4; first | omega | (simp [a1] at g12; done) | (simp at g19; omega))
    have hs := split_no hno
    have hMn1 : Mem w w1_1 [] [[⟨.slice (none) (0) (0), 28, 3, 0, ([]).flatMap encL⟩]] := Mem.addNil hM1_1
    have hq2 : ([] : List LnkL) = ([] : List LnkL) := (by first | rfl | simp | (simp; omega))
    have hMn2 : Mem w w1_1 [] [[⟨.slice (none) ((([] : List LnkL)).length) (0), 28, 3, ((([] : List LnkL)).length), (([] : List LnkL)).flatMap encL⟩]] := hMn1.relen 0 (n' := (([] : List LnkL)).length) (xs' := (([] : List LnkL)).flatMap encL) rfl (by first | rfl | exact congrArg List.length hq2 | (have hqq := congrArg List.length hq2; first | omega | (simp at hqq ⊢; omega)) | (simp; done) | (simp; omega)) (congrArg (fun z_ => (z_).flatMap encL) hq2) rfl
    have hMn3 : Mem w w1_1 [] [(([] : List LnkL)).map (keyF 3), [⟨.slice (none) ((([] : List LnkL)).length) (0), 28, 3, ((([] : List LnkL)).length), (([] : List LnkL)).flatMap encL⟩]] := Mem.knil hMn2
    exact ⟨([] : List LnkL), none, 0, (by rw [hs]; rfl), (by rw [hs]; rfl), (hMn3.pick [1, 0] (by decide) rfl)⟩
  · refine O.val (v := I (at0)) rfl (Ru.move rfl) rfl ?_
    refine O.val (v := .bool (decide (at0 < 0))) rfl (Ru.lss rfl rfl) rfl ?_
    refine O.val (v := .bool (decide (at0 < 0))) rfl (Ru.pickF rfl rfl) rfl ?_
    refine O.val (v := .bool (decide (at0 < 0))) rfl (Ru.move rfl) rfl ?_
    refine O.partp 16 (at0 < 0) rfl (fun g16 => ?_) (fun g16 => ?_)
    · refine O.pass rfl rfl rfl rfl rfl ?_
      refine O.pass rfl rfl rfl rfl rfl ?_
      refine O.pass rfl rfl rfl rfl rfl ?_
      refine O.pass rfl rfl rfl rfl rfl ?_
      refine O.val (v := .bool (true)) rfl (Ru.pickT rfl rfl) rfl ?_
      refine O.val (v := .bool (true)) rfl (Ru.move rfl) rfl ?_
      refine O.pass rfl rfl rfl rfl rfl ?_
      refine O.pass rfl rfl rfl rfl rfl ?_
      refine O.pass rfl rfl rfl rfl rfl ?_
      refine O.pass rfl rfl rfl rfl rfl ?_
      refine O.pass rfl rfl rfl rfl rfl ?_
      refine O.pass rfl rfl rfl rfl rfl ?_
      refine O.pass rfl rfl rfl rfl rfl ?_
      refine O.val (v := .bool (true)) rfl (Ru.pickT rfl rfl) rfl ?_
      refine O.val (v := .bool (true)) rfl (Ru.move rfl) rfl ?_
      refine O.pass rfl rfl rfl rfl rfl ?_
      refine O.pass rfl rfl rfl rfl rfl ?_
      refine O.pass rfl rfl rfl rfl rfl ?_
      refine O.val (v := .bool (true)) rfl (Ru.pickT rfl rfl) rfl ?_
      refine O.nil ?_
      refine C.condT rfl ?_
      refine C.seq ?_
      refine C.region ?_
      refine O.val (v := .slice (none) (0) (0)) rfl (Ru.assign rfl) rfl ?_
      refine O.val (v := .bool (false)) rfl (Ru.assign rfl) rfl ?_
      refine O.nil ?_
      refine C.ret ?_
      refine P2 (v := .slice (none) (0) (0)) (v' := .bool (false)) rfl rfl ?_
      have hno : splOk (tsL l) at0 = false := by cases hh : splOk (tsL l) at0 with | false => rfl | true => (exfalso; obtain ⟨a1, ⟨a2, a3⟩, a4, a5⟩ := splOk_iff.1 hh; simp at a3 a5; have a6 : at0.toNat < l.length := (by omega); rw [gL_ts a6] at a4; first | omega | (simp [a1] at g12; done) | (simp at g19; omega))
      have hs := split_no hno
      have hMn5 : Mem w w1_1 [] [[⟨.slice (none) (0) (0), 28, 3, 0, ([]).flatMap encL⟩]] := Mem.addNil hM1_1
      have hq6 : ([] : List LnkL) = ([] : List LnkL) := (by first | rfl | simp | (simp; omega))
      have hMn6 : Mem w w1_1 [] [[⟨.slice (none) ((([] : List LnkL)).length) (0), 28, 3, ((([] : List LnkL)).length), (([] : List LnkL)).flatMap encL⟩]] := hMn5.relen 0 (n' := (([] : List LnkL)).length) (xs' := (([] : List LnkL)).flatMap encL) rfl (by first | rfl | exact congrArg List.length hq6 | (have hqq := congrArg List.length hq6; first | omega | (simp at hqq ⊢; omega)) | (simp; done) | (simp; omega)) (congrArg (fun z_ => (z_).flatMap encL) hq6) rfl
      have hMn7 : Mem w w1_1 [] [(([] : List LnkL)).map (keyF 3), [⟨.slice (none) ((([] : List LnkL)).length) (0), 28, 3, ((([] : List LnkL)).length), (([] : List LnkL)).flatMap encL⟩]] := Mem.knil hMn6
      exact ⟨([] : List LnkL), none, 0, (by rw [hs]; rfl), (by rw [hs]; rfl), (hMn7.pick [1, 0] (by decide) rfl)⟩
    · refine O.val (v := I (at0)) rfl (Ru.move rfl) rfl ?_
      refine O.val (v := .slice (A) ((l).length) (c)) rfl (Ru.move rfl) rfl ?_
      refine O.val (v := I ((((l).length : Nat) : Int))) rfl (Ru.blenSlice Try.underlying23 rfl) rfl ?_
      refine O.val (v := .bool (decide (at0 ≥ (((l).length : Nat) : Int)))) rfl (Ru.geq rfl rfl) rfl ?_
      refine O.val (v := .bool (decide (at0 ≥ (((l).length : Nat) : Int)))) rfl (Ru.pickF rfl rfl) rfl ?_
      refine O.val (v := .bool (decide (at0 ≥ (((l).length : Nat) : Int)))) rfl (Ru.move rfl) rfl ?_
      refine O.partp 22 (at0 ≥ (((l).length : Nat) : Int)) rfl (fun g22 => ?_) (fun g22 => ?_)
      · refine O.pass rfl rfl rfl rfl rfl ?_
        refine O.pass rfl rfl rfl rfl rfl ?_
        refine O.pass rfl rfl rfl rfl rfl ?_
        refine O.pass rfl rfl rfl rfl rfl ?_
        refine O.pass rfl rfl rfl rfl rfl ?_
        refine O.pass rfl rfl rfl rfl rfl ?_
        refine O.pass rfl rfl rfl rfl rfl ?_
        refine O.val (v := .bool (true)) rfl (Ru.pickT rfl rfl) rfl ?_
        refine O.val (v := .bool (true)) rfl (Ru.move rfl) rfl ?_
        refine O.pass rfl rfl rfl rfl rfl ?_
        refine O.pass rfl rfl rfl rfl rfl ?_
        refine O.pass rfl rfl rfl rfl rfl ?_
        refine O.val (v := .bool (true)) rfl (Ru.pickT rfl rfl) rfl ?_
        refine O.nil ?_
        refine C.condT rfl ?_
        refine C.seq ?_
        refine C.region ?_
        refine O.val (v := .slice (none) (0) (0)) rfl (Ru.assign rfl) rfl ?_
        refine O.val (v := .bool (false)) rfl (Ru.assign rfl) rfl ?_
        refine O.nil ?_
        refine C.ret ?_
        refine P2 (v := .slice (none) (0) (0)) (v' := .bool (false)) rfl rfl ?_
        have hno : splOk (tsL l) at0 = false := by cases hh : splOk (tsL l) at0 with | false => rfl | true => (exfalso; obtain ⟨a1, ⟨a2, a3⟩, a4, a5⟩ := splOk_iff.1 hh; simp at a3 a5; have a6 : at0.toNat < l.length := (by omega); rw [gL_ts a6] at a4; first | omega | (simp [a1] at g12; done) | (simp at g19; omega))
        have hs := split_no hno
        have hMn9 : Mem w w1_1 [] [[⟨.slice (none) (0) (0), 28, 3, 0, ([]).flatMap encL⟩]] := Mem.addNil hM1_1
        have hq10 : ([] : List LnkL) = ([] : List LnkL) := (by first | rfl | simp | (simp; omega))
        have hMn10 : Mem w w1_1 [] [[⟨.slice (none) ((([] : List LnkL)).length) (0), 28, 3, ((([] : List LnkL)).length), (([] : List LnkL)).flatMap encL⟩]] := hMn9.relen 0 (n' := (([] : List LnkL)).length) (xs' := (([] : List LnkL)).flatMap encL) rfl (by first | rfl | exact congrArg List.length hq10 | (have hqq := congrArg List.length hq10; first | omega | (simp at hqq ⊢; omega)) | (simp; done) | (simp; omega)) (congrArg (fun z_ => (z_).flatMap encL) hq10) rfl
        have hMn11 : Mem w w1_1 [] [(([] : List LnkL)).map (keyF 3), [⟨.slice (none) ((([] : List LnkL)).length) (0), 28, 3, ((([] : List LnkL)).length), (([] : List LnkL)).flatMap encL⟩]] := Mem.knil hMn10
        exact ⟨([] : List LnkL), none, 0, (by rw [hs]; rfl), (by rw [hs]; rfl), (hMn11.pick [1, 0] (by decide) rfl)⟩
      · refine O.val (v := .slice (A) ((l).length) (c)) rfl (Ru.move rfl) rfl ?_
        refine O.val (v := I (at0)) rfl (Ru.move rfl) rfl ?_
        have hx1_16 : (at0).toNat < (l).length := (by first | omega | (simp; omega))
        refine O.val (v := .pointer (ofs (A) (((at0).toNat) * 3))) rfl (Ru.indexA (j := (at0).toNat) Try.underlying23 el28 rfl rfl (smf encL_len (hA.at hM1_1) hx1_16 rfl) (by omega) (by first | omega | (simp; omega))) rfl ?_
        refine O.val (v := .pointer (ofs (A) (((at0).toNat) * 3 + 0))) rfl (Ru.fieldA fl28_0 rfl (smf encL_len (hA.at hM1_1) hx1_16 rfl)) rfl ?_
        refine O.val rfl (Ru.load1 el26 rfl (ldf encL_len (hA.at hM1_1) hx1_16 rfl)) rfl ?_
        refine O.val (v := I (((((l)[(at0).toNat]'hx1_16).t.keys.length : Nat) : Int))) rfl (Ru.blenSlice Try.underlying26 rfl) rfl ?_
        refine O.val (v := .bool (decide (((((l)[(at0).toNat]'hx1_16).t.keys.length : Nat) : Int) < 2))) rfl (Ru.lss rfl rfl) rfl ?_
        refine O.val (v := .bool (decide (((((l)[(at0).toNat]'hx1_16).t.keys.length : Nat) : Int) < 2))) rfl (Ru.pickF rfl rfl) rfl ?_
        refine O.val (v := .bool (decide (((((l)[(at0).toNat]'hx1_16).t.keys.length : Nat) : Int) < 2))) rfl (Ru.move rfl) rfl ?_
        refine O.partp 31 (((((l)[(at0).toNat]'hx1_16).t.keys.length : Nat) : Int) < 2) rfl (fun g31 => ?_) (fun g31 => ?_)
        · refine O.pass rfl rfl rfl rfl rfl ?_
          refine O.pass rfl rfl rfl rfl rfl ?_
          refine O.pass rfl rfl rfl rfl rfl ?_
          refine O.val (v := .bool (true)) rfl (Ru.pickT rfl rfl) rfl ?_
          refine O.nil ?_
          refine C.condT rfl ?_
          refine C.seq ?_
          refine C.region ?_
          refine O.val (v := .slice (none) (0) (0)) rfl (Ru.assign rfl) rfl ?_
          refine O.val (v := .bool (false)) rfl (Ru.assign rfl) rfl ?_
          refine O.nil ?_
          refine C.ret ?_
          refine P2 (v := .slice (none) (0) (0)) (v' := .bool (false)) rfl rfl ?_
          have hno : splOk (tsL l) at0 = false := by cases hh : splOk (tsL l) at0 with | false => rfl | true => (exfalso; obtain ⟨a1, ⟨a2, a3⟩, a4, a5⟩ := splOk_iff.1 hh; simp at a3 a5; have a6 : at0.toNat < l.length := (by omega); rw [gL_ts a6] at a4; first | omega | (simp [a1] at g12; done) | (simp at g19; omega))
          have hs := split_no hno
          have hMn13 : Mem w w1_1 [] [[⟨.slice (none) (0) (0), 28, 3, 0, ([]).flatMap encL⟩]] := Mem.addNil hM1_1
          have hq14 : ([] : List LnkL) = ([] : List LnkL) := (by first | rfl | simp | (simp; omega))
          have hMn14 : Mem w w1_1 [] [[⟨.slice (none) ((([] : List LnkL)).length) (0), 28, 3, ((([] : List LnkL)).length), (([] : List LnkL)).flatMap encL⟩]] := hMn13.relen 0 (n' := (([] : List LnkL)).length) (xs' := (([] : List LnkL)).flatMap encL) rfl (by first | rfl | exact congrArg List.length hq14 | (have hqq := congrArg List.length hq14; first | omega | (simp at hqq ⊢; omega)) | (simp; done) | (simp; omega)) (congrArg (fun z_ => (z_).flatMap encL) hq14) rfl
          have hMn15 : Mem w w1_1 [] [(([] : List LnkL)).map (keyF 3), [⟨.slice (none) ((([] : List LnkL)).length) (0), 28, 3, ((([] : List LnkL)).length), (([] : List LnkL)).flatMap encL⟩]] := Mem.knil hMn14
          exact ⟨([] : List LnkL), none, 0, (by rw [hs]; rfl), (by rw [hs]; rfl), (hMn15.pick [1, 0] (by decide) rfl)⟩
        · refine O.val (v := .slice (A) ((l).length) (c)) rfl (Ru.move rfl) rfl ?_
          refine O.val (v := I ((((l).length : Nat) : Int))) rfl (Ru.blenSlice Try.underlying23 rfl) rfl ?_
          refine O.val (v := .bool (decide ((((l).length : Nat) : Int) = 16))) rfl (Ru.eql rfl rfl) rfl ?_
          refine O.val (v := .bool (decide ((((l).length : Nat) : Int) = 16))) rfl (Ru.pickF rfl rfl) rfl ?_
          refine O.nil ?_
          refine C.cond (p := (((l).length : Nat) : Int) = 16) rfl (fun c35 => ?_) (fun c35 => ?_)
          · refine C.seq ?_
            refine C.region ?_
            refine O.val (v := .slice (none) (0) (0)) rfl (Ru.assign rfl) rfl ?_
            refine O.val (v := .bool (false)) rfl (Ru.assign rfl) rfl ?_
            refine O.nil ?_
            refine C.ret ?_
            refine P2 (v := .slice (none) (0) (0)) (v' := .bool (false)) rfl rfl ?_
            have hno : splOk (tsL l) at0 = false := by cases hh : splOk (tsL l) at0 with | false => rfl | true => (exfalso; obtain ⟨a1, ⟨a2, a3⟩, a4, a5⟩ := splOk_iff.1 hh; simp at a3 a5; have a6 : at0.toNat < l.length := (by omega); rw [gL_ts a6] at a4; first | omega | (simp [a1] at g12; done) | (simp at g19; omega))
            have hs := split_no hno
            have hMn17 : Mem w w1_1 [] [[⟨.slice (none) (0) (0), 28, 3, 0, ([]).flatMap encL⟩]] := Mem.addNil hM1_1
            have hq18 : ([] : List LnkL) = ([] : List LnkL) := (by first | rfl | simp | (simp; omega))
            have hMn18 : Mem w w1_1 [] [[⟨.slice (none) ((([] : List LnkL)).length) (0), 28, 3, ((([] : List LnkL)).length), (([] : List LnkL)).flatMap encL⟩]] := hMn17.relen 0 (n' := (([] : List LnkL)).length) (xs' := (([] : List LnkL)).flatMap encL) rfl (by first | rfl | exact congrArg List.length hq18 | (have hqq := congrArg List.length hq18; first | omega | (simp at hqq ⊢; omega)) | (simp; done) | (simp; omega)) (congrArg (fun z_ => (z_).flatMap encL) hq18) rfl
            have hMn19 : Mem w w1_1 [] [(([] : List LnkL)).map (keyF 3), [⟨.slice (none) ((([] : List LnkL)).length) (0), 28, 3, ((([] : List LnkL)).length), (([] : List LnkL)).flatMap encL⟩]] := Mem.knil hMn18
            exact ⟨([] : List LnkL), none, 0, (by rw [hs]; rfl), (by rw [hs]; rfl), (hMn19.pick [1, 0] (by decide) rfl)⟩
          · have hv : validC (tsL l) = true := by simp_all
            have hat : at0.toNat < l.length := by omega
            have hok : splOk (tsL l) at0 = true := splOk_iff.2 ⟨hv, ⟨by omega, by simp; omega⟩, by rw [gL_ts hat]; omega, by simp; omega⟩
            have hs := split_yes hok
            have hk4 := (valid_all hv _ (List.getElem_mem hat)).1
            have hcp1 := hcp _ (List.getElem_mem hat)
            refine C.skip ?_
            refine C.seq ?_
            refine C.region ?_
            refine O.val (v := .slice (A) ((l).length) (c)) rfl (Ru.move rfl) rfl ?_
            refine O.callg [.slice (A) ((l).length) (c)] rfl en54 rfl rfl (copyChain_fn A c l w1_1 (hA.at hM1_1) (hNA.at hM1_1) (by first | omega | assumption | (simp; omega) | simp | (intros; omega)) (by exact valid_1m hv)) ?_
            rintro _ w3_1 ⟨L13_1, A13_1, c13_1, rfl, hts3_1, hR3_1⟩
            have hM3_1 : Mem w w3_1 [] [[⟨.slice (A13_1) ((L13_1).length) (c13_1), 28, 3, ((L13_1).length), (L13_1).flatMap encL⟩], (L13_1).map (keyF 3)] := Mem.call (Ma := []) hM1_1 hR3_1 rfl
            have hcr3_1_0 := (hM3_1.cap 0 rfl).1
            have hLl := ts_eq_len hts3_1
            refine O.val (v := .slice (A13_1) ((L13_1).length) (c13_1)) rfl (Ru.assign rfl) rfl ?_
            refine O.nil ?_
            refine C.seq ?_
            refine C.region ?_
            refine O.val (v := .slice (A) ((l).length) (c)) rfl (Ru.move rfl) rfl ?_
            refine O.val (v := I (at0)) rfl (Ru.move rfl) rfl ?_
            have hx4_2 : (at0).toNat < (l).length := (by first | omega | (simp; omega))
            refine O.val (v := .pointer (ofs (A) (((at0).toNat) * 3))) rfl (Ru.indexA (j := (at0).toNat) Try.underlying23 el28 rfl rfl (smf encL_len (hA.at hM3_1) hx4_2 rfl) (by omega) (by first | omega | (simp; omega))) rfl ?_
            refine O.val rfl (Ru.loadN (vs := [.slice (((l)[(at0).toNat]'hx4_2).A) (((l)[(at0).toNat]'hx4_2).t.keys.length) (((l)[(at0).toNat]'hx4_2).cp), I (((l)[(at0).toNat]'hx4_2).t.high), I (((l)[(at0).toNat]'hx4_2).t.right)]) el28 rfl rfl (smf encL_len (hA.at hM3_1) hx4_2 rfl) (ldn encL_len (hA.at hM3_1) hx4_2)) rfl ?_
            refine O.malloc (k := 3) hM3_1 rfl rfl el28 rfl (fun w4_4 b4_4 hb4_4 (hM4_4 : Mem w w4_4 [] [[⟨.slice (bl b4_4) 1 1, 28, 3, 1, [.slice (none) (0) (0), I (0), I (0)]⟩], [⟨.slice (A13_1) ((L13_1).length) (c13_1), 28, 3, ((L13_1).length), (L13_1).flatMap encL⟩], (L13_1).map (keyF 3)]) => ?_)
            refine O.mstore (vs := [.slice (((l)[(at0).toNat]'hx4_2).A) (((l)[(at0).toNat]'hx4_2).t.keys.length) (((l)[(at0).toNat]'hx4_2).cp), I (((l)[(at0).toNat]'hx4_2).t.high), I (((l)[(at0).toNat]'hx4_2).t.right)]) (xs' := [.slice (((l)[(at0).toNat]'hx4_2).A) (((l)[(at0).toNat]'hx4_2).t.keys.length) (((l)[(at0).toNat]'hx4_2).cp), I (((l)[(at0).toNat]'hx4_2).t.high), I (((l)[(at0).toNat]'hx4_2).t.right)]) 0 0 hM4_4 rfl rfl rfl el28 rfl rfl rfl rfl rfl (by simp) (by simp) rfl rfl (fun w4_5 (hM4_5 : Mem w w4_5 [] [[⟨.slice (bl b4_4) 1 1, 28, 3, 1, [.slice (((l)[(at0).toNat]'hx4_2).A) (((l)[(at0).toNat]'hx4_2).t.keys.length) (((l)[(at0).toNat]'hx4_2).cp), I (((l)[(at0).toNat]'hx4_2).t.high), I (((l)[(at0).toNat]'hx4_2).t.right)]⟩], [⟨.slice (A13_1) ((L13_1).length) (c13_1), 28, 3, ((L13_1).length), (L13_1).flatMap encL⟩], (L13_1).map (keyF 3)]) => ?_)
            refine O.nil ?_
            refine C.seq ?_
            refine C.region ?_
            refine O.val (v := .pointer (ofs (bl b4_4) (0))) rfl (Ru.fieldA fl28_0 rfl rfl) rfl ?_
            refine O.val rfl (Ru.load1 el26 rfl ((hM4_5.rd 0 rfl).ld rfl)) rfl ?_
            refine O.val (v := I (((((l)[(at0).toNat]'hx4_2).t.keys.length : Nat) : Int))) rfl (Ru.blenSlice Try.underlying26 rfl) rfl ?_
            refine O.val (v := I ((((((l)[(at0).toNat]'hx4_2).t.keys.length + 1) : Nat) : Int))) rfl (Ru.congr (v := I ((((((l)[(at0).toNat]'hx4_2).t.keys.length : Nat) : Int) + 1))) (v' := I ((((((l)[(at0).toNat]'hx4_2).t.keys.length + 1) : Nat) : Int))) (Ru.add rfl rfl (by omega)) (I_congr (by first | omega | simp))) rfl ?_
            refine O.val (v := I (((((((l)[(at0).toNat]'hx4_2).t.keys.length + 1) / 2) : Nat) : Int))) rfl (Ru.congr (v := I (((((((l)[(at0).toNat]'hx4_2).t.keys.length + 1) : Nat) : Int) / 2))) (v' := I (((((((l)[(at0).toNat]'hx4_2).t.keys.length + 1) / 2) : Nat) : Int))) (Ru.quo rfl rfl (by omega)) (I_congr (by first | omega | simp))) rfl ?_
            refine O.val (v := I (((((((l)[(at0).toNat]'hx4_2).t.keys.length + 1) / 2) : Nat) : Int))) rfl (Ru.assign rfl) rfl ?_
            refine O.nil ?_
            refine C.seq ?_
            refine C.any (f := 14) (ls := [false, false, false, false, false, false, false, false, false, false, false, false, false, false]) (fun w2 => Mem w w2 [] [[⟨.slice (bl b4_4) 1 1, 28, 3, 1, [.slice (((l)[(at0).toNat]'hx4_2).A) (((l)[(at0).toNat]'hx4_2).t.keys.length) (((l)[(at0).toNat]'hx4_2).cp), I (((l)[(at0).toNat]'hx4_2).t.high), I (((l)[(at0).toNat]'hx4_2).t.right)]⟩], (L13_1).map (keyF 3)]) mixed rfl rfl (fun w2 hw2 => Mem0.ext (hM4_5.pick [0, 2] (by decide) rfl) hw2) (fun w6a hE6a => ?_)
            have hM6a : Mem w w6a [] [[⟨.slice (bl b4_4) 1 1, 28, 3, 1, [.slice (((l)[(at0).toNat]'hx4_2).A) (((l)[(at0).toNat]'hx4_2).t.keys.length) (((l)[(at0).toNat]'hx4_2).cp), I (((l)[(at0).toNat]'hx4_2).t.high), I (((l)[(at0).toNat]'hx4_2).t.right)]⟩], [⟨.slice (A13_1) ((L13_1).length) (c13_1), 28, 3, ((L13_1).length), (L13_1).flatMap encL⟩], (L13_1).map (keyF 3)] := Mem0.ext hM4_5 hE6a
            refine AO.val (v := .slice (A13_1) ((L13_1).length) (c13_1)) 0 (ls' := [true, false, false, false, false, false, false, false, false, false, false, false, false, false]) rfl (by kernel_rfl) rfl rfl (fun w2 hw2 => Ru.move rfl) rfl ?_
            refine AO.val (v := .pointer (ofs (bl b4_4) (0))) 1 (ls' := [true, true, false, false, false, false, false, false, false, false, false, false, false, false]) rfl (by kernel_rfl) rfl rfl (fun w2 hw2 => Ru.fieldA fl28_0 rfl rfl) rfl ?_
            refine AO.val (v := .slice (((l)[(at0).toNat]'hx4_2).A) (((l)[(at0).toNat]'hx4_2).t.keys.length) (((l)[(at0).toNat]'hx4_2).cp)) 2 (ls' := [true, true, true, false, false, false, false, false, false, false, false, false, false, false]) rfl (by kernel_rfl) rfl rfl (fun w2 hw2 => Ru.load1 el26 rfl ((hw2.rd 0 rfl).ld rfl)) rfl ?_
            refine AO.val (v := I (((((((l)[(at0).toNat]'hx4_2).t.keys.length + 1) / 2) : Nat) : Int))) 3 (ls' := [true, true, true, true, false, false, false, false, false, false, false, false, false, false]) rfl (by kernel_rfl) rfl rfl (fun w2 hw2 => Ru.move rfl) rfl ?_
            refine AO.val (v := .slice (if ((l)[(at0).toNat]'hx4_2).cp = ((((l)[(at0).toNat]'hx4_2).t.keys.length + 1) / 2) then ((l)[(at0).toNat]'hx4_2).A else ofs (((l)[(at0).toNat]'hx4_2).A) (((((l)[(at0).toNat]'hx4_2).t.keys.length + 1) / 2) * 1)) (((((l)[(at0).toNat]'hx4_2).t.keys).drop (((((l)[(at0).toNat]'hx4_2).t.keys.length + 1) / 2))).length) ((((l)[(at0).toNat]'hx4_2).cp) - ((((l)[(at0).toNat]'hx4_2).t.keys.length + 1) / 2))) 4 (ls' := [true, true, true, true, true, false, false, false, false, false, false, false, false, false]) rfl (by kernel_rfl) rfl rfl (fun w2 hw2 => Ru.congr (v := .slice (if ((l)[(at0).toNat]'hx4_2).cp = ((((l)[(at0).toNat]'hx4_2).t.keys.length + 1) / 2) then ((l)[(at0).toNat]'hx4_2).A else ofs (((l)[(at0).toNat]'hx4_2).A) (((((l)[(at0).toNat]'hx4_2).t.keys.length + 1) / 2) * 1)) ((((l)[(at0).toNat]'hx4_2).t.keys.length) - ((((l)[(at0).toNat]'hx4_2).t.keys.length + 1) / 2)) ((((l)[(at0).toNat]'hx4_2).cp) - ((((l)[(at0).toNat]'hx4_2).t.keys.length + 1) / 2))) (v' := .slice (if ((l)[(at0).toNat]'hx4_2).cp = ((((l)[(at0).toNat]'hx4_2).t.keys.length + 1) / 2) then ((l)[(at0).toNat]'hx4_2).A else ofs (((l)[(at0).toNat]'hx4_2).A) (((((l)[(at0).toNat]'hx4_2).t.keys.length + 1) / 2) * 1)) (((((l)[(at0).toNat]'hx4_2).t.keys).drop (((((l)[(at0).toNat]'hx4_2).t.keys.length + 1) / 2))).length) ((((l)[(at0).toNat]'hx4_2).cp) - ((((l)[(at0).toNat]'hx4_2).t.keys.length + 1) / 2))) (Ru.lsliceFrom (l := ((((l)[(at0).toNat]'hx4_2).t.keys.length + 1) / 2)) Try.underlying26 el3 rfl rfl (by omega) (by omega)) (sl_congr (by first | rfl | (simp; done) | omega | (simp; omega)))) rfl ?_
            refine AO.val (v := .pointer (ofs (bl b4_4) (1))) 6 (ls' := [true, true, true, true, true, false, true, false, false, false, false, false, false, false]) rfl (by kernel_rfl) rfl rfl (fun w2 hw2 => Ru.fieldA fl28_1 rfl rfl) rfl ?_
            refine AO.val (v := I (((l)[(at0).toNat]'hx4_2).t.high)) 7 (ls' := [true, true, true, true, true, false, true, true, false, false, false, false, false, false]) rfl (by kernel_rfl) rfl rfl (fun w2 hw2 => Ru.load1 el3 rfl ((hw2.rd 0 rfl).ld rfl)) rfl ?_
            refine AO.val (v := .pointer (ofs (bl b4_4) (2))) 8 (ls' := [true, true, true, true, true, false, true, true, true, false, false, false, false, false]) rfl (by kernel_rfl) rfl rfl (fun w2 hw2 => Ru.fieldA fl28_2 rfl rfl) rfl ?_
            refine AO.val (v := I (((l)[(at0).toNat]'hx4_2).t.right)) 9 (ls' := [true, true, true, true, true, false, true, true, true, true, false, false, false, false]) rfl (by kernel_rfl) rfl rfl (fun w2 hw2 => Ru.load1 el3 rfl ((hw2.rd 0 rfl).ld rfl)) rfl ?_
            refine AO.one 5 (by kernel_rfl) ?_
            refine step1 (ls' := [true, true, true, true, true, true, true, true, true, true, false, false, false, false]) rfl rfl ?_
            refine O.callg [.slice (if ((l)[(at0).toNat]'hx4_2).cp = ((((l)[(at0).toNat]'hx4_2).t.keys.length + 1) / 2) then ((l)[(at0).toNat]'hx4_2).A else ofs (((l)[(at0).toNat]'hx4_2).A) (((((l)[(at0).toNat]'hx4_2).t.keys.length + 1) / 2) * 1)) (((((l)[(at0).toNat]'hx4_2).t.keys).drop (((((l)[(at0).toNat]'hx4_2).t.keys.length + 1) / 2))).length) ((((l)[(at0).toNat]'hx4_2).cp) - ((((l)[(at0).toNat]'hx4_2).t.keys.length + 1) / 2))] rfl en55 rfl rfl (CloneInt_fn (if ((l)[(at0).toNat]'hx4_2).cp = ((((l)[(at0).toNat]'hx4_2).t.keys.length + 1) / 2) then ((l)[(at0).toNat]'hx4_2).A else ofs (((l)[(at0).toNat]'hx4_2).A) (((((l)[(at0).toNat]'hx4_2).t.keys.length + 1) / 2) * 1)) ((((l)[(at0).toNat]'hx4_2).cp) - ((((l)[(at0).toNat]'hx4_2).t.keys.length + 1) / 2)) ((((l)[(at0).toNat]'hx4_2).t.keys).drop (((((l)[(at0).toNat]'hx4_2).t.keys.length + 1) / 2))) w6a (rd_drop1 ((hNA.at hM6a).get hx4_2) (by first | omega | (simp; omega)) (by first | omega | (simp; omega))) (by simp; omega)) ?_
            rintro _ w6_5 ⟨A16_5, c16_5, rfl, hR6_5⟩
            have hM6_5 : Mem w w6_5 [] [[⟨.slice (A16_5) ((((((l)[(at0).toNat]'hx4_2).t.keys).drop (((((l)[(at0).toNat]'hx4_2).t.keys.length + 1) / 2)))).length) (c16_5), 3, 1, ((((((l)[(at0).toNat]'hx4_2).t.keys).drop (((((l)[(at0).toNat]'hx4_2).t.keys.length + 1) / 2)))).length), (((((l)[(at0).toNat]'hx4_2).t.keys).drop (((((l)[(at0).toNat]'hx4_2).t.keys.length + 1) / 2)))).map I⟩], [⟨.slice (bl b4_4) 1 1, 28, 3, 1, [.slice (((l)[(at0).toNat]'hx4_2).A) (((l)[(at0).toNat]'hx4_2).t.keys.length) (((l)[(at0).toNat]'hx4_2).cp), I (((l)[(at0).toNat]'hx4_2).t.high), I (((l)[(at0).toNat]'hx4_2).t.right)]⟩], [⟨.slice (A13_1) ((L13_1).length) (c13_1), 28, 3, ((L13_1).length), (L13_1).flatMap encL⟩], (L13_1).map (keyF 3)] := Mem.call (Ma := []) hM6a hR6_5 rfl
            have hcr6_5_0 := (hM6_5.cap 0 rfl).1
            refine O.stop (hM6_5.pick [1, 3] (by decide) rfl) ?_
            refine AO.val (v := .agg #[.slice (A16_5) ((((((l)[(at0).toNat]'hx4_2).t.keys).drop (((((l)[(at0).toNat]'hx4_2).t.keys.length + 1) / 2)))).length) (c16_5), I (((l)[(at0).toNat]'hx4_2).t.high), I (((l)[(at0).toNat]'hx4_2).t.right)]) 10 (ls' := [true, true, true, true, true, true, true, true, true, true, true, false, false, false]) rfl (by kernel_rfl) rfl rfl (fun w2 hw2 => Ru.build of28 rfl rfl rfl) rfl ?_
            refine AO.one 11 (by kernel_rfl) ?_
            refine step1 (ls' := [true, true, true, true, true, true, true, true, true, true, true, true, false, false]) rfl rfl ?_
            refine O.mlit (sz := 3) (cs := [.slice (A16_5) ((((((l)[(at0).toNat]'hx4_2).t.keys).drop (((((l)[(at0).toNat]'hx4_2).t.keys.length + 1) / 2)))).length) (c16_5), I (((l)[(at0).toNat]'hx4_2).t.high), I (((l)[(at0).toNat]'hx4_2).t.right)]) hM6_5 rfl Try.underlying23 el28 rfl rfl rfl (by kernel_rfl) (by kernel_rfl) rfl rfl (fun w6_11 b6_11 hb6_11 (hM6_11 : Mem w w6_11 [] [[⟨.slice (bl b6_11) (1) (1), 28, 3, 1, ([(⟨A16_5, c16_5, ⟨((((l)[(at0).toNat]'hx4_2).t.keys).drop (((((l)[(at0).toNat]'hx4_2).t.keys.length + 1) / 2))), ((l)[(at0).toNat]'hx4_2).t.high, ((l)[(at0).toNat]'hx4_2).t.right⟩⟩ : LnkL)]).flatMap encL⟩], [⟨.slice (A16_5) ((((((l)[(at0).toNat]'hx4_2).t.keys).drop (((((l)[(at0).toNat]'hx4_2).t.keys.length + 1) / 2)))).length) (c16_5), 3, 1, ((((((l)[(at0).toNat]'hx4_2).t.keys).drop (((((l)[(at0).toNat]'hx4_2).t.keys.length + 1) / 2)))).length), (((((l)[(at0).toNat]'hx4_2).t.keys).drop (((((l)[(at0).toNat]'hx4_2).t.keys.length + 1) / 2)))).map I⟩], [⟨.slice (bl b4_4) 1 1, 28, 3, 1, [.slice (((l)[(at0).toNat]'hx4_2).A) (((l)[(at0).toNat]'hx4_2).t.keys.length) (((l)[(at0).toNat]'hx4_2).cp), I (((l)[(at0).toNat]'hx4_2).t.high), I (((l)[(at0).toNat]'hx4_2).t.right)]⟩], [⟨.slice (A13_1) ((L13_1).length) (c13_1), 28, 3, ((L13_1).length), (L13_1).flatMap encL⟩], (L13_1).map (keyF 3)]) => ?_)
            refine O.stop (hM6_11.pick [2, 4] (by decide) rfl) ?_
            refine AO.one 12 (by kernel_rfl) ?_
            refine step1 (ls' := [true, true, true, true, true, true, true, true, true, true, true, true, true, false]) rfl rfl ?_
            refine O.mappend (sz := 3) (news := ([(⟨A16_5, c16_5, ⟨((((l)[(at0).toNat]'hx4_2).t.keys).drop (((((l)[(at0).toNat]'hx4_2).t.keys.length + 1) / 2))), ((l)[(at0).toNat]'hx4_2).t.high, ((l)[(at0).toNat]'hx4_2).t.right⟩⟩ : LnkL)]).flatMap encL) (m1 := (L13_1 ++ [(⟨A16_5, c16_5, ⟨((((l)[(at0).toNat]'hx4_2).t.keys).drop (((((l)[(at0).toNat]'hx4_2).t.keys.length + 1) / 2))), ((l)[(at0).toNat]'hx4_2).t.high, ((l)[(at0).toNat]'hx4_2).t.right⟩⟩ : LnkL)]).length) (xs1 := (L13_1 ++ [(⟨A16_5, c16_5, ⟨((((l)[(at0).toNat]'hx4_2).t.keys).drop (((((l)[(at0).toNat]'hx4_2).t.keys.length + 1) / 2))), ((l)[(at0).toNat]'hx4_2).t.high, ((l)[(at0).toNat]'hx4_2).t.right⟩⟩ : LnkL)]).flatMap encL) (M' := fun A6_12 c6_12 => [[⟨.slice (bl b6_11) (1) (1), 28, 3, 1, ([(⟨A16_5, c16_5, ⟨((((l)[(at0).toNat]'hx4_2).t.keys).drop (((((l)[(at0).toNat]'hx4_2).t.keys.length + 1) / 2))), ((l)[(at0).toNat]'hx4_2).t.high, ((l)[(at0).toNat]'hx4_2).t.right⟩⟩ : LnkL)]).flatMap encL⟩], [⟨.slice (A16_5) ((((((l)[(at0).toNat]'hx4_2).t.keys).drop (((((l)[(at0).toNat]'hx4_2).t.keys.length + 1) / 2)))).length) (c16_5), 3, 1, ((((((l)[(at0).toNat]'hx4_2).t.keys).drop (((((l)[(at0).toNat]'hx4_2).t.keys.length + 1) / 2)))).length), (((((l)[(at0).toNat]'hx4_2).t.keys).drop (((((l)[(at0).toNat]'hx4_2).t.keys.length + 1) / 2)))).map I⟩], [⟨.slice (bl b4_4) 1 1, 28, 3, 1, [.slice (((l)[(at0).toNat]'hx4_2).A) (((l)[(at0).toNat]'hx4_2).t.keys.length) (((l)[(at0).toNat]'hx4_2).cp), I (((l)[(at0).toNat]'hx4_2).t.high), I (((l)[(at0).toNat]'hx4_2).t.right)]⟩], [⟨.slice (A6_12) ((L13_1 ++ [(⟨A16_5, c16_5, ⟨((((l)[(at0).toNat]'hx4_2).t.keys).drop (((((l)[(at0).toNat]'hx4_2).t.keys.length + 1) / 2))), ((l)[(at0).toNat]'hx4_2).t.high, ((l)[(at0).toNat]'hx4_2).t.right⟩⟩ : LnkL)]).length) (c6_12), 28, 3, ((L13_1 ++ [(⟨A16_5, c16_5, ⟨((((l)[(at0).toNat]'hx4_2).t.keys).drop (((((l)[(at0).toNat]'hx4_2).t.keys.length + 1) / 2))), ((l)[(at0).toNat]'hx4_2).t.high, ((l)[(at0).toNat]'hx4_2).t.right⟩⟩ : LnkL)]).length), (L13_1 ++ [(⟨A16_5, c16_5, ⟨((((l)[(at0).toNat]'hx4_2).t.keys).drop (((((l)[(at0).toNat]'hx4_2).t.keys.length + 1) / 2))), ((l)[(at0).toNat]'hx4_2).t.high, ((l)[(at0).toNat]'hx4_2).t.right⟩⟩ : LnkL)]).flatMap encL⟩], (L13_1).map (keyF 3)]) 3 0 hM6_11 rfl rfl rfl Try.underlying23 el28 ⟨rfl, by decide⟩ rfl rfl rfl (hM6_11.rd 0 rfl) (by rw [flat_len encL_len]; first | done | (simp; done) | (simp; omega)) (all_flat_one (fun _ => rfl) _) (by first | omega | (simp; omega)) (by first | omega | (simp; omega)) (by first | (simp; done) | (simp; omega)) (by simp) (fun _ _ => rfl) (fun w6_12 A6_12 c6_12 hc6_12 hM6_12 => ?_)
            try dsimp only at hM6_12
            refine O.stop (hM6_12.pick [2, 4] (by decide) rfl) ?_
            refine AO.val (v := .slice (A6_12) ((L13_1 ++ [(⟨A16_5, c16_5, ⟨((((l)[(at0).toNat]'hx4_2).t.keys).drop (((((l)[(at0).toNat]'hx4_2).t.keys.length + 1) / 2))), ((l)[(at0).toNat]'hx4_2).t.high, ((l)[(at0).toNat]'hx4_2).t.right⟩⟩ : LnkL)]).length) (c6_12)) 13 (ls' := [true, true, true, true, true, true, true, true, true, true, true, true, true, true]) rfl (by kernel_rfl) rfl rfl (fun w2 hw2 => Ru.assign rfl) rfl ?_
            refine AO.nil (by kernel_rfl) ?_
            have hMk21 : Mem w w6_12 [] [(L13_1 ++ [(⟨A16_5, c16_5, ⟨((((l)[(at0).toNat]'hx4_2).t.keys).drop (((((l)[(at0).toNat]'hx4_2).t.keys.length + 1) / 2))), ((l)[(at0).toNat]'hx4_2).t.high, ((l)[(at0).toNat]'hx4_2).t.right⟩⟩ : LnkL)]).map (keyF 3), [⟨.slice (bl b6_11) (1) (1), 28, 3, 1, ([(⟨A16_5, c16_5, ⟨((((l)[(at0).toNat]'hx4_2).t.keys).drop (((((l)[(at0).toNat]'hx4_2).t.keys.length + 1) / 2))), ((l)[(at0).toNat]'hx4_2).t.high, ((l)[(at0).toNat]'hx4_2).t.right⟩⟩ : LnkL)]).flatMap encL⟩], [⟨.slice (bl b4_4) 1 1, 28, 3, 1, [.slice (((l)[(at0).toNat]'hx4_2).A) (((l)[(at0).toNat]'hx4_2).t.keys.length) (((l)[(at0).toNat]'hx4_2).cp), I (((l)[(at0).toNat]'hx4_2).t.high), I (((l)[(at0).toNat]'hx4_2).t.right)]⟩], [⟨.slice (A6_12) ((L13_1 ++ [(⟨A16_5, c16_5, ⟨((((l)[(at0).toNat]'hx4_2).t.keys).drop (((((l)[(at0).toNat]'hx4_2).t.keys.length + 1) / 2))), ((l)[(at0).toNat]'hx4_2).t.high, ((l)[(at0).toNat]'hx4_2).t.right⟩⟩ : LnkL)]).length) (c6_12), 28, 3, ((L13_1 ++ [(⟨A16_5, c16_5, ⟨((((l)[(at0).toNat]'hx4_2).t.keys).drop (((((l)[(at0).toNat]'hx4_2).t.keys.length + 1) / 2))), ((l)[(at0).toNat]'hx4_2).t.high, ((l)[(at0).toNat]'hx4_2).t.right⟩⟩ : LnkL)]).length), (L13_1 ++ [(⟨A16_5, c16_5, ⟨((((l)[(at0).toNat]'hx4_2).t.keys).drop (((((l)[(at0).toNat]'hx4_2).t.keys.length + 1) / 2))), ((l)[(at0).toNat]'hx4_2).t.high, ((l)[(at0).toNat]'hx4_2).t.right⟩⟩ : LnkL)]).flatMap encL⟩]] := Mem.kapp (l := L13_1) (x := (⟨A16_5, c16_5, ⟨((((l)[(at0).toNat]'hx4_2).t.keys).drop (((((l)[(at0).toNat]'hx4_2).t.keys.length + 1) / 2))), ((l)[(at0).toNat]'hx4_2).t.high, ((l)[(at0).toNat]'hx4_2).t.right⟩⟩ : LnkL)) (M := [[⟨.slice (bl b6_11) (1) (1), 28, 3, 1, ([(⟨A16_5, c16_5, ⟨((((l)[(at0).toNat]'hx4_2).t.keys).drop (((((l)[(at0).toNat]'hx4_2).t.keys.length + 1) / 2))), ((l)[(at0).toNat]'hx4_2).t.high, ((l)[(at0).toNat]'hx4_2).t.right⟩⟩ : LnkL)]).flatMap encL⟩], [⟨.slice (bl b4_4) 1 1, 28, 3, 1, [.slice (((l)[(at0).toNat]'hx4_2).A) (((l)[(at0).toNat]'hx4_2).t.keys.length) (((l)[(at0).toNat]'hx4_2).cp), I (((l)[(at0).toNat]'hx4_2).t.high), I (((l)[(at0).toNat]'hx4_2).t.right)]⟩], [⟨.slice (A6_12) ((L13_1 ++ [(⟨A16_5, c16_5, ⟨((((l)[(at0).toNat]'hx4_2).t.keys).drop (((((l)[(at0).toNat]'hx4_2).t.keys.length + 1) / 2))), ((l)[(at0).toNat]'hx4_2).t.high, ((l)[(at0).toNat]'hx4_2).t.right⟩⟩ : LnkL)]).length) (c6_12), 28, 3, ((L13_1 ++ [(⟨A16_5, c16_5, ⟨((((l)[(at0).toNat]'hx4_2).t.keys).drop (((((l)[(at0).toNat]'hx4_2).t.keys.length + 1) / 2))), ((l)[(at0).toNat]'hx4_2).t.high, ((l)[(at0).toNat]'hx4_2).t.right⟩⟩ : LnkL)]).length), (L13_1 ++ [(⟨A16_5, c16_5, ⟨((((l)[(at0).toNat]'hx4_2).t.keys).drop (((((l)[(at0).toNat]'hx4_2).t.keys.length + 1) / 2))), ((l)[(at0).toNat]'hx4_2).t.high, ((l)[(at0).toNat]'hx4_2).t.right⟩⟩ : LnkL)]).flatMap encL⟩]]) (hM6_12.pick [4, 1, 0, 2, 3] (by decide) rfl)
            refine C.seq ?_
            refine C.any (f := 17) (ls := [false, false, false, false, false, false, false, false, false, false, false, false, false, false, false, false, false]) (fun w2 => Mem w w2 [] [(L13_1 ++ [(⟨A16_5, c16_5, ⟨((((l)[(at0).toNat]'hx4_2).t.keys).drop (((((l)[(at0).toNat]'hx4_2).t.keys.length + 1) / 2))), ((l)[(at0).toNat]'hx4_2).t.high, ((l)[(at0).toNat]'hx4_2).t.right⟩⟩ : LnkL)]).map (keyF 3), [⟨.slice (bl b6_11) (1) (1), 28, 3, 1, ([(⟨A16_5, c16_5, ⟨((((l)[(at0).toNat]'hx4_2).t.keys).drop (((((l)[(at0).toNat]'hx4_2).t.keys.length + 1) / 2))), ((l)[(at0).toNat]'hx4_2).t.high, ((l)[(at0).toNat]'hx4_2).t.right⟩⟩ : LnkL)]).flatMap encL⟩], [⟨.slice (bl b4_4) 1 1, 28, 3, 1, [.slice (((l)[(at0).toNat]'hx4_2).A) (((l)[(at0).toNat]'hx4_2).t.keys.length) (((l)[(at0).toNat]'hx4_2).cp), I (((l)[(at0).toNat]'hx4_2).t.high), I (((l)[(at0).toNat]'hx4_2).t.right)]⟩]]) mixed rfl rfl (fun w2 hw2 => Mem0.ext (hMk21.pick [0, 1, 2] (by decide) rfl) hw2) (fun w7a hE7a => ?_)
            have hM7a : Mem w w7a [] [(L13_1 ++ [(⟨A16_5, c16_5, ⟨((((l)[(at0).toNat]'hx4_2).t.keys).drop (((((l)[(at0).toNat]'hx4_2).t.keys.length + 1) / 2))), ((l)[(at0).toNat]'hx4_2).t.high, ((l)[(at0).toNat]'hx4_2).t.right⟩⟩ : LnkL)]).map (keyF 3), [⟨.slice (bl b6_11) (1) (1), 28, 3, 1, ([(⟨A16_5, c16_5, ⟨((((l)[(at0).toNat]'hx4_2).t.keys).drop (((((l)[(at0).toNat]'hx4_2).t.keys.length + 1) / 2))), ((l)[(at0).toNat]'hx4_2).t.high, ((l)[(at0).toNat]'hx4_2).t.right⟩⟩ : LnkL)]).flatMap encL⟩], [⟨.slice (bl b4_4) 1 1, 28, 3, 1, [.slice (((l)[(at0).toNat]'hx4_2).A) (((l)[(at0).toNat]'hx4_2).t.keys.length) (((l)[(at0).toNat]'hx4_2).cp), I (((l)[(at0).toNat]'hx4_2).t.high), I (((l)[(at0).toNat]'hx4_2).t.right)]⟩], [⟨.slice (A6_12) ((L13_1 ++ [(⟨A16_5, c16_5, ⟨((((l)[(at0).toNat]'hx4_2).t.keys).drop (((((l)[(at0).toNat]'hx4_2).t.keys.length + 1) / 2))), ((l)[(at0).toNat]'hx4_2).t.high, ((l)[(at0).toNat]'hx4_2).t.right⟩⟩ : LnkL)]).length) (c6_12), 28, 3, ((L13_1 ++ [(⟨A16_5, c16_5, ⟨((((l)[(at0).toNat]'hx4_2).t.keys).drop (((((l)[(at0).toNat]'hx4_2).t.keys.length + 1) / 2))), ((l)[(at0).toNat]'hx4_2).t.high, ((l)[(at0).toNat]'hx4_2).t.right⟩⟩ : LnkL)]).length), (L13_1 ++ [(⟨A16_5, c16_5, ⟨((((l)[(at0).toNat]'hx4_2).t.keys).drop (((((l)[(at0).toNat]'hx4_2).t.keys.length + 1) / 2))), ((l)[(at0).toNat]'hx4_2).t.high, ((l)[(at0).toNat]'hx4_2).t.right⟩⟩ : LnkL)]).flatMap encL⟩]] := Mem0.ext hMk21 hE7a
            refine AO.val (v := .slice (A6_12) ((L13_1 ++ [(⟨A16_5, c16_5, ⟨((((l)[(at0).toNat]'hx4_2).t.keys).drop (((((l)[(at0).toNat]'hx4_2).t.keys.length + 1) / 2))), ((l)[(at0).toNat]'hx4_2).t.high, ((l)[(at0).toNat]'hx4_2).t.right⟩⟩ : LnkL)]).length) (c6_12)) 0 (ls' := [true, false, false, false, false, false, false, false, false, false, false, false, false, false, false, false, false]) rfl (by kernel_rfl) rfl rfl (fun w2 hw2 => Ru.move rfl) rfl ?_
            refine AO.val (v := I (at0)) 1 (ls' := [true, true, false, false, false, false, false, false, false, false, false, false, false, false, false, false, false]) rfl (by kernel_rfl) rfl rfl (fun w2 hw2 => Ru.move rfl) rfl ?_
            refine AO.val (v := .pointer (ofs (bl b4_4) (0))) 2 (ls' := [true, true, true, false, false, false, false, false, false, false, false, false, false, false, false, false, false]) rfl (by kernel_rfl) rfl rfl (fun w2 hw2 => Ru.fieldA fl28_0 rfl rfl) rfl ?_
            refine AO.val (v := .slice (((l)[(at0).toNat]'hx4_2).A) (((l)[(at0).toNat]'hx4_2).t.keys.length) (((l)[(at0).toNat]'hx4_2).cp)) 3 (ls' := [true, true, true, true, false, false, false, false, false, false, false, false, false, false, false, false, false]) rfl (by kernel_rfl) rfl rfl (fun w2 hw2 => Ru.load1 el26 rfl ((hw2.rd 2 rfl).ld rfl)) rfl ?_
            refine AO.val (v := I (((((((l)[(at0).toNat]'hx4_2).t.keys.length + 1) / 2) : Nat) : Int))) 4 (ls' := [true, true, true, true, true, false, false, false, false, false, false, false, false, false, false, false, false]) rfl (by kernel_rfl) rfl rfl (fun w2 hw2 => Ru.move rfl) rfl ?_
            refine AO.val (v := .slice (((l)[(at0).toNat]'hx4_2).A) (((((l)[(at0).toNat]'hx4_2).t.keys).take (((((l)[(at0).toNat]'hx4_2).t.keys.length + 1) / 2))).length) (((l)[(at0).toNat]'hx4_2).cp)) 5 (ls' := [true, true, true, true, true, true, false, false, false, false, false, false, false, false, false, false, false]) rfl (by kernel_rfl) rfl rfl (fun w2 hw2 => Ru.congr (v := .slice (((l)[(at0).toNat]'hx4_2).A) (((((l)[(at0).toNat]'hx4_2).t.keys.length + 1) / 2)) (((l)[(at0).toNat]'hx4_2).cp)) (v' := .slice (((l)[(at0).toNat]'hx4_2).A) (((((l)[(at0).toNat]'hx4_2).t.keys).take (((((l)[(at0).toNat]'hx4_2).t.keys.length + 1) / 2))).length) (((l)[(at0).toNat]'hx4_2).cp)) (Ru.lsliceTo (h := ((((l)[(at0).toNat]'hx4_2).t.keys.length + 1) / 2)) Try.underlying26 el3 rfl rfl (by omega) (by first | omega | (simp; omega))) (sl_congr (by first | rfl | (simp; done) | omega | (simp; omega)))) rfl ?_
            refine AO.val (v := .pointer (ofs (bl b4_4) (0))) 7 (ls' := [true, true, true, true, true, true, false, true, false, false, false, false, false, false, false, false, false]) rfl (by kernel_rfl) rfl rfl (fun w2 hw2 => Ru.fieldA fl28_0 rfl rfl) rfl ?_
            refine AO.val (v := .slice (((l)[(at0).toNat]'hx4_2).A) (((l)[(at0).toNat]'hx4_2).t.keys.length) (((l)[(at0).toNat]'hx4_2).cp)) 8 (ls' := [true, true, true, true, true, true, false, true, true, false, false, false, false, false, false, false, false]) rfl (by kernel_rfl) rfl rfl (fun w2 hw2 => Ru.load1 el26 rfl ((hw2.rd 2 rfl).ld rfl)) rfl ?_
            refine AO.val (v := I (((((((l)[(at0).toNat]'hx4_2).t.keys.length + 1) / 2) : Nat) : Int))) 9 (ls' := [true, true, true, true, true, true, false, true, true, true, false, false, false, false, false, false, false]) rfl (by kernel_rfl) rfl rfl (fun w2 hw2 => Ru.move rfl) rfl ?_
            have hx7_10 : ((((l)[(at0).toNat]'hx4_2).t.keys.length + 1) / 2) < (((l)[(at0).toNat]'hx4_2).t.keys).length := (by first | omega | (simp; omega))
            refine AO.val (v := .pointer (ofs (((l)[(at0).toNat]'hx4_2).A) (((((l)[(at0).toNat]'hx4_2).t.keys.length + 1) / 2) * 1))) 10 (ls' := [true, true, true, true, true, true, false, true, true, true, true, false, false, false, false, false, false]) rfl (by kernel_rfl) rfl rfl (fun w2 hw2 => Ru.indexA (j := ((((l)[(at0).toNat]'hx4_2).t.keys.length + 1) / 2)) Try.underlying26 el3 rfl rfl (smm ((hNA.at hM7a).get hx4_2) hx7_10) (by omega) (by omega)) rfl ?_
            refine AO.val (v := .slice (A) ((l).length) (c)) 12 (ls' := [true, true, true, true, true, true, false, true, true, true, true, false, true, false, false, false, false]) rfl (by kernel_rfl) rfl rfl (fun w2 hw2 => Ru.move rfl) rfl ?_
            refine AO.val (v := I ((((l).length : Nat) : Int))) 13 (ls' := [true, true, true, true, true, true, false, true, true, true, true, false, true, true, false, false, false]) rfl (by kernel_rfl) rfl rfl (fun w2 hw2 => Ru.blenSlice Try.underlying23 rfl) rfl ?_
            refine AO.two 6 11 (by kernel_rfl) ?_ ?_
            · refine step1 (ls' := [true, true, true, true, true, true, true, true, true, true, true, false, true, true, false, false, false]) rfl rfl ?_
              refine O.callg [.slice (((l)[(at0).toNat]'hx4_2).A) (((((l)[(at0).toNat]'hx4_2).t.keys).take (((((l)[(at0).toNat]'hx4_2).t.keys.length + 1) / 2))).length) (((l)[(at0).toNat]'hx4_2).cp)] rfl en55 rfl rfl (CloneInt_fn (((l)[(at0).toNat]'hx4_2).A) (((l)[(at0).toNat]'hx4_2).cp) ((((l)[(at0).toNat]'hx4_2).t.keys).take (((((l)[(at0).toNat]'hx4_2).t.keys.length + 1) / 2))) w7a (rd_take1 ((hNA.at hM7a).get hx4_2)) (by simp; omega)) ?_
              rintro _ w7_6 ⟨A17_6, c17_6, rfl, hR7_6⟩
              have hM7_6 : Mem w w7_6 [] [[⟨.slice (A17_6) ((((((l)[(at0).toNat]'hx4_2).t.keys).take (((((l)[(at0).toNat]'hx4_2).t.keys.length + 1) / 2)))).length) (c17_6), 3, 1, ((((((l)[(at0).toNat]'hx4_2).t.keys).take (((((l)[(at0).toNat]'hx4_2).t.keys.length + 1) / 2)))).length), (((((l)[(at0).toNat]'hx4_2).t.keys).take (((((l)[(at0).toNat]'hx4_2).t.keys.length + 1) / 2)))).map I⟩], (L13_1 ++ [(⟨A16_5, c16_5, ⟨((((l)[(at0).toNat]'hx4_2).t.keys).drop (((((l)[(at0).toNat]'hx4_2).t.keys.length + 1) / 2))), ((l)[(at0).toNat]'hx4_2).t.high, ((l)[(at0).toNat]'hx4_2).t.right⟩⟩ : LnkL)]).map (keyF 3), [⟨.slice (bl b6_11) (1) (1), 28, 3, 1, ([(⟨A16_5, c16_5, ⟨((((l)[(at0).toNat]'hx4_2).t.keys).drop (((((l)[(at0).toNat]'hx4_2).t.keys.length + 1) / 2))), ((l)[(at0).toNat]'hx4_2).t.high, ((l)[(at0).toNat]'hx4_2).t.right⟩⟩ : LnkL)]).flatMap encL⟩], [⟨.slice (bl b4_4) 1 1, 28, 3, 1, [.slice (((l)[(at0).toNat]'hx4_2).A) (((l)[(at0).toNat]'hx4_2).t.keys.length) (((l)[(at0).toNat]'hx4_2).cp), I (((l)[(at0).toNat]'hx4_2).t.high), I (((l)[(at0).toNat]'hx4_2).t.right)]⟩], [⟨.slice (A6_12) ((L13_1 ++ [(⟨A16_5, c16_5, ⟨((((l)[(at0).toNat]'hx4_2).t.keys).drop (((((l)[(at0).toNat]'hx4_2).t.keys.length + 1) / 2))), ((l)[(at0).toNat]'hx4_2).t.high, ((l)[(at0).toNat]'hx4_2).t.right⟩⟩ : LnkL)]).length) (c6_12), 28, 3, ((L13_1 ++ [(⟨A16_5, c16_5, ⟨((((l)[(at0).toNat]'hx4_2).t.keys).drop (((((l)[(at0).toNat]'hx4_2).t.keys.length + 1) / 2))), ((l)[(at0).toNat]'hx4_2).t.high, ((l)[(at0).toNat]'hx4_2).t.right⟩⟩ : LnkL)]).length), (L13_1 ++ [(⟨A16_5, c16_5, ⟨((((l)[(at0).toNat]'hx4_2).t.keys).drop (((((l)[(at0).toNat]'hx4_2).t.keys.length + 1) / 2))), ((l)[(at0).toNat]'hx4_2).t.high, ((l)[(at0).toNat]'hx4_2).t.right⟩⟩ : LnkL)]).flatMap encL⟩]] := Mem.call (Ma := []) hM7a hR7_6 rfl
              have hcr7_6_0 := (hM7_6.cap 0 rfl).1
              refine O.stop (hM7_6.pick [1, 2, 3] (by decide) rfl) ?_
              refine AO.one 11 (by kernel_rfl) ?_
              refine step1 (ls' := [true, true, true, true, true, true, true, true, true, true, true, true, true, true, false, false, false]) rfl rfl ?_
              refine O.val rfl (Ru.load1 el3 rfl (ldm ((hNA.at hM7_6).get hx4_2) hx7_10)) rfl ?_
              refine O.stop (hM7_6.pick [1, 2, 3] (by decide) rfl) ?_
              refine AO.val (v := .agg #[.slice (A17_6) ((((((l)[(at0).toNat]'hx4_2).t.keys).take (((((l)[(at0).toNat]'hx4_2).t.keys.length + 1) / 2)))).length) (c17_6), I ((((l)[(at0).toNat]'hx4_2).t.keys)[((((l)[(at0).toNat]'hx4_2).t.keys.length + 1) / 2)]'hx7_10), I ((((l).length : Nat) : Int))]) 14 (ls' := [true, true, true, true, true, true, true, true, true, true, true, true, true, true, true, false, false]) rfl (by kernel_rfl) rfl rfl (fun w2 hw2 => Ru.build of28 rfl rfl rfl) rfl ?_
              have hx7_15 : (at0).toNat < (L13_1 ++ [(⟨A16_5, c16_5, ⟨((((l)[(at0).toNat]'hx4_2).t.keys).drop (((((l)[(at0).toNat]'hx4_2).t.keys.length + 1) / 2))), ((l)[(at0).toNat]'hx4_2).t.high, ((l)[(at0).toNat]'hx4_2).t.right⟩⟩ : LnkL)]).length := (by simp; omega)
              refine AO.val (v := .pointer (ofs (A6_12) (((at0).toNat) * 3))) 15 (ls' := [true, true, true, true, true, true, true, true, true, true, true, true, true, true, true, true, false]) rfl (by kernel_rfl) rfl rfl (fun w2 hw2 => Ru.indexA (j := (at0).toNat) Try.underlying23 el28 rfl rfl (smf encL_len (hM7_6.rd 4 rfl) hx7_15 rfl) (by omega) (by first | omega | (simp; omega))) rfl ?_
              refine AO.one 16 (by kernel_rfl) ?_
              refine step1 (ls' := [true, true, true, true, true, true, true, true, true, true, true, true, true, true, true, true, true]) rfl rfl ?_
              refine O.mstore (vs := [.slice (A17_6) ((((((l)[(at0).toNat]'hx4_2).t.keys).take (((((l)[(at0).toNat]'hx4_2).t.keys.length + 1) / 2)))).length) (c17_6), I ((((l)[(at0).toNat]'hx4_2).t.keys)[((((l)[(at0).toNat]'hx4_2).t.keys.length + 1) / 2)]'hx7_10), I ((((l).length : Nat) : Int))]) (xs' := ((L13_1 ++ [(⟨A16_5, c16_5, ⟨((((l)[(at0).toNat]'hx4_2).t.keys).drop (((((l)[(at0).toNat]'hx4_2).t.keys.length + 1) / 2))), ((l)[(at0).toNat]'hx4_2).t.high, ((l)[(at0).toNat]'hx4_2).t.right⟩⟩ : LnkL)]).set ((at0).toNat) (⟨A17_6, c17_6, ⟨((((l)[(at0).toNat]'hx4_2).t.keys).take (((((l)[(at0).toNat]'hx4_2).t.keys.length + 1) / 2))), (((l)[(at0).toNat]'hx4_2).t.keys)[((((l)[(at0).toNat]'hx4_2).t.keys.length + 1) / 2)]'hx7_10, (((l).length : Nat) : Int)⟩⟩ : LnkL)).flatMap encL) 4 0 hM7_6 rfl rfl rfl el28 rfl rfl rfl rfl rfl (by rw [flat_len encL_len]; simp; omega) (by simp) (spl_flat encL_len (l := L13_1 ++ [(⟨A16_5, c16_5, ⟨((((l)[(at0).toNat]'hx4_2).t.keys).drop (((((l)[(at0).toNat]'hx4_2).t.keys.length + 1) / 2))), ((l)[(at0).toNat]'hx4_2).t.high, ((l)[(at0).toNat]'hx4_2).t.right⟩⟩ : LnkL)]) (a := (⟨A17_6, c17_6, ⟨((((l)[(at0).toNat]'hx4_2).t.keys).take (((((l)[(at0).toNat]'hx4_2).t.keys.length + 1) / 2))), (((l)[(at0).toNat]'hx4_2).t.keys)[((((l)[(at0).toNat]'hx4_2).t.keys.length + 1) / 2)]'hx7_10, (((l).length : Nat) : Int)⟩⟩ : LnkL)) hx7_15) rfl (fun w7_16 (hM7_16 : Mem w w7_16 [] [[⟨.slice (A17_6) ((((((l)[(at0).toNat]'hx4_2).t.keys).take (((((l)[(at0).toNat]'hx4_2).t.keys.length + 1) / 2)))).length) (c17_6), 3, 1, ((((((l)[(at0).toNat]'hx4_2).t.keys).take (((((l)[(at0).toNat]'hx4_2).t.keys.length + 1) / 2)))).length), (((((l)[(at0).toNat]'hx4_2).t.keys).take (((((l)[(at0).toNat]'hx4_2).t.keys.length + 1) / 2)))).map I⟩], (L13_1 ++ [(⟨A16_5, c16_5, ⟨((((l)[(at0).toNat]'hx4_2).t.keys).drop (((((l)[(at0).toNat]'hx4_2).t.keys.length + 1) / 2))), ((l)[(at0).toNat]'hx4_2).t.high, ((l)[(at0).toNat]'hx4_2).t.right⟩⟩ : LnkL)]).map (keyF 3), [⟨.slice (bl b6_11) (1) (1), 28, 3, 1, ([(⟨A16_5, c16_5, ⟨((((l)[(at0).toNat]'hx4_2).t.keys).drop (((((l)[(at0).toNat]'hx4_2).t.keys.length + 1) / 2))), ((l)[(at0).toNat]'hx4_2).t.high, ((l)[(at0).toNat]'hx4_2).t.right⟩⟩ : LnkL)]).flatMap encL⟩], [⟨.slice (bl b4_4) 1 1, 28, 3, 1, [.slice (((l)[(at0).toNat]'hx4_2).A) (((l)[(at0).toNat]'hx4_2).t.keys.length) (((l)[(at0).toNat]'hx4_2).cp), I (((l)[(at0).toNat]'hx4_2).t.high), I (((l)[(at0).toNat]'hx4_2).t.right)]⟩], [⟨.slice (A6_12) ((L13_1 ++ [(⟨A16_5, c16_5, ⟨((((l)[(at0).toNat]'hx4_2).t.keys).drop (((((l)[(at0).toNat]'hx4_2).t.keys.length + 1) / 2))), ((l)[(at0).toNat]'hx4_2).t.high, ((l)[(at0).toNat]'hx4_2).t.right⟩⟩ : LnkL)]).length) (c6_12), 28, 3, ((L13_1 ++ [(⟨A16_5, c16_5, ⟨((((l)[(at0).toNat]'hx4_2).t.keys).drop (((((l)[(at0).toNat]'hx4_2).t.keys.length + 1) / 2))), ((l)[(at0).toNat]'hx4_2).t.high, ((l)[(at0).toNat]'hx4_2).t.right⟩⟩ : LnkL)]).length), ((L13_1 ++ [(⟨A16_5, c16_5, ⟨((((l)[(at0).toNat]'hx4_2).t.keys).drop (((((l)[(at0).toNat]'hx4_2).t.keys.length + 1) / 2))), ((l)[(at0).toNat]'hx4_2).t.high, ((l)[(at0).toNat]'hx4_2).t.right⟩⟩ : LnkL)]).set ((at0).toNat) (⟨A17_6, c17_6, ⟨((((l)[(at0).toNat]'hx4_2).t.keys).take (((((l)[(at0).toNat]'hx4_2).t.keys.length + 1) / 2))), (((l)[(at0).toNat]'hx4_2).t.keys)[((((l)[(at0).toNat]'hx4_2).t.keys.length + 1) / 2)]'hx7_10, (((l).length : Nat) : Int)⟩⟩ : LnkL)).flatMap encL⟩]]) => ?_)
              refine O.stop (hM7_16.pick [1, 2, 3] (by decide) rfl) ?_
              refine AO.nil (by kernel_rfl) ?_
              have hMk22 : Mem w w7_16 [] [((L13_1 ++ [(⟨A16_5, c16_5, ⟨((((l)[(at0).toNat]'hx4_2).t.keys).drop (((((l)[(at0).toNat]'hx4_2).t.keys.length + 1) / 2))), ((l)[(at0).toNat]'hx4_2).t.high, ((l)[(at0).toNat]'hx4_2).t.right⟩⟩ : LnkL)]).set ((at0).toNat) (⟨A17_6, c17_6, ⟨((((l)[(at0).toNat]'hx4_2).t.keys).take (((((l)[(at0).toNat]'hx4_2).t.keys.length + 1) / 2))), (((l)[(at0).toNat]'hx4_2).t.keys)[((((l)[(at0).toNat]'hx4_2).t.keys.length + 1) / 2)]'hx7_10, (((l).length : Nat) : Int)⟩⟩ : LnkL)).map (keyF 3), [⟨.slice (bl b6_11) (1) (1), 28, 3, 1, ([(⟨A16_5, c16_5, ⟨((((l)[(at0).toNat]'hx4_2).t.keys).drop (((((l)[(at0).toNat]'hx4_2).t.keys.length + 1) / 2))), ((l)[(at0).toNat]'hx4_2).t.high, ((l)[(at0).toNat]'hx4_2).t.right⟩⟩ : LnkL)]).flatMap encL⟩], [⟨.slice (bl b4_4) 1 1, 28, 3, 1, [.slice (((l)[(at0).toNat]'hx4_2).A) (((l)[(at0).toNat]'hx4_2).t.keys.length) (((l)[(at0).toNat]'hx4_2).cp), I (((l)[(at0).toNat]'hx4_2).t.high), I (((l)[(at0).toNat]'hx4_2).t.right)]⟩], [⟨.slice (A6_12) ((L13_1 ++ [(⟨A16_5, c16_5, ⟨((((l)[(at0).toNat]'hx4_2).t.keys).drop (((((l)[(at0).toNat]'hx4_2).t.keys.length + 1) / 2))), ((l)[(at0).toNat]'hx4_2).t.high, ((l)[(at0).toNat]'hx4_2).t.right⟩⟩ : LnkL)]).length) (c6_12), 28, 3, ((L13_1 ++ [(⟨A16_5, c16_5, ⟨((((l)[(at0).toNat]'hx4_2).t.keys).drop (((((l)[(at0).toNat]'hx4_2).t.keys.length + 1) / 2))), ((l)[(at0).toNat]'hx4_2).t.high, ((l)[(at0).toNat]'hx4_2).t.right⟩⟩ : LnkL)]).length), ((L13_1 ++ [(⟨A16_5, c16_5, ⟨((((l)[(at0).toNat]'hx4_2).t.keys).drop (((((l)[(at0).toNat]'hx4_2).t.keys.length + 1) / 2))), ((l)[(at0).toNat]'hx4_2).t.high, ((l)[(at0).toNat]'hx4_2).t.right⟩⟩ : LnkL)]).set ((at0).toNat) (⟨A17_6, c17_6, ⟨((((l)[(at0).toNat]'hx4_2).t.keys).take (((((l)[(at0).toNat]'hx4_2).t.keys.length + 1) / 2))), (((l)[(at0).toNat]'hx4_2).t.keys)[((((l)[(at0).toNat]'hx4_2).t.keys.length + 1) / 2)]'hx7_10, (((l).length : Nat) : Int)⟩⟩ : LnkL)).flatMap encL⟩]] := Mem.kset (l := L13_1 ++ [(⟨A16_5, c16_5, ⟨((((l)[(at0).toNat]'hx4_2).t.keys).drop (((((l)[(at0).toNat]'hx4_2).t.keys.length + 1) / 2))), ((l)[(at0).toNat]'hx4_2).t.high, ((l)[(at0).toNat]'hx4_2).t.right⟩⟩ : LnkL)]) (x := (⟨A17_6, c17_6, ⟨((((l)[(at0).toNat]'hx4_2).t.keys).take (((((l)[(at0).toNat]'hx4_2).t.keys.length + 1) / 2))), (((l)[(at0).toNat]'hx4_2).t.keys)[((((l)[(at0).toNat]'hx4_2).t.keys.length + 1) / 2)]'hx7_10, (((l).length : Nat) : Int)⟩⟩ : LnkL)) (M := [[⟨.slice (bl b6_11) (1) (1), 28, 3, 1, ([(⟨A16_5, c16_5, ⟨((((l)[(at0).toNat]'hx4_2).t.keys).drop (((((l)[(at0).toNat]'hx4_2).t.keys.length + 1) / 2))), ((l)[(at0).toNat]'hx4_2).t.high, ((l)[(at0).toNat]'hx4_2).t.right⟩⟩ : LnkL)]).flatMap encL⟩], [⟨.slice (bl b4_4) 1 1, 28, 3, 1, [.slice (((l)[(at0).toNat]'hx4_2).A) (((l)[(at0).toNat]'hx4_2).t.keys.length) (((l)[(at0).toNat]'hx4_2).cp), I (((l)[(at0).toNat]'hx4_2).t.high), I (((l)[(at0).toNat]'hx4_2).t.right)]⟩], [⟨.slice (A6_12) ((L13_1 ++ [(⟨A16_5, c16_5, ⟨((((l)[(at0).toNat]'hx4_2).t.keys).drop (((((l)[(at0).toNat]'hx4_2).t.keys.length + 1) / 2))), ((l)[(at0).toNat]'hx4_2).t.high, ((l)[(at0).toNat]'hx4_2).t.right⟩⟩ : LnkL)]).length) (c6_12), 28, 3, ((L13_1 ++ [(⟨A16_5, c16_5, ⟨((((l)[(at0).toNat]'hx4_2).t.keys).drop (((((l)[(at0).toNat]'hx4_2).t.keys.length + 1) / 2))), ((l)[(at0).toNat]'hx4_2).t.high, ((l)[(at0).toNat]'hx4_2).t.right⟩⟩ : LnkL)]).length), ((L13_1 ++ [(⟨A16_5, c16_5, ⟨((((l)[(at0).toNat]'hx4_2).t.keys).drop (((((l)[(at0).toNat]'hx4_2).t.keys.length + 1) / 2))), ((l)[(at0).toNat]'hx4_2).t.high, ((l)[(at0).toNat]'hx4_2).t.right⟩⟩ : LnkL)]).set ((at0).toNat) (⟨A17_6, c17_6, ⟨((((l)[(at0).toNat]'hx4_2).t.keys).take (((((l)[(at0).toNat]'hx4_2).t.keys.length + 1) / 2))), (((l)[(at0).toNat]'hx4_2).t.keys)[((((l)[(at0).toNat]'hx4_2).t.keys.length + 1) / 2)]'hx7_10, (((l).length : Nat) : Int)⟩⟩ : LnkL)).flatMap encL⟩]]) (hM7_16.pick [1, 0, 2, 3, 4] (by decide) rfl) ((at0).toNat)
              refine C.seq ?_
              refine C.region ?_
              refine O.val (v := .slice (A6_12) ((L13_1 ++ [(⟨A16_5, c16_5, ⟨((((l)[(at0).toNat]'hx4_2).t.keys).drop (((((l)[(at0).toNat]'hx4_2).t.keys.length + 1) / 2))), ((l)[(at0).toNat]'hx4_2).t.high, ((l)[(at0).toNat]'hx4_2).t.right⟩⟩ : LnkL)]).length) (c6_12)) rfl (Ru.move rfl) rfl ?_
              refine O.val (v := .slice (A6_12) ((L13_1 ++ [(⟨A16_5, c16_5, ⟨((((l)[(at0).toNat]'hx4_2).t.keys).drop (((((l)[(at0).toNat]'hx4_2).t.keys.length + 1) / 2))), ((l)[(at0).toNat]'hx4_2).t.high, ((l)[(at0).toNat]'hx4_2).t.right⟩⟩ : LnkL)]).length) (c6_12)) rfl (Ru.assign rfl) rfl ?_
              refine O.val (v := .bool (true)) rfl (Ru.assign rfl) rfl ?_
              refine O.nil ?_
              refine C.ret ?_
              refine P2 (v := .slice (A6_12) ((L13_1 ++ [(⟨A16_5, c16_5, ⟨((((l)[(at0).toNat]'hx4_2).t.keys).drop (((((l)[(at0).toNat]'hx4_2).t.keys.length + 1) / 2))), ((l)[(at0).toNat]'hx4_2).t.high, ((l)[(at0).toNat]'hx4_2).t.right⟩⟩ : LnkL)]).length) (c6_12)) (v' := .bool (true)) rfl rfl ?_
              have hq23 : ((L13_1 ++ [(⟨A16_5, c16_5, ⟨((((l)[(at0).toNat]'hx4_2).t.keys).drop (((((l)[(at0).toNat]'hx4_2).t.keys.length + 1) / 2))), ((l)[(at0).toNat]'hx4_2).t.high, ((l)[(at0).toNat]'hx4_2).t.right⟩⟩ : LnkL)]).set ((at0).toNat) (⟨A17_6, c17_6, ⟨((((l)[(at0).toNat]'hx4_2).t.keys).take (((((l)[(at0).toNat]'hx4_2).t.keys.length + 1) / 2))), (((l)[(at0).toNat]'hx4_2).t.keys)[((((l)[(at0).toNat]'hx4_2).t.keys.length + 1) / 2)]'hx7_10, (((l).length : Nat) : Int)⟩⟩ : LnkL) : List LnkL) = ((L13_1 ++ [(⟨A16_5, c16_5, ⟨((((l)[(at0).toNat]'hx4_2).t.keys).drop (((((l)[(at0).toNat]'hx4_2).t.keys.length + 1) / 2))), ((l)[(at0).toNat]'hx4_2).t.high, ((l)[(at0).toNat]'hx4_2).t.right⟩⟩ : LnkL)]).set ((at0).toNat) (⟨A17_6, c17_6, ⟨((((l)[(at0).toNat]'hx4_2).t.keys).take (((((l)[(at0).toNat]'hx4_2).t.keys.length + 1) / 2))), (((l)[(at0).toNat]'hx4_2).t.keys)[((((l)[(at0).toNat]'hx4_2).t.keys.length + 1) / 2)]'hx7_10, (((l).length : Nat) : Int)⟩⟩ : LnkL)) := (by first | rfl | simp | (simp; omega))
              have hMn23 : Mem w w7_16 [] [((L13_1 ++ [(⟨A16_5, c16_5, ⟨((((l)[(at0).toNat]'hx4_2).t.keys).drop (((((l)[(at0).toNat]'hx4_2).t.keys.length + 1) / 2))), ((l)[(at0).toNat]'hx4_2).t.high, ((l)[(at0).toNat]'hx4_2).t.right⟩⟩ : LnkL)]).set ((at0).toNat) (⟨A17_6, c17_6, ⟨((((l)[(at0).toNat]'hx4_2).t.keys).take (((((l)[(at0).toNat]'hx4_2).t.keys.length + 1) / 2))), (((l)[(at0).toNat]'hx4_2).t.keys)[((((l)[(at0).toNat]'hx4_2).t.keys.length + 1) / 2)]'hx7_10, (((l).length : Nat) : Int)⟩⟩ : LnkL)).map (keyF 3), [⟨.slice (bl b6_11) (1) (1), 28, 3, 1, ([(⟨A16_5, c16_5, ⟨((((l)[(at0).toNat]'hx4_2).t.keys).drop (((((l)[(at0).toNat]'hx4_2).t.keys.length + 1) / 2))), ((l)[(at0).toNat]'hx4_2).t.high, ((l)[(at0).toNat]'hx4_2).t.right⟩⟩ : LnkL)]).flatMap encL⟩], [⟨.slice (bl b4_4) 1 1, 28, 3, 1, [.slice (((l)[(at0).toNat]'hx4_2).A) (((l)[(at0).toNat]'hx4_2).t.keys.length) (((l)[(at0).toNat]'hx4_2).cp), I (((l)[(at0).toNat]'hx4_2).t.high), I (((l)[(at0).toNat]'hx4_2).t.right)]⟩], [⟨.slice (A6_12) (((L13_1 ++ [(⟨A16_5, c16_5, ⟨((((l)[(at0).toNat]'hx4_2).t.keys).drop (((((l)[(at0).toNat]'hx4_2).t.keys.length + 1) / 2))), ((l)[(at0).toNat]'hx4_2).t.high, ((l)[(at0).toNat]'hx4_2).t.right⟩⟩ : LnkL)]).set ((at0).toNat) (⟨A17_6, c17_6, ⟨((((l)[(at0).toNat]'hx4_2).t.keys).take (((((l)[(at0).toNat]'hx4_2).t.keys.length + 1) / 2))), (((l)[(at0).toNat]'hx4_2).t.keys)[((((l)[(at0).toNat]'hx4_2).t.keys.length + 1) / 2)]'hx7_10, (((l).length : Nat) : Int)⟩⟩ : LnkL)).length) (c6_12), 28, 3, (((L13_1 ++ [(⟨A16_5, c16_5, ⟨((((l)[(at0).toNat]'hx4_2).t.keys).drop (((((l)[(at0).toNat]'hx4_2).t.keys.length + 1) / 2))), ((l)[(at0).toNat]'hx4_2).t.high, ((l)[(at0).toNat]'hx4_2).t.right⟩⟩ : LnkL)]).set ((at0).toNat) (⟨A17_6, c17_6, ⟨((((l)[(at0).toNat]'hx4_2).t.keys).take (((((l)[(at0).toNat]'hx4_2).t.keys.length + 1) / 2))), (((l)[(at0).toNat]'hx4_2).t.keys)[((((l)[(at0).toNat]'hx4_2).t.keys.length + 1) / 2)]'hx7_10, (((l).length : Nat) : Int)⟩⟩ : LnkL)).length), (((L13_1 ++ [(⟨A16_5, c16_5, ⟨((((l)[(at0).toNat]'hx4_2).t.keys).drop (((((l)[(at0).toNat]'hx4_2).t.keys.length + 1) / 2))), ((l)[(at0).toNat]'hx4_2).t.high, ((l)[(at0).toNat]'hx4_2).t.right⟩⟩ : LnkL)]).set ((at0).toNat) (⟨A17_6, c17_6, ⟨((((l)[(at0).toNat]'hx4_2).t.keys).take (((((l)[(at0).toNat]'hx4_2).t.keys.length + 1) / 2))), (((l)[(at0).toNat]'hx4_2).t.keys)[((((l)[(at0).toNat]'hx4_2).t.keys.length + 1) / 2)]'hx7_10, (((l).length : Nat) : Int)⟩⟩ : LnkL))).flatMap encL⟩]] := hMk22.relen 3 (n' := ((L13_1 ++ [(⟨A16_5, c16_5, ⟨((((l)[(at0).toNat]'hx4_2).t.keys).drop (((((l)[(at0).toNat]'hx4_2).t.keys.length + 1) / 2))), ((l)[(at0).toNat]'hx4_2).t.high, ((l)[(at0).toNat]'hx4_2).t.right⟩⟩ : LnkL)]).set ((at0).toNat) (⟨A17_6, c17_6, ⟨((((l)[(at0).toNat]'hx4_2).t.keys).take (((((l)[(at0).toNat]'hx4_2).t.keys.length + 1) / 2))), (((l)[(at0).toNat]'hx4_2).t.keys)[((((l)[(at0).toNat]'hx4_2).t.keys.length + 1) / 2)]'hx7_10, (((l).length : Nat) : Int)⟩⟩ : LnkL)).length) (xs' := (((L13_1 ++ [(⟨A16_5, c16_5, ⟨((((l)[(at0).toNat]'hx4_2).t.keys).drop (((((l)[(at0).toNat]'hx4_2).t.keys.length + 1) / 2))), ((l)[(at0).toNat]'hx4_2).t.high, ((l)[(at0).toNat]'hx4_2).t.right⟩⟩ : LnkL)]).set ((at0).toNat) (⟨A17_6, c17_6, ⟨((((l)[(at0).toNat]'hx4_2).t.keys).take (((((l)[(at0).toNat]'hx4_2).t.keys.length + 1) / 2))), (((l)[(at0).toNat]'hx4_2).t.keys)[((((l)[(at0).toNat]'hx4_2).t.keys.length + 1) / 2)]'hx7_10, (((l).length : Nat) : Int)⟩⟩ : LnkL))).flatMap encL) rfl (by first | rfl | exact congrArg List.length hq23 | (have hqq := congrArg List.length hq23; first | omega | (simp at hqq ⊢; omega)) | (simp; done) | (simp; omega)) (congrArg (fun z_ => (z_).flatMap encL) hq23) rfl
              exact ⟨(L13_1 ++ [(⟨A16_5, c16_5, ⟨((((l)[(at0).toNat]'hx4_2).t.keys).drop (((((l)[(at0).toNat]'hx4_2).t.keys.length + 1) / 2))), ((l)[(at0).toNat]'hx4_2).t.high, ((l)[(at0).toNat]'hx4_2).t.right⟩⟩ : LnkL)]).set ((at0).toNat) (⟨A17_6, c17_6, ⟨((((l)[(at0).toNat]'hx4_2).t.keys).take (((((l)[(at0).toNat]'hx4_2).t.keys.length + 1) / 2))), (((l)[(at0).toNat]'hx4_2).t.keys)[((((l)[(at0).toNat]'hx4_2).t.keys.length + 1) / 2)]'hx7_10, (((l).length : Nat) : Int)⟩⟩ : LnkL), A6_12, c6_12, (by rw [hs]; first | rfl | simp), (by rw [hs, Option.getD_some]; exact spl_ts hat hts3_1 (by simp only [splY, midK]; rw [getD_lt hx7_10]) rfl), (hMn23.pick [3, 0] (by decide) rfl)⟩
            · refine step1 (ls' := [true, true, true, true, true, true, false, true, true, true, true, true, true, true, false, false, false]) rfl rfl ?_
              refine O.val rfl (Ru.load1 el3 rfl (ldm ((hNA.at hM7a).get hx4_2) hx7_10)) rfl ?_
              refine O.stop (hM7a.pick [0, 1, 2] (by decide) rfl) ?_
              refine AO.one 6 (by kernel_rfl) ?_
              refine step1 (ls' := [true, true, true, true, true, true, true, true, true, true, true, true, true, true, false, false, false]) rfl rfl ?_
              refine O.callg [.slice (((l)[(at0).toNat]'hx4_2).A) (((((l)[(at0).toNat]'hx4_2).t.keys).take (((((l)[(at0).toNat]'hx4_2).t.keys.length + 1) / 2))).length) (((l)[(at0).toNat]'hx4_2).cp)] rfl en55 rfl rfl (CloneInt_fn (((l)[(at0).toNat]'hx4_2).A) (((l)[(at0).toNat]'hx4_2).cp) ((((l)[(at0).toNat]'hx4_2).t.keys).take (((((l)[(at0).toNat]'hx4_2).t.keys.length + 1) / 2))) w7a (rd_take1 ((hNA.at hM7a).get hx4_2)) (by simp; omega)) ?_
              rintro _ w7_6 ⟨A17_6, c17_6, rfl, hR7_6⟩
              have hM7_6 : Mem w w7_6 [] [[⟨.slice (A17_6) ((((((l)[(at0).toNat]'hx4_2).t.keys).take (((((l)[(at0).toNat]'hx4_2).t.keys.length + 1) / 2)))).length) (c17_6), 3, 1, ((((((l)[(at0).toNat]'hx4_2).t.keys).take (((((l)[(at0).toNat]'hx4_2).t.keys.length + 1) / 2)))).length), (((((l)[(at0).toNat]'hx4_2).t.keys).take (((((l)[(at0).toNat]'hx4_2).t.keys.length + 1) / 2)))).map I⟩], (L13_1 ++ [(⟨A16_5, c16_5, ⟨((((l)[(at0).toNat]'hx4_2).t.keys).drop (((((l)[(at0).toNat]'hx4_2).t.keys.length + 1) / 2))), ((l)[(at0).toNat]'hx4_2).t.high, ((l)[(at0).toNat]'hx4_2).t.right⟩⟩ : LnkL)]).map (keyF 3), [⟨.slice (bl b6_11) (1) (1), 28, 3, 1, ([(⟨A16_5, c16_5, ⟨((((l)[(at0).toNat]'hx4_2).t.keys).drop (((((l)[(at0).toNat]'hx4_2).t.keys.length + 1) / 2))), ((l)[(at0).toNat]'hx4_2).t.high, ((l)[(at0).toNat]'hx4_2).t.right⟩⟩ : LnkL)]).flatMap encL⟩], [⟨.slice (bl b4_4) 1 1, 28, 3, 1, [.slice (((l)[(at0).toNat]'hx4_2).A) (((l)[(at0).toNat]'hx4_2).t.keys.length) (((l)[(at0).toNat]'hx4_2).cp), I (((l)[(at0).toNat]'hx4_2).t.high), I (((l)[(at0).toNat]'hx4_2).t.right)]⟩], [⟨.slice (A6_12) ((L13_1 ++ [(⟨A16_5, c16_5, ⟨((((l)[(at0).toNat]'hx4_2).t.keys).drop (((((l)[(at0).toNat]'hx4_2).t.keys.length + 1) / 2))), ((l)[(at0).toNat]'hx4_2).t.high, ((l)[(at0).toNat]'hx4_2).t.right⟩⟩ : LnkL)]).length) (c6_12), 28, 3, ((L13_1 ++ [(⟨A16_5, c16_5, ⟨((((l)[(at0).toNat]'hx4_2).t.keys).drop (((((l)[(at0).toNat]'hx4_2).t.keys.length + 1) / 2))), ((l)[(at0).toNat]'hx4_2).t.high, ((l)[(at0).toNat]'hx4_2).t.right⟩⟩ : LnkL)]).length), (L13_1 ++ [(⟨A16_5, c16_5, ⟨((((l)[(at0).toNat]'hx4_2).t.keys).drop (((((l)[(at0).toNat]'hx4_2).t.keys.length + 1) / 2))), ((l)[(at0).toNat]'hx4_2).t.high, ((l)[(at0).toNat]'hx4_2).t.right⟩⟩ : LnkL)]).flatMap encL⟩]] := Mem.call (Ma := []) hM7a hR7_6 rfl
              have hcr7_6_0 := (hM7_6.cap 0 rfl).1
              refine O.stop (hM7_6.pick [1, 2, 3] (by decide) rfl) ?_
              refine AO.val (v := .agg #[.slice (A17_6) ((((((l)[(at0).toNat]'hx4_2).t.keys).take (((((l)[(at0).toNat]'hx4_2).t.keys.length + 1) / 2)))).length) (c17_6), I ((((l)[(at0).toNat]'hx4_2).t.keys)[((((l)[(at0).toNat]'hx4_2).t.keys.length + 1) / 2)]'hx7_10), I ((((l).length : Nat) : Int))]) 14 (ls' := [true, true, true, true, true, true, true, true, true, true, true, true, true, true, true, false, false]) rfl (by kernel_rfl) rfl rfl (fun w2 hw2 => Ru.build of28 rfl rfl rfl) rfl ?_
              have hx7_15 : (at0).toNat < (L13_1 ++ [(⟨A16_5, c16_5, ⟨((((l)[(at0).toNat]'hx4_2).t.keys).drop (((((l)[(at0).toNat]'hx4_2).t.keys.length + 1) / 2))), ((l)[(at0).toNat]'hx4_2).t.high, ((l)[(at0).toNat]'hx4_2).t.right⟩⟩ : LnkL)]).length := (by simp; omega)
              refine AO.val (v := .pointer (ofs (A6_12) (((at0).toNat) * 3))) 15 (ls' := [true, true, true, true, true, true, true, true, true, true, true, true, true, true, true, true, false]) rfl (by kernel_rfl) rfl rfl (fun w2 hw2 => Ru.indexA (j := (at0).toNat) Try.underlying23 el28 rfl rfl (smf encL_len (hM7_6.rd 4 rfl) hx7_15 rfl) (by omega) (by first | omega | (simp; omega))) rfl ?_
              refine AO.one 16 (by kernel_rfl) ?_
              refine step1 (ls' := [true, true, true, true, true, true, true, true, true, true, true, true, true, true, true, true, true]) rfl rfl ?_
              refine O.mstore (vs := [.slice (A17_6) ((((((l)[(at0).toNat]'hx4_2).t.keys).take (((((l)[(at0).toNat]'hx4_2).t.keys.length + 1) / 2)))).length) (c17_6), I ((((l)[(at0).toNat]'hx4_2).t.keys)[((((l)[(at0).toNat]'hx4_2).t.keys.length + 1) / 2)]'hx7_10), I ((((l).length : Nat) : Int))]) (xs' := ((L13_1 ++ [(⟨A16_5, c16_5, ⟨((((l)[(at0).toNat]'hx4_2).t.keys).drop (((((l)[(at0).toNat]'hx4_2).t.keys.length + 1) / 2))), ((l)[(at0).toNat]'hx4_2).t.high, ((l)[(at0).toNat]'hx4_2).t.right⟩⟩ : LnkL)]).set ((at0).toNat) (⟨A17_6, c17_6, ⟨((((l)[(at0).toNat]'hx4_2).t.keys).take (((((l)[(at0).toNat]'hx4_2).t.keys.length + 1) / 2))), (((l)[(at0).toNat]'hx4_2).t.keys)[((((l)[(at0).toNat]'hx4_2).t.keys.length + 1) / 2)]'hx7_10, (((l).length : Nat) : Int)⟩⟩ : LnkL)).flatMap encL) 4 0 hM7_6 rfl rfl rfl el28 rfl rfl rfl rfl rfl (by rw [flat_len encL_len]; simp; omega) (by simp) (spl_flat encL_len (l := L13_1 ++ [(⟨A16_5, c16_5, ⟨((((l)[(at0).toNat]'hx4_2).t.keys).drop (((((l)[(at0).toNat]'hx4_2).t.keys.length + 1) / 2))), ((l)[(at0).toNat]'hx4_2).t.high, ((l)[(at0).toNat]'hx4_2).t.right⟩⟩ : LnkL)]) (a := (⟨A17_6, c17_6, ⟨((((l)[(at0).toNat]'hx4_2).t.keys).take (((((l)[(at0).toNat]'hx4_2).t.keys.length + 1) / 2))), (((l)[(at0).toNat]'hx4_2).t.keys)[((((l)[(at0).toNat]'hx4_2).t.keys.length + 1) / 2)]'hx7_10, (((l).length : Nat) : Int)⟩⟩ : LnkL)) hx7_15) rfl (fun w7_16 (hM7_16 : Mem w w7_16 [] [[⟨.slice (A17_6) ((((((l)[(at0).toNat]'hx4_2).t.keys).take (((((l)[(at0).toNat]'hx4_2).t.keys.length + 1) / 2)))).length) (c17_6), 3, 1, ((((((l)[(at0).toNat]'hx4_2).t.keys).take (((((l)[(at0).toNat]'hx4_2).t.keys.length + 1) / 2)))).length), (((((l)[(at0).toNat]'hx4_2).t.keys).take (((((l)[(at0).toNat]'hx4_2).t.keys.length + 1) / 2)))).map I⟩], (L13_1 ++ [(⟨A16_5, c16_5, ⟨((((l)[(at0).toNat]'hx4_2).t.keys).drop (((((l)[(at0).toNat]'hx4_2).t.keys.length + 1) / 2))), ((l)[(at0).toNat]'hx4_2).t.high, ((l)[(at0).toNat]'hx4_2).t.right⟩⟩ : LnkL)]).map (keyF 3), [⟨.slice (bl b6_11) (1) (1), 28, 3, 1, ([(⟨A16_5, c16_5, ⟨((((l)[(at0).toNat]'hx4_2).t.keys).drop (((((l)[(at0).toNat]'hx4_2).t.keys.length + 1) / 2))), ((l)[(at0).toNat]'hx4_2).t.high, ((l)[(at0).toNat]'hx4_2).t.right⟩⟩ : LnkL)]).flatMap encL⟩], [⟨.slice (bl b4_4) 1 1, 28, 3, 1, [.slice (((l)[(at0).toNat]'hx4_2).A) (((l)[(at0).toNat]'hx4_2).t.keys.length) (((l)[(at0).toNat]'hx4_2).cp), I (((l)[(at0).toNat]'hx4_2).t.high), I (((l)[(at0).toNat]'hx4_2).t.right)]⟩], [⟨.slice (A6_12) ((L13_1 ++ [(⟨A16_5, c16_5, ⟨((((l)[(at0).toNat]'hx4_2).t.keys).drop (((((l)[(at0).toNat]'hx4_2).t.keys.length + 1) / 2))), ((l)[(at0).toNat]'hx4_2).t.high, ((l)[(at0).toNat]'hx4_2).t.right⟩⟩ : LnkL)]).length) (c6_12), 28, 3, ((L13_1 ++ [(⟨A16_5, c16_5, ⟨((((l)[(at0).toNat]'hx4_2).t.keys).drop (((((l)[(at0).toNat]'hx4_2).t.keys.length + 1) / 2))), ((l)[(at0).toNat]'hx4_2).t.high, ((l)[(at0).toNat]'hx4_2).t.right⟩⟩ : LnkL)]).length), ((L13_1 ++ [(⟨A16_5, c16_5, ⟨((((l)[(at0).toNat]'hx4_2).t.keys).drop (((((l)[(at0).toNat]'hx4_2).t.keys.length + 1) / 2))), ((l)[(at0).toNat]'hx4_2).t.high, ((l)[(at0).toNat]'hx4_2).t.right⟩⟩ : LnkL)]).set ((at0).toNat) (⟨A17_6, c17_6, ⟨((((l)[(at0).toNat]'hx4_2).t.keys).take (((((l)[(at0).toNat]'hx4_2).t.keys.length + 1) / 2))), (((l)[(at0).toNat]'hx4_2).t.keys)[((((l)[(at0).toNat]'hx4_2).t.keys.length + 1) / 2)]'hx7_10, (((l).length : Nat) : Int)⟩⟩ : LnkL)).flatMap encL⟩]]) => ?_)
              refine O.stop (hM7_16.pick [1, 2, 3] (by decide) rfl) ?_
              refine AO.nil (by kernel_rfl) ?_
              have hMk25 : Mem w w7_16 [] [((L13_1 ++ [(⟨A16_5, c16_5, ⟨((((l)[(at0).toNat]'hx4_2).t.keys).drop (((((l)[(at0).toNat]'hx4_2).t.keys.length + 1) / 2))), ((l)[(at0).toNat]'hx4_2).t.high, ((l)[(at0).toNat]'hx4_2).t.right⟩⟩ : LnkL)]).set ((at0).toNat) (⟨A17_6, c17_6, ⟨((((l)[(at0).toNat]'hx4_2).t.keys).take (((((l)[(at0).toNat]'hx4_2).t.keys.length + 1) / 2))), (((l)[(at0).toNat]'hx4_2).t.keys)[((((l)[(at0).toNat]'hx4_2).t.keys.length + 1) / 2)]'hx7_10, (((l).length : Nat) : Int)⟩⟩ : LnkL)).map (keyF 3), [⟨.slice (bl b6_11) (1) (1), 28, 3, 1, ([(⟨A16_5, c16_5, ⟨((((l)[(at0).toNat]'hx4_2).t.keys).drop (((((l)[(at0).toNat]'hx4_2).t.keys.length + 1) / 2))), ((l)[(at0).toNat]'hx4_2).t.high, ((l)[(at0).toNat]'hx4_2).t.right⟩⟩ : LnkL)]).flatMap encL⟩], [⟨.slice (bl b4_4) 1 1, 28, 3, 1, [.slice (((l)[(at0).toNat]'hx4_2).A) (((l)[(at0).toNat]'hx4_2).t.keys.length) (((l)[(at0).toNat]'hx4_2).cp), I (((l)[(at0).toNat]'hx4_2).t.high), I (((l)[(at0).toNat]'hx4_2).t.right)]⟩], [⟨.slice (A6_12) ((L13_1 ++ [(⟨A16_5, c16_5, ⟨((((l)[(at0).toNat]'hx4_2).t.keys).drop (((((l)[(at0).toNat]'hx4_2).t.keys.length + 1) / 2))), ((l)[(at0).toNat]'hx4_2).t.high, ((l)[(at0).toNat]'hx4_2).t.right⟩⟩ : LnkL)]).length) (c6_12), 28, 3, ((L13_1 ++ [(⟨A16_5, c16_5, ⟨((((l)[(at0).toNat]'hx4_2).t.keys).drop (((((l)[(at0).toNat]'hx4_2).t.keys.length + 1) / 2))), ((l)[(at0).toNat]'hx4_2).t.high, ((l)[(at0).toNat]'hx4_2).t.right⟩⟩ : LnkL)]).length), ((L13_1 ++ [(⟨A16_5, c16_5, ⟨((((l)[(at0).toNat]'hx4_2).t.keys).drop (((((l)[(at0).toNat]'hx4_2).t.keys.length + 1) / 2))), ((l)[(at0).toNat]'hx4_2).t.high, ((l)[(at0).toNat]'hx4_2).t.right⟩⟩ : LnkL)]).set ((at0).toNat) (⟨A17_6, c17_6, ⟨((((l)[(at0).toNat]'hx4_2).t.keys).take (((((l)[(at0).toNat]'hx4_2).t.keys.length + 1) / 2))), (((l)[(at0).toNat]'hx4_2).t.keys)[((((l)[(at0).toNat]'hx4_2).t.keys.length + 1) / 2)]'hx7_10, (((l).length : Nat) : Int)⟩⟩ : LnkL)).flatMap encL⟩]] := Mem.kset (l := L13_1 ++ [(⟨A16_5, c16_5, ⟨((((l)[(at0).toNat]'hx4_2).t.keys).drop (((((l)[(at0).toNat]'hx4_2).t.keys.length + 1) / 2))), ((l)[(at0).toNat]'hx4_2).t.high, ((l)[(at0).toNat]'hx4_2).t.right⟩⟩ : LnkL)]) (x := (⟨A17_6, c17_6, ⟨((((l)[(at0).toNat]'hx4_2).t.keys).take (((((l)[(at0).toNat]'hx4_2).t.keys.length + 1) / 2))), (((l)[(at0).toNat]'hx4_2).t.keys)[((((l)[(at0).toNat]'hx4_2).t.keys.length + 1) / 2)]'hx7_10, (((l).length : Nat) : Int)⟩⟩ : LnkL)) (M := [[⟨.slice (bl b6_11) (1) (1), 28, 3, 1, ([(⟨A16_5, c16_5, ⟨((((l)[(at0).toNat]'hx4_2).t.keys).drop (((((l)[(at0).toNat]'hx4_2).t.keys.length + 1) / 2))), ((l)[(at0).toNat]'hx4_2).t.high, ((l)[(at0).toNat]'hx4_2).t.right⟩⟩ : LnkL)]).flatMap encL⟩], [⟨.slice (bl b4_4) 1 1, 28, 3, 1, [.slice (((l)[(at0).toNat]'hx4_2).A) (((l)[(at0).toNat]'hx4_2).t.keys.length) (((l)[(at0).toNat]'hx4_2).cp), I (((l)[(at0).toNat]'hx4_2).t.high), I (((l)[(at0).toNat]'hx4_2).t.right)]⟩], [⟨.slice (A6_12) ((L13_1 ++ [(⟨A16_5, c16_5, ⟨((((l)[(at0).toNat]'hx4_2).t.keys).drop (((((l)[(at0).toNat]'hx4_2).t.keys.length + 1) / 2))), ((l)[(at0).toNat]'hx4_2).t.high, ((l)[(at0).toNat]'hx4_2).t.right⟩⟩ : LnkL)]).length) (c6_12), 28, 3, ((L13_1 ++ [(⟨A16_5, c16_5, ⟨((((l)[(at0).toNat]'hx4_2).t.keys).drop (((((l)[(at0).toNat]'hx4_2).t.keys.length + 1) / 2))), ((l)[(at0).toNat]'hx4_2).t.high, ((l)[(at0).toNat]'hx4_2).t.right⟩⟩ : LnkL)]).length), ((L13_1 ++ [(⟨A16_5, c16_5, ⟨((((l)[(at0).toNat]'hx4_2).t.keys).drop (((((l)[(at0).toNat]'hx4_2).t.keys.length + 1) / 2))), ((l)[(at0).toNat]'hx4_2).t.high, ((l)[(at0).toNat]'hx4_2).t.right⟩⟩ : LnkL)]).set ((at0).toNat) (⟨A17_6, c17_6, ⟨((((l)[(at0).toNat]'hx4_2).t.keys).take (((((l)[(at0).toNat]'hx4_2).t.keys.length + 1) / 2))), (((l)[(at0).toNat]'hx4_2).t.keys)[((((l)[(at0).toNat]'hx4_2).t.keys.length + 1) / 2)]'hx7_10, (((l).length : Nat) : Int)⟩⟩ : LnkL)).flatMap encL⟩]]) (hM7_16.pick [1, 0, 2, 3, 4] (by decide) rfl) ((at0).toNat)
              refine C.seq ?_
              refine C.region ?_
              refine O.val (v := .slice (A6_12) ((L13_1 ++ [(⟨A16_5, c16_5, ⟨((((l)[(at0).toNat]'hx4_2).t.keys).drop (((((l)[(at0).toNat]'hx4_2).t.keys.length + 1) / 2))), ((l)[(at0).toNat]'hx4_2).t.high, ((l)[(at0).toNat]'hx4_2).t.right⟩⟩ : LnkL)]).length) (c6_12)) rfl (Ru.move rfl) rfl ?_
              refine O.val (v := .slice (A6_12) ((L13_1 ++ [(⟨A16_5, c16_5, ⟨((((l)[(at0).toNat]'hx4_2).t.keys).drop (((((l)[(at0).toNat]'hx4_2).t.keys.length + 1) / 2))), ((l)[(at0).toNat]'hx4_2).t.high, ((l)[(at0).toNat]'hx4_2).t.right⟩⟩ : LnkL)]).length) (c6_12)) rfl (Ru.assign rfl) rfl ?_
              refine O.val (v := .bool (true)) rfl (Ru.assign rfl) rfl ?_
              refine O.nil ?_
              refine C.ret ?_
              refine P2 (v := .slice (A6_12) ((L13_1 ++ [(⟨A16_5, c16_5, ⟨((((l)[(at0).toNat]'hx4_2).t.keys).drop (((((l)[(at0).toNat]'hx4_2).t.keys.length + 1) / 2))), ((l)[(at0).toNat]'hx4_2).t.high, ((l)[(at0).toNat]'hx4_2).t.right⟩⟩ : LnkL)]).length) (c6_12)) (v' := .bool (true)) rfl rfl ?_
              have hq26 : ((L13_1 ++ [(⟨A16_5, c16_5, ⟨((((l)[(at0).toNat]'hx4_2).t.keys).drop (((((l)[(at0).toNat]'hx4_2).t.keys.length + 1) / 2))), ((l)[(at0).toNat]'hx4_2).t.high, ((l)[(at0).toNat]'hx4_2).t.right⟩⟩ : LnkL)]).set ((at0).toNat) (⟨A17_6, c17_6, ⟨((((l)[(at0).toNat]'hx4_2).t.keys).take (((((l)[(at0).toNat]'hx4_2).t.keys.length + 1) / 2))), (((l)[(at0).toNat]'hx4_2).t.keys)[((((l)[(at0).toNat]'hx4_2).t.keys.length + 1) / 2)]'hx7_10, (((l).length : Nat) : Int)⟩⟩ : LnkL) : List LnkL) = ((L13_1 ++ [(⟨A16_5, c16_5, ⟨((((l)[(at0).toNat]'hx4_2).t.keys).drop (((((l)[(at0).toNat]'hx4_2).t.keys.length + 1) / 2))), ((l)[(at0).toNat]'hx4_2).t.high, ((l)[(at0).toNat]'hx4_2).t.right⟩⟩ : LnkL)]).set ((at0).toNat) (⟨A17_6, c17_6, ⟨((((l)[(at0).toNat]'hx4_2).t.keys).take (((((l)[(at0).toNat]'hx4_2).t.keys.length + 1) / 2))), (((l)[(at0).toNat]'hx4_2).t.keys)[((((l)[(at0).toNat]'hx4_2).t.keys.length + 1) / 2)]'hx7_10, (((l).length : Nat) : Int)⟩⟩ : LnkL)) := (by first | rfl | simp | (simp; omega))
              have hMn26 : Mem w w7_16 [] [((L13_1 ++ [(⟨A16_5, c16_5, ⟨((((l)[(at0).toNat]'hx4_2).t.keys).drop (((((l)[(at0).toNat]'hx4_2).t.keys.length + 1) / 2))), ((l)[(at0).toNat]'hx4_2).t.high, ((l)[(at0).toNat]'hx4_2).t.right⟩⟩ : LnkL)]).set ((at0).toNat) (⟨A17_6, c17_6, ⟨((((l)[(at0).toNat]'hx4_2).t.keys).take (((((l)[(at0).toNat]'hx4_2).t.keys.length + 1) / 2))), (((l)[(at0).toNat]'hx4_2).t.keys)[((((l)[(at0).toNat]'hx4_2).t.keys.length + 1) / 2)]'hx7_10, (((l).length : Nat) : Int)⟩⟩ : LnkL)).map (keyF 3), [⟨.slice (bl b6_11) (1) (1), 28, 3, 1, ([(⟨A16_5, c16_5, ⟨((((l)[(at0).toNat]'hx4_2).t.keys).drop (((((l)[(at0).toNat]'hx4_2).t.keys.length + 1) / 2))), ((l)[(at0).toNat]'hx4_2).t.high, ((l)[(at0).toNat]'hx4_2).t.right⟩⟩ : LnkL)]).flatMap encL⟩], [⟨.slice (bl b4_4) 1 1, 28, 3, 1, [.slice (((l)[(at0).toNat]'hx4_2).A) (((l)[(at0).toNat]'hx4_2).t.keys.length) (((l)[(at0).toNat]'hx4_2).cp), I (((l)[(at0).toNat]'hx4_2).t.high), I (((l)[(at0).toNat]'hx4_2).t.right)]⟩], [⟨.slice (A6_12) (((L13_1 ++ [(⟨A16_5, c16_5, ⟨((((l)[(at0).toNat]'hx4_2).t.keys).drop (((((l)[(at0).toNat]'hx4_2).t.keys.length + 1) / 2))), ((l)[(at0).toNat]'hx4_2).t.high, ((l)[(at0).toNat]'hx4_2).t.right⟩⟩ : LnkL)]).set ((at0).toNat) (⟨A17_6, c17_6, ⟨((((l)[(at0).toNat]'hx4_2).t.keys).take (((((l)[(at0).toNat]'hx4_2).t.keys.length + 1) / 2))), (((l)[(at0).toNat]'hx4_2).t.keys)[((((l)[(at0).toNat]'hx4_2).t.keys.length + 1) / 2)]'hx7_10, (((l).length : Nat) : Int)⟩⟩ : LnkL)).length) (c6_12), 28, 3, (((L13_1 ++ [(⟨A16_5, c16_5, ⟨((((l)[(at0).toNat]'hx4_2).t.keys).drop (((((l)[(at0).toNat]'hx4_2).t.keys.length + 1) / 2))), ((l)[(at0).toNat]'hx4_2).t.high, ((l)[(at0).toNat]'hx4_2).t.right⟩⟩ : LnkL)]).set ((at0).toNat) (⟨A17_6, c17_6, ⟨((((l)[(at0).toNat]'hx4_2).t.keys).take (((((l)[(at0).toNat]'hx4_2).t.keys.length + 1) / 2))), (((l)[(at0).toNat]'hx4_2).t.keys)[((((l)[(at0).toNat]'hx4_2).t.keys.length + 1) / 2)]'hx7_10, (((l).length : Nat) : Int)⟩⟩ : LnkL)).length), (((L13_1 ++ [(⟨A16_5, c16_5, ⟨((((l)[(at0).toNat]'hx4_2).t.keys).drop (((((l)[(at0).toNat]'hx4_2).t.keys.length + 1) / 2))), ((l)[(at0).toNat]'hx4_2).t.high, ((l)[(at0).toNat]'hx4_2).t.right⟩⟩ : LnkL)]).set ((at0).toNat) (⟨A17_6, c17_6, ⟨((((l)[(at0).toNat]'hx4_2).t.keys).take (((((l)[(at0).toNat]'hx4_2).t.keys.length + 1) / 2))), (((l)[(at0).toNat]'hx4_2).t.keys)[((((l)[(at0).toNat]'hx4_2).t.keys.length + 1) / 2)]'hx7_10, (((l).length : Nat) : Int)⟩⟩ : LnkL))).flatMap encL⟩]] := hMk25.relen 3 (n' := ((L13_1 ++ [(⟨A16_5, c16_5, ⟨((((l)[(at0).toNat]'hx4_2).t.keys).drop (((((l)[(at0).toNat]'hx4_2).t.keys.length + 1) / 2))), ((l)[(at0).toNat]'hx4_2).t.high, ((l)[(at0).toNat]'hx4_2).t.right⟩⟩ : LnkL)]).set ((at0).toNat) (⟨A17_6, c17_6, ⟨((((l)[(at0).toNat]'hx4_2).t.keys).take (((((l)[(at0).toNat]'hx4_2).t.keys.length + 1) / 2))), (((l)[(at0).toNat]'hx4_2).t.keys)[((((l)[(at0).toNat]'hx4_2).t.keys.length + 1) / 2)]'hx7_10, (((l).length : Nat) : Int)⟩⟩ : LnkL)).length) (xs' := (((L13_1 ++ [(⟨A16_5, c16_5, ⟨((((l)[(at0).toNat]'hx4_2).t.keys).drop (((((l)[(at0).toNat]'hx4_2).t.keys.length + 1) / 2))), ((l)[(at0).toNat]'hx4_2).t.high, ((l)[(at0).toNat]'hx4_2).t.right⟩⟩ : LnkL)]).set ((at0).toNat) (⟨A17_6, c17_6, ⟨((((l)[(at0).toNat]'hx4_2).t.keys).take (((((l)[(at0).toNat]'hx4_2).t.keys.length + 1) / 2))), (((l)[(at0).toNat]'hx4_2).t.keys)[((((l)[(at0).toNat]'hx4_2).t.keys.length + 1) / 2)]'hx7_10, (((l).length : Nat) : Int)⟩⟩ : LnkL))).flatMap encL) rfl (by first | rfl | exact congrArg List.length hq26 | (have hqq := congrArg List.length hq26; first | omega | (simp at hqq ⊢; omega)) | (simp; done) | (simp; omega)) (congrArg (fun z_ => (z_).flatMap encL) hq26) rfl
              exact ⟨(L13_1 ++ [(⟨A16_5, c16_5, ⟨((((l)[(at0).toNat]'hx4_2).t.keys).drop (((((l)[(at0).toNat]'hx4_2).t.keys.length + 1) / 2))), ((l)[(at0).toNat]'hx4_2).t.high, ((l)[(at0).toNat]'hx4_2).t.right⟩⟩ : LnkL)]).set ((at0).toNat) (⟨A17_6, c17_6, ⟨((((l)[(at0).toNat]'hx4_2).t.keys).take (((((l)[(at0).toNat]'hx4_2).t.keys.length + 1) / 2))), (((l)[(at0).toNat]'hx4_2).t.keys)[((((l)[(at0).toNat]'hx4_2).t.keys.length + 1) / 2)]'hx7_10, (((l).length : Nat) : Int)⟩⟩ : LnkL), A6_12, c6_12, (by rw [hs]; first | rfl | simp), (by rw [hs, Option.getD_some]; exact spl_ts hat hts3_1 (by simp only [splY, midK]; rw [getD_lt hx7_10]) rfl), (hMn26.pick [3, 0] (by decide) rfl)⟩

set_option maxHeartbeats 2000000 in
theorem sSplitLink_fn (A : Option Addr) (c : Nat) (l : List LnkL) (at0 : Int) (w : World) (hA : Rd w A ((l).flatMap encL)) (hNA : Nst w l) (hl : l.length ≤ 1048576) (hcp : ∀ x ∈ l, x.t.keys.length ≤ x.cp) :
    Does Try.prog 30 [.slice (A) ((l).length) (c), I (at0)] w (fun v w1 => ∃ (L1 : List LnkL) (A1 : Option Addr) (c1 : Nat), v = .tuple #[.slice (A1) ((L1).length) (c1), .bool ((splitF (tsL l) at0).isSome)] ∧ (tsL L1 = (splitF (tsL l) at0).getD []) ∧ Mem w w1 [] [[⟨.slice (A1) ((L1).length) (c1), 28, 3, ((L1).length), (L1).flatMap encL⟩], (L1).map (keyF 3)]) := by
  have hM : Mem w w [] [] := Mem.refl
  refine Does.enter2 Try.func30 rfl Try.results30 Try.ntmps30 rfl ?_
  refine C.seq ?_
  refine C.region ?_
  refine O.val (v := .slice (none) (0) (0)) rfl (Ru.assign rfl) rfl ?_
  refine O.val (v := .bool (false)) rfl (Ru.assign rfl) rfl ?_
  refine O.nil ?_
  refine C.seq ?_
  refine C.seq ?_
  refine C.region ?_
  refine O.val (v := .slice (A) ((l).length) (c)) rfl (Ru.move rfl) rfl ?_
  refine O.callg [.slice (A) ((l).length) (c)] rfl en44 rfl rfl (svalidChain_fn A c l w (hA.at hM) (hNA.at hM) (by first | omega | assumption | (simp; omega) | simp | (intros; omega))) ?_
  rintro _ w1_1 ⟨rfl, hR1_1⟩
  have hM1_1 : Mem w w1_1 [] [] := Mem.call (Ma := []) hM hR1_1 rfl
  refine O.val (v := .bool (!(validC (tsL l)))) rfl (Ru.not rfl) rfl ?_
  refine O.val (v := .bool (!(validC (tsL l)))) rfl (Ru.move rfl) rfl ?_
  refine O.part 11 (!(validC (tsL l))) rfl (fun g11 => ?_) (fun g11 => ?_)
  · refine O.pass rfl rfl rfl rfl rfl ?_
    refine O.pass rfl rfl rfl rfl rfl ?_
    refine O.pass rfl rfl rfl rfl rfl ?_
    refine O.pass rfl rfl rfl rfl rfl ?_
    refine O.pass rfl rfl rfl rfl rfl ?_
    refine O.pass rfl rfl rfl rfl rfl ?_
    refine O.val (v := .bool (true)) rfl (Ru.pickT rfl rfl) rfl ?_
    refine O.val (v := .bool (true)) rfl (Ru.move rfl) rfl ?_
    refine O.pass rfl rfl rfl rfl rfl ?_
    refine O.pass rfl rfl rfl rfl rfl ?_
    refine O.pass rfl rfl rfl rfl rfl ?_
    refine O.pass rfl rfl rfl rfl rfl ?_
    refine O.pass rfl rfl rfl rfl rfl ?_
    refine O.pass rfl rfl rfl rfl rfl ?_
    refine O.pass rfl rfl rfl rfl rfl ?_
    refine O.val (v := .bool (true)) rfl (Ru.pickT rfl rfl) rfl ?_
    refine O.val (v := .bool (true)) rfl (Ru.move rfl) rfl ?_
    refine O.pass rfl rfl rfl rfl rfl ?_
    refine O.pass rfl rfl rfl rfl rfl ?_
    refine O.pass rfl rfl rfl rfl rfl ?_
    refine O.val (v := .bool (true)) rfl (Ru.pickT rfl rfl) rfl ?_
    refine O.nil ?_
    refine C.condT rfl ?_
    refine C.seq ?_
    refine C.region ?_
    refine O.val (v := .slice (none) (0) (0)) rfl (Ru.assign rfl) rfl ?_
    refine O.val (v := .bool (false)) rfl (Ru.assign rfl) rfl ?_
    refine O.nil ?_
    refine C.ret ?_
    refine P2 (v := .slice (none) (0) (0)) (v' := .bool (false)) rfl rfl ?_
    have hno : splOk (tsL l) at0 = false := by cases hh : splOk (tsL l) at0 with | false => rfl | true => (exfalso; obtain ⟨a1, ⟨a2, a3⟩, a4, a5⟩ := splOk_iff.1 hh; simp at a3 a5; have a6 : at0.toNat < l.length := (by omega); rw [gL_ts a6] at a4; first | omega | (simp [a1] at g11; done) | (simp at g19; omega))
    have hs := split_no hno
    have hMn1 : Mem w w1_1 [] [[⟨.slice (none) (0) (0), 28, 3, 0, ([]).flatMap encL⟩]] := Mem.addNil hM1_1
    have hq2 : ([] : List LnkL) = ([] : List LnkL) := (by first | rfl | simp | (simp; omega))
    have hMn2 : Mem w w1_1 [] [[⟨.slice (none) ((([] : List LnkL)).length) (0), 28, 3, ((([] : List LnkL)).length), (([] : List LnkL)).flatMap encL⟩]] := hMn1.relen 0 (n' := (([] : List LnkL)).length) (xs' := (([] : List LnkL)).flatMap encL) rfl (by first | rfl | exact congrArg List.length hq2 | (have hqq := congrArg List.length hq2; first | omega | (simp at hqq ⊢; omega)) | (simp; done) | (simp; omega)) (congrArg (fun z_ => (z_).flatMap encL) hq2) rfl
    have hMn3 : Mem w w1_1 [] [(([] : List LnkL)).map (keyF 3), [⟨.slice (none) ((([] : List LnkL)).length) (0), 28, 3, ((([] : List LnkL)).length), (([] : List LnkL)).flatMap encL⟩]] := Mem.knil hMn2
    exact ⟨([] : List LnkL), none, 0, (by rw [hs]; rfl), (by rw [hs]; rfl), (hMn3.pick [1, 0] (by decide) rfl)⟩
  · refine O.val (v := I (at0)) rfl (Ru.move rfl) rfl ?_
    refine O.val (v := .slice (A) ((l).length) (c)) rfl (Ru.move rfl) rfl ?_
    refine O.val (v := I ((((l).length : Nat) : Int))) rfl (Ru.blenSlice Try.underlying23 rfl) rfl ?_
    refine O.val (v := I (((((l).length : Nat) : Int) - 1))) rfl (Ru.sub rfl rfl (by omega)) rfl ?_
    refine O.callg [I (at0), I (0), I (((((l).length : Nat) : Int) - 1))] rfl en48 rfl rfl (inRange_fn at0 0 ((((l).length : Nat) : Int) - 1) w1_1 ) ?_
    rintro _ w1_8 ⟨rfl, hR1_8⟩
    have hM1_8 : Mem w w1_8 [] [] := Mem.call (Ma := []) hM1_1 hR1_8 rfl
    refine O.val (v := .bool (!(decide (0 ≤ at0) && decide (at0 ≤ ((((l).length : Nat) : Int) - 1))))) rfl (Ru.not rfl) rfl ?_
    refine O.val (v := .bool (!(decide (0 ≤ at0) && decide (at0 ≤ ((((l).length : Nat) : Int) - 1))))) rfl (Ru.pickF rfl rfl) rfl ?_
    refine O.val (v := .bool (!(decide (0 ≤ at0) && decide (at0 ≤ ((((l).length : Nat) : Int) - 1))))) rfl (Ru.move rfl) rfl ?_
    refine O.part 19 (!(decide (0 ≤ at0) && decide (at0 ≤ ((((l).length : Nat) : Int) - 1)))) rfl (fun g19 => ?_) (fun g19 => ?_)
    · refine O.pass rfl rfl rfl rfl rfl ?_
      refine O.pass rfl rfl rfl rfl rfl ?_
      refine O.pass rfl rfl rfl rfl rfl ?_
      refine O.pass rfl rfl rfl rfl rfl ?_
      refine O.pass rfl rfl rfl rfl rfl ?_
      refine O.pass rfl rfl rfl rfl rfl ?_
      refine O.pass rfl rfl rfl rfl rfl ?_
      refine O.val (v := .bool (true)) rfl (Ru.pickT rfl rfl) rfl ?_
      refine O.val (v := .bool (true)) rfl (Ru.move rfl) rfl ?_
      refine O.pass rfl rfl rfl rfl rfl ?_
      refine O.pass rfl rfl rfl rfl rfl ?_
      refine O.pass rfl rfl rfl rfl rfl ?_
      refine O.val (v := .bool (true)) rfl (Ru.pickT rfl rfl) rfl ?_
      refine O.nil ?_
      refine C.condT rfl ?_
      refine C.seq ?_
      refine C.region ?_
      refine O.val (v := .slice (none) (0) (0)) rfl (Ru.assign rfl) rfl ?_
      refine O.val (v := .bool (false)) rfl (Ru.assign rfl) rfl ?_
      refine O.nil ?_
      refine C.ret ?_
      refine P2 (v := .slice (none) (0) (0)) (v' := .bool (false)) rfl rfl ?_
      have hno : splOk (tsL l) at0 = false := by cases hh : splOk (tsL l) at0 with | false => rfl | true => (exfalso; obtain ⟨a1, ⟨a2, a3⟩, a4, a5⟩ := splOk_iff.1 hh; simp at a3 a5; have a6 : at0.toNat < l.length := (by omega); rw [gL_ts a6] at a4; first | omega | (simp [a1] at g11; done) | (simp at g19; omega))
      have hs := split_no hno
      have hMn5 : Mem w w1_8 [] [[⟨.slice (none) (0) (0), 28, 3, 0, ([]).flatMap encL⟩]] := Mem.addNil hM1_8
      have hq6 : ([] : List LnkL) = ([] : List LnkL) := (by first | rfl | simp | (simp; omega))
      have hMn6 : Mem w w1_8 [] [[⟨.slice (none) ((([] : List LnkL)).length) (0), 28, 3, ((([] : List LnkL)).length), (([] : List LnkL)).flatMap encL⟩]] := hMn5.relen 0 (n' := (([] : List LnkL)).length) (xs' := (([] : List LnkL)).flatMap encL) rfl (by first | rfl | exact congrArg List.length hq6 | (have hqq := congrArg List.length hq6; first | omega | (simp at hqq ⊢; omega)) | (simp; done) | (simp; omega)) (congrArg (fun z_ => (z_).flatMap encL) hq6) rfl
      have hMn7 : Mem w w1_8 [] [(([] : List LnkL)).map (keyF 3), [⟨.slice (none) ((([] : List LnkL)).length) (0), 28, 3, ((([] : List LnkL)).length), (([] : List LnkL)).flatMap encL⟩]] := Mem.knil hMn6
      exact ⟨([] : List LnkL), none, 0, (by rw [hs]; rfl), (by rw [hs]; rfl), (hMn7.pick [1, 0] (by decide) rfl)⟩
    · have hr8 := g19
      simp only [Bool.not_eq_false', Bool.and_eq_true, decide_eq_true_eq] at hr8
      refine O.val (v := .slice (A) ((l).length) (c)) rfl (Ru.move rfl) rfl ?_
      refine O.val (v := I (at0)) rfl (Ru.move rfl) rfl ?_
      have hx1_14 : (at0).toNat < (l).length := (by first | omega | (simp; omega))
      refine O.val (v := .pointer (ofs (A) (((at0).toNat) * 3))) rfl (Ru.indexA (j := (at0).toNat) Try.underlying23 el28 rfl rfl (smf encL_len (hA.at hM1_8) hx1_14 rfl) (by omega) (by first | omega | (simp; omega))) rfl ?_
      refine O.val (v := .pointer (ofs (A) (((at0).toNat) * 3 + 0))) rfl (Ru.fieldA fl28_0 rfl (smf encL_len (hA.at hM1_8) hx1_14 rfl)) rfl ?_
      refine O.val rfl (Ru.load1 el26 rfl (ldf encL_len (hA.at hM1_8) hx1_14 rfl)) rfl ?_
      refine O.val (v := I (((((l)[(at0).toNat]'hx1_14).t.keys.length : Nat) : Int))) rfl (Ru.blenSlice Try.underlying26 rfl) rfl ?_
      refine O.val (v := .bool (decide (((((l)[(at0).toNat]'hx1_14).t.keys.length : Nat) : Int) < 2))) rfl (Ru.lss rfl rfl) rfl ?_
      refine O.val (v := .bool (decide (((((l)[(at0).toNat]'hx1_14).t.keys.length : Nat) : Int) < 2))) rfl (Ru.pickF rfl rfl) rfl ?_
      refine O.val (v := .bool (decide (((((l)[(at0).toNat]'hx1_14).t.keys.length : Nat) : Int) < 2))) rfl (Ru.move rfl) rfl ?_
      refine O.partp 28 (((((l)[(at0).toNat]'hx1_14).t.keys.length : Nat) : Int) < 2) rfl (fun g28 => ?_) (fun g28 => ?_)
      · refine O.pass rfl rfl rfl rfl rfl ?_
        refine O.pass rfl rfl rfl rfl rfl ?_
        refine O.pass rfl rfl rfl rfl rfl ?_
        refine O.val (v := .bool (true)) rfl (Ru.pickT rfl rfl) rfl ?_
        refine O.nil ?_
        refine C.condT rfl ?_
        refine C.seq ?_
        refine C.region ?_
        refine O.val (v := .slice (none) (0) (0)) rfl (Ru.assign rfl) rfl ?_
        refine O.val (v := .bool (false)) rfl (Ru.assign rfl) rfl ?_
        refine O.nil ?_
        refine C.ret ?_
        refine P2 (v := .slice (none) (0) (0)) (v' := .bool (false)) rfl rfl ?_
        have hno : splOk (tsL l) at0 = false := by cases hh : splOk (tsL l) at0 with | false => rfl | true => (exfalso; obtain ⟨a1, ⟨a2, a3⟩, a4, a5⟩ := splOk_iff.1 hh; simp at a3 a5; have a6 : at0.toNat < l.length := (by omega); rw [gL_ts a6] at a4; first | omega | (simp [a1] at g11; done) | (simp at g19; omega))
        have hs := split_no hno
        have hMn9 : Mem w w1_8 [] [[⟨.slice (none) (0) (0), 28, 3, 0, ([]).flatMap encL⟩]] := Mem.addNil hM1_8
        have hq10 : ([] : List LnkL) = ([] : List LnkL) := (by first | rfl | simp | (simp; omega))
        have hMn10 : Mem w w1_8 [] [[⟨.slice (none) ((([] : List LnkL)).length) (0), 28, 3, ((([] : List LnkL)).length), (([] : List LnkL)).flatMap encL⟩]] := hMn9.relen 0 (n' := (([] : List LnkL)).length) (xs' := (([] : List LnkL)).flatMap encL) rfl (by first | rfl | exact congrArg List.length hq10 | (have hqq := congrArg List.length hq10; first | omega | (simp at hqq ⊢; omega)) | (simp; done) | (simp; omega)) (congrArg (fun z_ => (z_).flatMap encL) hq10) rfl
        have hMn11 : Mem w w1_8 [] [(([] : List LnkL)).map (keyF 3), [⟨.slice (none) ((([] : List LnkL)).length) (0), 28, 3, ((([] : List LnkL)).length), (([] : List LnkL)).flatMap encL⟩]] := Mem.knil hMn10
        exact ⟨([] : List LnkL), none, 0, (by rw [hs]; rfl), (by rw [hs]; rfl), (hMn11.pick [1, 0] (by decide) rfl)⟩
      · refine O.val (v := .slice (A) ((l).length) (c)) rfl (Ru.move rfl) rfl ?_
        refine O.val (v := I ((((l).length : Nat) : Int))) rfl (Ru.blenSlice Try.underlying23 rfl) rfl ?_
        refine O.val (v := .bool (decide ((((l).length : Nat) : Int) = 16))) rfl (Ru.eql rfl rfl) rfl ?_
        refine O.val (v := .bool (decide ((((l).length : Nat) : Int) = 16))) rfl (Ru.pickF rfl rfl) rfl ?_
        refine O.nil ?_
        refine C.cond (p := (((l).length : Nat) : Int) = 16) rfl (fun c32 => ?_) (fun c32 => ?_)
        · refine C.seq ?_
          refine C.region ?_
          refine O.val (v := .slice (none) (0) (0)) rfl (Ru.assign rfl) rfl ?_
          refine O.val (v := .bool (false)) rfl (Ru.assign rfl) rfl ?_
          refine O.nil ?_
          refine C.ret ?_
          refine P2 (v := .slice (none) (0) (0)) (v' := .bool (false)) rfl rfl ?_
          have hno : splOk (tsL l) at0 = false := by cases hh : splOk (tsL l) at0 with | false => rfl | true => (exfalso; obtain ⟨a1, ⟨a2, a3⟩, a4, a5⟩ := splOk_iff.1 hh; simp at a3 a5; have a6 : at0.toNat < l.length := (by omega); rw [gL_ts a6] at a4; first | omega | (simp [a1] at g11; done) | (simp at g19; omega))
          have hs := split_no hno
          have hMn13 : Mem w w1_8 [] [[⟨.slice (none) (0) (0), 28, 3, 0, ([]).flatMap encL⟩]] := Mem.addNil hM1_8
          have hq14 : ([] : List LnkL) = ([] : List LnkL) := (by first | rfl | simp | (simp; omega))
          have hMn14 : Mem w w1_8 [] [[⟨.slice (none) ((([] : List LnkL)).length) (0), 28, 3, ((([] : List LnkL)).length), (([] : List LnkL)).flatMap encL⟩]] := hMn13.relen 0 (n' := (([] : List LnkL)).length) (xs' := (([] : List LnkL)).flatMap encL) rfl (by first | rfl | exact congrArg List.length hq14 | (have hqq := congrArg List.length hq14; first | omega | (simp at hqq ⊢; omega)) | (simp; done) | (simp; omega)) (congrArg (fun z_ => (z_).flatMap encL) hq14) rfl
          have hMn15 : Mem w w1_8 [] [(([] : List LnkL)).map (keyF 3), [⟨.slice (none) ((([] : List LnkL)).length) (0), 28, 3, ((([] : List LnkL)).length), (([] : List LnkL)).flatMap encL⟩]] := Mem.knil hMn14
          exact ⟨([] : List LnkL), none, 0, (by rw [hs]; rfl), (by rw [hs]; rfl), (hMn15.pick [1, 0] (by decide) rfl)⟩
        · have hr9 : 0 ≤ at0 ∧ at0 ≤ (l.length : Int) - 1 := by simp_all
          have hv : validC (tsL l) = true := by simp_all
          have hat : at0.toNat < l.length := by omega
          have hok : splOk (tsL l) at0 = true := splOk_iff.2 ⟨hv, ⟨by omega, by simp; omega⟩, by rw [gL_ts hat]; omega, by simp; omega⟩
          have hs := split_yes hok
          have hk4 := (valid_all hv _ (List.getElem_mem hat)).1
          have hcp1 := hcp _ (List.getElem_mem hat)
          refine C.skip ?_
          refine C.seq ?_
          refine C.region ?_
          refine O.val (v := .slice (A) ((l).length) (c)) rfl (Ru.move rfl) rfl ?_
          refine O.callg [.slice (A) ((l).length) (c)] rfl en51 rfl rfl (scopyChain_fn A c l w1_8 (hA.at hM1_8) (hNA.at hM1_8) (by first | omega | assumption | (simp; omega) | simp | (intros; omega)) (by exact valid_1m hv)) ?_
          rintro _ w3_1 ⟨L13_1, A13_1, c13_1, rfl, hts3_1, hR3_1⟩
          have hM3_1 : Mem w w3_1 [] [[⟨.slice (A13_1) ((L13_1).length) (c13_1), 28, 3, ((L13_1).length), (L13_1).flatMap encL⟩], (L13_1).map (keyF 3)] := Mem.call (Ma := []) hM1_8 hR3_1 rfl
          have hcr3_1_0 := (hM3_1.cap 0 rfl).1
          have hLl := ts_eq_len hts3_1
          refine O.val (v := .slice (A13_1) ((L13_1).length) (c13_1)) rfl (Ru.assign rfl) rfl ?_
          refine O.nil ?_
          refine C.seq ?_
          refine C.region ?_
          refine O.val (v := .slice (A) ((l).length) (c)) rfl (Ru.move rfl) rfl ?_
          refine O.val (v := I (at0)) rfl (Ru.move rfl) rfl ?_
          have hx4_2 : (at0).toNat < (l).length := (by first | omega | (simp; omega))
          refine O.val (v := .pointer (ofs (A) (((at0).toNat) * 3))) rfl (Ru.indexA (j := (at0).toNat) Try.underlying23 el28 rfl rfl (smf encL_len (hA.at hM3_1) hx4_2 rfl) (by omega) (by first | omega | (simp; omega))) rfl ?_
          refine O.val (v := .pointer (ofs (A) (((at0).toNat) * 3 + 0))) rfl (Ru.fieldA fl28_0 rfl (smf encL_len (hA.at hM3_1) hx4_2 rfl)) rfl ?_
          refine O.val rfl (Ru.load1 el26 rfl (ldf encL_len (hA.at hM3_1) hx4_2 rfl)) rfl ?_
          refine O.val (v := I (((((l)[(at0).toNat]'hx4_2).t.keys.length : Nat) : Int))) rfl (Ru.blenSlice Try.underlying26 rfl) rfl ?_
          refine O.val (v := I ((((((l)[(at0).toNat]'hx4_2).t.keys.length + 1) : Nat) : Int))) rfl (Ru.congr (v := I ((((((l)[(at0).toNat]'hx4_2).t.keys.length : Nat) : Int) + 1))) (v' := I ((((((l)[(at0).toNat]'hx4_2).t.keys.length + 1) : Nat) : Int))) (Ru.add rfl rfl (by omega)) (I_congr (by first | omega | simp))) rfl ?_
          refine O.val (v := I (((((((l)[(at0).toNat]'hx4_2).t.keys.length + 1) / 2) : Nat) : Int))) rfl (Ru.congr (v := I (((((((l)[(at0).toNat]'hx4_2).t.keys.length + 1) : Nat) : Int) / 2))) (v' := I (((((((l)[(at0).toNat]'hx4_2).t.keys.length + 1) / 2) : Nat) : Int))) (Ru.quo rfl rfl (by omega)) (I_congr (by first | omega | simp))) rfl ?_
          refine O.val (v := I (((((((l)[(at0).toNat]'hx4_2).t.keys.length + 1) / 2) : Nat) : Int))) rfl (Ru.assign rfl) rfl ?_
          refine O.nil ?_
          refine C.seq ?_
          refine C.any (f := 23) (ls := [false, false, false, false, false, false, false, false, false, false, false, false, false, false, false, false, false, false, false, false, false, false, false]) (fun w2 => Mem w w2 [] [(L13_1).map (keyF 3)]) mixed rfl rfl (fun w2 hw2 => Mem0.ext (hM3_1.pick [1] (by decide) rfl) hw2) (fun w5a hE5a => ?_)
          have hM5a : Mem w w5a [] [[⟨.slice (A13_1) ((L13_1).length) (c13_1), 28, 3, ((L13_1).length), (L13_1).flatMap encL⟩], (L13_1).map (keyF 3)] := Mem0.ext hM3_1 hE5a
          refine AO.val (v := .slice (A13_1) ((L13_1).length) (c13_1)) 0 (ls' := [true, false, false, false, false, false, false, false, false, false, false, false, false, false, false, false, false, false, false, false, false, false, false]) rfl (by kernel_rfl) rfl rfl (fun w2 hw2 => Ru.move rfl) rfl ?_
          refine AO.val (v := I (at0)) 1 (ls' := [true, true, false, false, false, false, false, false, false, false, false, false, false, false, false, false, false, false, false, false, false, false, false]) rfl (by kernel_rfl) rfl rfl (fun w2 hw2 => Ru.move rfl) rfl ?_
          refine AO.val (v := .slice (A) ((l).length) (c)) 2 (ls' := [true, true, true, false, false, false, false, false, false, false, false, false, false, false, false, false, false, false, false, false, false, false, false]) rfl (by kernel_rfl) rfl rfl (fun w2 hw2 => Ru.move rfl) rfl ?_
          refine AO.val (v := I (at0)) 3 (ls' := [true, true, true, true, false, false, false, false, false, false, false, false, false, false, false, false, false, false, false, false, false, false, false]) rfl (by kernel_rfl) rfl rfl (fun w2 hw2 => Ru.move rfl) rfl ?_
          have hx5_4 : (at0).toNat < (l).length := (by first | omega | (simp; omega))
          refine AO.val (v := .pointer (ofs (A) (((at0).toNat) * 3))) 4 (ls' := [true, true, true, true, true, false, false, false, false, false, false, false, false, false, false, false, false, false, false, false, false, false, false]) rfl (by kernel_rfl) rfl rfl (fun w2 hw2 => Ru.indexA (j := (at0).toNat) Try.underlying23 el28 rfl rfl (smf encL_len (hA.at hM5a) hx5_4 rfl) (by omega) (by first | omega | (simp; omega))) rfl ?_
          refine AO.val (v := .pointer (ofs (A) (((at0).toNat) * 3 + 0))) 5 (ls' := [true, true, true, true, true, true, false, false, false, false, false, false, false, false, false, false, false, false, false, false, false, false, false]) rfl (by kernel_rfl) rfl rfl (fun w2 hw2 => Ru.fieldA fl28_0 rfl (smf encL_len (hA.at hM5a) hx5_4 rfl)) rfl ?_
          refine AO.val (v := .slice (((l)[(at0).toNat]'hx5_4).A) (((l)[(at0).toNat]'hx5_4).t.keys.length) (((l)[(at0).toNat]'hx5_4).cp)) 6 (ls' := [true, true, true, true, true, true, true, false, false, false, false, false, false, false, false, false, false, false, false, false, false, false, false]) rfl (by kernel_rfl) rfl rfl (fun w2 hw2 => Ru.load1 el26 rfl (ldf encL_len (hA.at hw2) hx5_4 rfl)) rfl ?_
          refine AO.val (v := I (((((((l)[(at0).toNat]'hx4_2).t.keys.length + 1) / 2) : Nat) : Int))) 7 (ls' := [true, true, true, true, true, true, true, true, false, false, false, false, false, false, false, false, false, false, false, false, false, false, false]) rfl (by kernel_rfl) rfl rfl (fun w2 hw2 => Ru.move rfl) rfl ?_
          refine AO.val (v := .slice (((l)[(at0).toNat]'hx5_4).A) (((((l)[(at0).toNat]'hx5_4).t.keys).take (((((l)[(at0).toNat]'hx4_2).t.keys.length + 1) / 2))).length) (((l)[(at0).toNat]'hx5_4).cp)) 8 (ls' := [true, true, true, true, true, true, true, true, true, false, false, false, false, false, false, false, false, false, false, false, false, false, false]) rfl (by kernel_rfl) rfl rfl (fun w2 hw2 => Ru.congr (v := .slice (((l)[(at0).toNat]'hx5_4).A) (((((l)[(at0).toNat]'hx4_2).t.keys.length + 1) / 2)) (((l)[(at0).toNat]'hx5_4).cp)) (v' := .slice (((l)[(at0).toNat]'hx5_4).A) (((((l)[(at0).toNat]'hx5_4).t.keys).take (((((l)[(at0).toNat]'hx4_2).t.keys.length + 1) / 2))).length) (((l)[(at0).toNat]'hx5_4).cp)) (Ru.lsliceTo (h := ((((l)[(at0).toNat]'hx4_2).t.keys.length + 1) / 2)) Try.underlying26 el3 rfl rfl (by omega) (by first | omega | (simp; omega))) (sl_congr (by first | rfl | (simp; done) | omega | (simp; omega)))) rfl ?_
          refine AO.val (v := .slice (A) ((l).length) (c)) 10 (ls' := [true, true, true, true, true, true, true, true, true, false, true, false, false, false, false, false, false, false, false, false, false, false, false]) rfl (by kernel_rfl) rfl rfl (fun w2 hw2 => Ru.move rfl) rfl ?_
          refine AO.val (v := I (at0)) 11 (ls' := [true, true, true, true, true, true, true, true, true, false, true, true, false, false, false, false, false, false, false, false, false, false, false]) rfl (by kernel_rfl) rfl rfl (fun w2 hw2 => Ru.move rfl) rfl ?_
          have hx5_12 : (at0).toNat < (l).length := (by first | omega | (simp; omega))
          refine AO.val (v := .pointer (ofs (A) (((at0).toNat) * 3))) 12 (ls' := [true, true, true, true, true, true, true, true, true, false, true, true, true, false, false, false, false, false, false, false, false, false, false]) rfl (by kernel_rfl) rfl rfl (fun w2 hw2 => Ru.indexA (j := (at0).toNat) Try.underlying23 el28 rfl rfl (smf encL_len (hA.at hM5a) hx5_12 rfl) (by omega) (by first | omega | (simp; omega))) rfl ?_
          refine AO.val (v := .pointer (ofs (A) (((at0).toNat) * 3 + 0))) 13 (ls' := [true, true, true, true, true, true, true, true, true, false, true, true, true, true, false, false, false, false, false, false, false, false, false]) rfl (by kernel_rfl) rfl rfl (fun w2 hw2 => Ru.fieldA fl28_0 rfl (smf encL_len (hA.at hM5a) hx5_12 rfl)) rfl ?_
          refine AO.val (v := .slice (((l)[(at0).toNat]'hx5_12).A) (((l)[(at0).toNat]'hx5_12).t.keys.length) (((l)[(at0).toNat]'hx5_12).cp)) 14 (ls' := [true, true, true, true, true, true, true, true, true, false, true, true, true, true, true, false, false, false, false, false, false, false, false]) rfl (by kernel_rfl) rfl rfl (fun w2 hw2 => Ru.load1 el26 rfl (ldf encL_len (hA.at hw2) hx5_12 rfl)) rfl ?_
          refine AO.val (v := I (((((((l)[(at0).toNat]'hx4_2).t.keys.length + 1) / 2) : Nat) : Int))) 15 (ls' := [true, true, true, true, true, true, true, true, true, false, true, true, true, true, true, true, false, false, false, false, false, false, false]) rfl (by kernel_rfl) rfl rfl (fun w2 hw2 => Ru.move rfl) rfl ?_
          have hx5_16 : ((((l)[(at0).toNat]'hx4_2).t.keys.length + 1) / 2) < (((l)[(at0).toNat]'hx5_12).t.keys).length := (by first | omega | (simp; omega))
          refine AO.val (v := .pointer (ofs (((l)[(at0).toNat]'hx5_12).A) (((((l)[(at0).toNat]'hx4_2).t.keys.length + 1) / 2) * 1))) 16 (ls' := [true, true, true, true, true, true, true, true, true, false, true, true, true, true, true, true, true, false, false, false, false, false, false]) rfl (by kernel_rfl) rfl rfl (fun w2 hw2 => Ru.indexA (j := ((((l)[(at0).toNat]'hx4_2).t.keys.length + 1) / 2)) Try.underlying26 el3 rfl rfl (smm ((hNA.at hM5a).get hx5_12) hx5_16) (by omega) (by omega)) rfl ?_
          refine AO.val (v := .slice (A) ((l).length) (c)) 18 (ls' := [true, true, true, true, true, true, true, true, true, false, true, true, true, true, true, true, true, false, true, false, false, false, false]) rfl (by kernel_rfl) rfl rfl (fun w2 hw2 => Ru.move rfl) rfl ?_
          refine AO.val (v := I ((((l).length : Nat) : Int))) 19 (ls' := [true, true, true, true, true, true, true, true, true, false, true, true, true, true, true, true, true, false, true, true, false, false, false]) rfl (by kernel_rfl) rfl rfl (fun w2 hw2 => Ru.blenSlice Try.underlying23 rfl) rfl ?_
          refine AO.two 9 17 (by kernel_rfl) ?_ ?_
          · refine step1 (ls' := [true, true, true, true, true, true, true, true, true, true, true, true, true, true, true, true, true, false, true, true, false, false, false]) rfl rfl ?_
            refine O.callg [.slice (((l)[(at0).toNat]'hx5_4).A) (((((l)[(at0).toNat]'hx5_4).t.keys).take (((((l)[(at0).toNat]'hx4_2).t.keys.length + 1) / 2))).length) (((l)[(at0).toNat]'hx5_4).cp)] rfl en52 rfl rfl (scopyInts_fn (((l)[(at0).toNat]'hx5_4).A) (((l)[(at0).toNat]'hx5_4).cp) ((((l)[(at0).toNat]'hx5_4).t.keys).take (((((l)[(at0).toNat]'hx4_2).t.keys.length + 1) / 2))) w5a (rd_take1 ((hNA.at hM5a).get hx5_4)) (by simp; omega)) ?_
            rintro _ w5_9 ⟨A15_9, c15_9, rfl, hR5_9⟩
            have hM5_9 : Mem w w5_9 [] [[⟨.slice (A15_9) ((((((l)[(at0).toNat]'hx5_4).t.keys).take (((((l)[(at0).toNat]'hx4_2).t.keys.length + 1) / 2)))).length) (c15_9), 3, 1, ((((((l)[(at0).toNat]'hx5_4).t.keys).take (((((l)[(at0).toNat]'hx4_2).t.keys.length + 1) / 2)))).length), (((((l)[(at0).toNat]'hx5_4).t.keys).take (((((l)[(at0).toNat]'hx4_2).t.keys.length + 1) / 2)))).map I⟩], [⟨.slice (A13_1) ((L13_1).length) (c13_1), 28, 3, ((L13_1).length), (L13_1).flatMap encL⟩], (L13_1).map (keyF 3)] := Mem.call (Ma := []) hM5a hR5_9 rfl
            have hcr5_9_0 := (hM5_9.cap 0 rfl).1
            refine O.stop (hM5_9.pick [2] (by decide) rfl) ?_
            refine AO.one 17 (by kernel_rfl) ?_
            refine step1 (ls' := [true, true, true, true, true, true, true, true, true, true, true, true, true, true, true, true, true, true, true, true, false, false, false]) rfl rfl ?_
            refine O.val rfl (Ru.load1 el3 rfl (ldm ((hNA.at hM5_9).get hx5_12) hx5_16)) rfl ?_
            refine O.stop (hM5_9.pick [2] (by decide) rfl) ?_
            refine AO.val (v := .agg #[.slice (A15_9) ((((((l)[(at0).toNat]'hx5_4).t.keys).take (((((l)[(at0).toNat]'hx4_2).t.keys.length + 1) / 2)))).length) (c15_9), I ((((l)[(at0).toNat]'hx5_12).t.keys)[((((l)[(at0).toNat]'hx4_2).t.keys.length + 1) / 2)]'hx5_16), I ((((l).length : Nat) : Int))]) 20 (ls' := [true, true, true, true, true, true, true, true, true, true, true, true, true, true, true, true, true, true, true, true, true, false, false]) rfl (by kernel_rfl) rfl rfl (fun w2 hw2 => Ru.build of28 rfl rfl rfl) rfl ?_
            have hx5_21 : (at0).toNat < (L13_1).length := (by first | omega | (simp; omega))
            refine AO.val (v := .pointer (ofs (A13_1) (((at0).toNat) * 3))) 21 (ls' := [true, true, true, true, true, true, true, true, true, true, true, true, true, true, true, true, true, true, true, true, true, true, false]) rfl (by kernel_rfl) rfl rfl (fun w2 hw2 => Ru.indexA (j := (at0).toNat) Try.underlying23 el28 rfl rfl (smf encL_len (hM5_9.rd 1 rfl) hx5_21 rfl) (by omega) (by first | omega | (simp; omega))) rfl ?_
            refine AO.one 22 (by kernel_rfl) ?_
            refine step1 (ls' := [true, true, true, true, true, true, true, true, true, true, true, true, true, true, true, true, true, true, true, true, true, true, true]) rfl rfl ?_
            refine O.mstore (vs := [.slice (A15_9) ((((((l)[(at0).toNat]'hx5_4).t.keys).take (((((l)[(at0).toNat]'hx4_2).t.keys.length + 1) / 2)))).length) (c15_9), I ((((l)[(at0).toNat]'hx5_12).t.keys)[((((l)[(at0).toNat]'hx4_2).t.keys.length + 1) / 2)]'hx5_16), I ((((l).length : Nat) : Int))]) (xs' := ((L13_1).set ((at0).toNat) (⟨A15_9, c15_9, ⟨((((l)[(at0).toNat]'hx5_4).t.keys).take (((((l)[(at0).toNat]'hx4_2).t.keys.length + 1) / 2))), (((l)[(at0).toNat]'hx5_12).t.keys)[((((l)[(at0).toNat]'hx4_2).t.keys.length + 1) / 2)]'hx5_16, (((l).length : Nat) : Int)⟩⟩ : LnkL)).flatMap encL) 1 0 hM5_9 rfl rfl rfl el28 rfl rfl rfl rfl rfl (by rw [flat_len encL_len]; simp; omega) (by simp) (spl_flat encL_len (l := L13_1) (a := (⟨A15_9, c15_9, ⟨((((l)[(at0).toNat]'hx5_4).t.keys).take (((((l)[(at0).toNat]'hx4_2).t.keys.length + 1) / 2))), (((l)[(at0).toNat]'hx5_12).t.keys)[((((l)[(at0).toNat]'hx4_2).t.keys.length + 1) / 2)]'hx5_16, (((l).length : Nat) : Int)⟩⟩ : LnkL)) hx5_21) rfl (fun w5_22 (hM5_22 : Mem w w5_22 [] [[⟨.slice (A15_9) ((((((l)[(at0).toNat]'hx5_4).t.keys).take (((((l)[(at0).toNat]'hx4_2).t.keys.length + 1) / 2)))).length) (c15_9), 3, 1, ((((((l)[(at0).toNat]'hx5_4).t.keys).take (((((l)[(at0).toNat]'hx4_2).t.keys.length + 1) / 2)))).length), (((((l)[(at0).toNat]'hx5_4).t.keys).take (((((l)[(at0).toNat]'hx4_2).t.keys.length + 1) / 2)))).map I⟩], [⟨.slice (A13_1) ((L13_1).length) (c13_1), 28, 3, ((L13_1).length), ((L13_1).set ((at0).toNat) (⟨A15_9, c15_9, ⟨((((l)[(at0).toNat]'hx5_4).t.keys).take (((((l)[(at0).toNat]'hx4_2).t.keys.length + 1) / 2))), (((l)[(at0).toNat]'hx5_12).t.keys)[((((l)[(at0).toNat]'hx4_2).t.keys.length + 1) / 2)]'hx5_16, (((l).length : Nat) : Int)⟩⟩ : LnkL)).flatMap encL⟩], (L13_1).map (keyF 3)]) => ?_)
            refine O.stop (hM5_22.pick [2] (by decide) rfl) ?_
            refine AO.nil (by kernel_rfl) ?_
            have hMk17 : Mem w w5_22 [] [((L13_1).set ((at0).toNat) (⟨A15_9, c15_9, ⟨((((l)[(at0).toNat]'hx5_4).t.keys).take (((((l)[(at0).toNat]'hx4_2).t.keys.length + 1) / 2))), (((l)[(at0).toNat]'hx5_12).t.keys)[((((l)[(at0).toNat]'hx4_2).t.keys.length + 1) / 2)]'hx5_16, (((l).length : Nat) : Int)⟩⟩ : LnkL)).map (keyF 3), [⟨.slice (A13_1) ((L13_1).length) (c13_1), 28, 3, ((L13_1).length), ((L13_1).set ((at0).toNat) (⟨A15_9, c15_9, ⟨((((l)[(at0).toNat]'hx5_4).t.keys).take (((((l)[(at0).toNat]'hx4_2).t.keys.length + 1) / 2))), (((l)[(at0).toNat]'hx5_12).t.keys)[((((l)[(at0).toNat]'hx4_2).t.keys.length + 1) / 2)]'hx5_16, (((l).length : Nat) : Int)⟩⟩ : LnkL)).flatMap encL⟩]] := Mem.kset (l := L13_1) (x := (⟨A15_9, c15_9, ⟨((((l)[(at0).toNat]'hx5_4).t.keys).take (((((l)[(at0).toNat]'hx4_2).t.keys.length + 1) / 2))), (((l)[(at0).toNat]'hx5_12).t.keys)[((((l)[(at0).toNat]'hx4_2).t.keys.length + 1) / 2)]'hx5_16, (((l).length : Nat) : Int)⟩⟩ : LnkL)) (M := [[⟨.slice (A13_1) ((L13_1).length) (c13_1), 28, 3, ((L13_1).length), ((L13_1).set ((at0).toNat) (⟨A15_9, c15_9, ⟨((((l)[(at0).toNat]'hx5_4).t.keys).take (((((l)[(at0).toNat]'hx4_2).t.keys.length + 1) / 2))), (((l)[(at0).toNat]'hx5_12).t.keys)[((((l)[(at0).toNat]'hx4_2).t.keys.length + 1) / 2)]'hx5_16, (((l).length : Nat) : Int)⟩⟩ : LnkL)).flatMap encL⟩]]) (hM5_22.pick [2, 0, 1] (by decide) rfl) ((at0).toNat)
            refine C.seq ?_
            refine C.any (f := 24) (ls := [false, false, false, false, false, false, false, false, false, false, false, false, false, false, false, false, false, false, false, false, false, false, false, false]) (fun w2 => Mem w w2 [] [((L13_1).set ((at0).toNat) (⟨A15_9, c15_9, ⟨((((l)[(at0).toNat]'hx5_4).t.keys).take (((((l)[(at0).toNat]'hx4_2).t.keys.length + 1) / 2))), (((l)[(at0).toNat]'hx5_12).t.keys)[((((l)[(at0).toNat]'hx4_2).t.keys.length + 1) / 2)]'hx5_16, (((l).length : Nat) : Int)⟩⟩ : LnkL)).map (keyF 3)]) mixed rfl rfl (fun w2 hw2 => Mem0.ext (hMk17.pick [0] (by decide) rfl) hw2) (fun w6a hE6a => ?_)
            have hM6a : Mem w w6a [] [((L13_1).set ((at0).toNat) (⟨A15_9, c15_9, ⟨((((l)[(at0).toNat]'hx5_4).t.keys).take (((((l)[(at0).toNat]'hx4_2).t.keys.length + 1) / 2))), (((l)[(at0).toNat]'hx5_12).t.keys)[((((l)[(at0).toNat]'hx4_2).t.keys.length + 1) / 2)]'hx5_16, (((l).length : Nat) : Int)⟩⟩ : LnkL)).map (keyF 3), [⟨.slice (A13_1) ((L13_1).length) (c13_1), 28, 3, ((L13_1).length), ((L13_1).set ((at0).toNat) (⟨A15_9, c15_9, ⟨((((l)[(at0).toNat]'hx5_4).t.keys).take (((((l)[(at0).toNat]'hx4_2).t.keys.length + 1) / 2))), (((l)[(at0).toNat]'hx5_12).t.keys)[((((l)[(at0).toNat]'hx4_2).t.keys.length + 1) / 2)]'hx5_16, (((l).length : Nat) : Int)⟩⟩ : LnkL)).flatMap encL⟩]] := Mem0.ext hMk17 hE6a
            refine AO.val (v := .slice (A13_1) ((L13_1).length) (c13_1)) 0 (ls' := [true, false, false, false, false, false, false, false, false, false, false, false, false, false, false, false, false, false, false, false, false, false, false, false]) rfl (by kernel_rfl) rfl rfl (fun w2 hw2 => Ru.move rfl) rfl ?_
            refine AO.val (v := .slice (A) ((l).length) (c)) 1 (ls' := [true, true, false, false, false, false, false, false, false, false, false, false, false, false, false, false, false, false, false, false, false, false, false, false]) rfl (by kernel_rfl) rfl rfl (fun w2 hw2 => Ru.move rfl) rfl ?_
            refine AO.val (v := I (at0)) 2 (ls' := [true, true, true, false, false, false, false, false, false, false, false, false, false, false, false, false, false, false, false, false, false, false, false, false]) rfl (by kernel_rfl) rfl rfl (fun w2 hw2 => Ru.move rfl) rfl ?_
            have hx6_3 : (at0).toNat < (l).length := (by first | omega | (simp; omega))
            refine AO.val (v := .pointer (ofs (A) (((at0).toNat) * 3))) 3 (ls' := [true, true, true, true, false, false, false, false, false, false, false, false, false, false, false, false, false, false, false, false, false, false, false, false]) rfl (by kernel_rfl) rfl rfl (fun w2 hw2 => Ru.indexA (j := (at0).toNat) Try.underlying23 el28 rfl rfl (smf encL_len (hA.at hM6a) hx6_3 rfl) (by omega) (by first | omega | (simp; omega))) rfl ?_
            refine AO.val (v := .pointer (ofs (A) (((at0).toNat) * 3 + 0))) 4 (ls' := [true, true, true, true, true, false, false, false, false, false, false, false, false, false, false, false, false, false, false, false, false, false, false, false]) rfl (by kernel_rfl) rfl rfl (fun w2 hw2 => Ru.fieldA fl28_0 rfl (smf encL_len (hA.at hM6a) hx6_3 rfl)) rfl ?_
            refine AO.val (v := .slice (((l)[(at0).toNat]'hx6_3).A) (((l)[(at0).toNat]'hx6_3).t.keys.length) (((l)[(at0).toNat]'hx6_3).cp)) 5 (ls' := [true, true, true, true, true, true, false, false, false, false, false, false, false, false, false, false, false, false, false, false, false, false, false, false]) rfl (by kernel_rfl) rfl rfl (fun w2 hw2 => Ru.load1 el26 rfl (ldf encL_len (hA.at hw2) hx6_3 rfl)) rfl ?_
            refine AO.val (v := I (((((((l)[(at0).toNat]'hx4_2).t.keys.length + 1) / 2) : Nat) : Int))) 6 (ls' := [true, true, true, true, true, true, true, false, false, false, false, false, false, false, false, false, false, false, false, false, false, false, false, false]) rfl (by kernel_rfl) rfl rfl (fun w2 hw2 => Ru.move rfl) rfl ?_
            refine AO.val (v := .slice (if ((l)[(at0).toNat]'hx6_3).cp = ((((l)[(at0).toNat]'hx4_2).t.keys.length + 1) / 2) then ((l)[(at0).toNat]'hx6_3).A else ofs (((l)[(at0).toNat]'hx6_3).A) (((((l)[(at0).toNat]'hx4_2).t.keys.length + 1) / 2) * 1)) (((((l)[(at0).toNat]'hx6_3).t.keys).drop (((((l)[(at0).toNat]'hx4_2).t.keys.length + 1) / 2))).length) ((((l)[(at0).toNat]'hx6_3).cp) - ((((l)[(at0).toNat]'hx4_2).t.keys.length + 1) / 2))) 7 (ls' := [true, true, true, true, true, true, true, true, false, false, false, false, false, false, false, false, false, false, false, false, false, false, false, false]) rfl (by kernel_rfl) rfl rfl (fun w2 hw2 => Ru.congr (v := .slice (if ((l)[(at0).toNat]'hx6_3).cp = ((((l)[(at0).toNat]'hx4_2).t.keys.length + 1) / 2) then ((l)[(at0).toNat]'hx6_3).A else ofs (((l)[(at0).toNat]'hx6_3).A) (((((l)[(at0).toNat]'hx4_2).t.keys.length + 1) / 2) * 1)) ((((l)[(at0).toNat]'hx6_3).t.keys.length) - ((((l)[(at0).toNat]'hx4_2).t.keys.length + 1) / 2)) ((((l)[(at0).toNat]'hx6_3).cp) - ((((l)[(at0).toNat]'hx4_2).t.keys.length + 1) / 2))) (v' := .slice (if ((l)[(at0).toNat]'hx6_3).cp = ((((l)[(at0).toNat]'hx4_2).t.keys.length + 1) / 2) then ((l)[(at0).toNat]'hx6_3).A else ofs (((l)[(at0).toNat]'hx6_3).A) (((((l)[(at0).toNat]'hx4_2).t.keys.length + 1) / 2) * 1)) (((((l)[(at0).toNat]'hx6_3).t.keys).drop (((((l)[(at0).toNat]'hx4_2).t.keys.length + 1) / 2))).length) ((((l)[(at0).toNat]'hx6_3).cp) - ((((l)[(at0).toNat]'hx4_2).t.keys.length + 1) / 2))) (Ru.lsliceFrom (l := ((((l)[(at0).toNat]'hx4_2).t.keys.length + 1) / 2)) Try.underlying26 el3 rfl rfl (by omega) (by omega)) (sl_congr (by first | rfl | (simp; done) | omega | (simp; omega)))) rfl ?_
            refine AO.val (v := .slice (A) ((l).length) (c)) 9 (ls' := [true, true, true, true, true, true, true, true, false, true, false, false, false, false, false, false, false, false, false, false, false, false, false, false]) rfl (by kernel_rfl) rfl rfl (fun w2 hw2 => Ru.move rfl) rfl ?_
            refine AO.val (v := I (at0)) 10 (ls' := [true, true, true, true, true, true, true, true, false, true, true, false, false, false, false, false, false, false, false, false, false, false, false, false]) rfl (by kernel_rfl) rfl rfl (fun w2 hw2 => Ru.move rfl) rfl ?_
            have hx6_11 : (at0).toNat < (l).length := (by first | omega | (simp; omega))
            refine AO.val (v := .pointer (ofs (A) (((at0).toNat) * 3))) 11 (ls' := [true, true, true, true, true, true, true, true, false, true, true, true, false, false, false, false, false, false, false, false, false, false, false, false]) rfl (by kernel_rfl) rfl rfl (fun w2 hw2 => Ru.indexA (j := (at0).toNat) Try.underlying23 el28 rfl rfl (smf encL_len (hA.at hM6a) hx6_11 rfl) (by omega) (by first | omega | (simp; omega))) rfl ?_
            refine AO.val (v := .pointer (ofs (A) (((at0).toNat) * 3 + 1))) 12 (ls' := [true, true, true, true, true, true, true, true, false, true, true, true, true, false, false, false, false, false, false, false, false, false, false, false]) rfl (by kernel_rfl) rfl rfl (fun w2 hw2 => Ru.fieldA fl28_1 rfl (smf encL_len (hA.at hM6a) hx6_11 rfl)) rfl ?_
            refine AO.val (v := I (((l)[(at0).toNat]'hx6_11).t.high)) 13 (ls' := [true, true, true, true, true, true, true, true, false, true, true, true, true, true, false, false, false, false, false, false, false, false, false, false]) rfl (by kernel_rfl) rfl rfl (fun w2 hw2 => Ru.load1 el3 rfl (ldf encL_len (hA.at hw2) hx6_11 rfl)) rfl ?_
            refine AO.val (v := .slice (A) ((l).length) (c)) 14 (ls' := [true, true, true, true, true, true, true, true, false, true, true, true, true, true, true, false, false, false, false, false, false, false, false, false]) rfl (by kernel_rfl) rfl rfl (fun w2 hw2 => Ru.move rfl) rfl ?_
            refine AO.val (v := I (at0)) 15 (ls' := [true, true, true, true, true, true, true, true, false, true, true, true, true, true, true, true, false, false, false, false, false, false, false, false]) rfl (by kernel_rfl) rfl rfl (fun w2 hw2 => Ru.move rfl) rfl ?_
            have hx6_16 : (at0).toNat < (l).length := (by first | omega | (simp; omega))
            refine AO.val (v := .pointer (ofs (A) (((at0).toNat) * 3))) 16 (ls' := [true, true, true, true, true, true, true, true, false, true, true, true, true, true, true, true, true, false, false, false, false, false, false, false]) rfl (by kernel_rfl) rfl rfl (fun w2 hw2 => Ru.indexA (j := (at0).toNat) Try.underlying23 el28 rfl rfl (smf encL_len (hA.at hM6a) hx6_16 rfl) (by omega) (by first | omega | (simp; omega))) rfl ?_
            refine AO.val (v := .pointer (ofs (A) (((at0).toNat) * 3 + 2))) 17 (ls' := [true, true, true, true, true, true, true, true, false, true, true, true, true, true, true, true, true, true, false, false, false, false, false, false]) rfl (by kernel_rfl) rfl rfl (fun w2 hw2 => Ru.fieldA fl28_2 rfl (smf encL_len (hA.at hM6a) hx6_16 rfl)) rfl ?_
            refine AO.val (v := I (((l)[(at0).toNat]'hx6_16).t.right)) 18 (ls' := [true, true, true, true, true, true, true, true, false, true, true, true, true, true, true, true, true, true, true, false, false, false, false, false]) rfl (by kernel_rfl) rfl rfl (fun w2 hw2 => Ru.load1 el3 rfl (ldf encL_len (hA.at hw2) hx6_16 rfl)) rfl ?_
            refine AO.one 8 (by kernel_rfl) ?_
            refine step1 (ls' := [true, true, true, true, true, true, true, true, true, true, true, true, true, true, true, true, true, true, true, false, false, false, false, false]) rfl rfl ?_
            refine O.callg [.slice (if ((l)[(at0).toNat]'hx6_3).cp = ((((l)[(at0).toNat]'hx4_2).t.keys.length + 1) / 2) then ((l)[(at0).toNat]'hx6_3).A else ofs (((l)[(at0).toNat]'hx6_3).A) (((((l)[(at0).toNat]'hx4_2).t.keys.length + 1) / 2) * 1)) (((((l)[(at0).toNat]'hx6_3).t.keys).drop (((((l)[(at0).toNat]'hx4_2).t.keys.length + 1) / 2))).length) ((((l)[(at0).toNat]'hx6_3).cp) - ((((l)[(at0).toNat]'hx4_2).t.keys.length + 1) / 2))] rfl en52 rfl rfl (scopyInts_fn (if ((l)[(at0).toNat]'hx6_3).cp = ((((l)[(at0).toNat]'hx4_2).t.keys.length + 1) / 2) then ((l)[(at0).toNat]'hx6_3).A else ofs (((l)[(at0).toNat]'hx6_3).A) (((((l)[(at0).toNat]'hx4_2).t.keys.length + 1) / 2) * 1)) ((((l)[(at0).toNat]'hx6_3).cp) - ((((l)[(at0).toNat]'hx4_2).t.keys.length + 1) / 2)) ((((l)[(at0).toNat]'hx6_3).t.keys).drop (((((l)[(at0).toNat]'hx4_2).t.keys.length + 1) / 2))) w6a (rd_drop1 ((hNA.at hM6a).get hx6_3) (by first | omega | (simp; omega)) (by first | omega | (simp; omega))) (by simp; omega)) ?_
            rintro _ w6_8 ⟨A16_8, c16_8, rfl, hR6_8⟩
            have hM6_8 : Mem w w6_8 [] [[⟨.slice (A16_8) ((((((l)[(at0).toNat]'hx6_3).t.keys).drop (((((l)[(at0).toNat]'hx4_2).t.keys.length + 1) / 2)))).length) (c16_8), 3, 1, ((((((l)[(at0).toNat]'hx6_3).t.keys).drop (((((l)[(at0).toNat]'hx4_2).t.keys.length + 1) / 2)))).length), (((((l)[(at0).toNat]'hx6_3).t.keys).drop (((((l)[(at0).toNat]'hx4_2).t.keys.length + 1) / 2)))).map I⟩], ((L13_1).set ((at0).toNat) (⟨A15_9, c15_9, ⟨((((l)[(at0).toNat]'hx5_4).t.keys).take (((((l)[(at0).toNat]'hx4_2).t.keys.length + 1) / 2))), (((l)[(at0).toNat]'hx5_12).t.keys)[((((l)[(at0).toNat]'hx4_2).t.keys.length + 1) / 2)]'hx5_16, (((l).length : Nat) : Int)⟩⟩ : LnkL)).map (keyF 3), [⟨.slice (A13_1) ((L13_1).length) (c13_1), 28, 3, ((L13_1).length), ((L13_1).set ((at0).toNat) (⟨A15_9, c15_9, ⟨((((l)[(at0).toNat]'hx5_4).t.keys).take (((((l)[(at0).toNat]'hx4_2).t.keys.length + 1) / 2))), (((l)[(at0).toNat]'hx5_12).t.keys)[((((l)[(at0).toNat]'hx4_2).t.keys.length + 1) / 2)]'hx5_16, (((l).length : Nat) : Int)⟩⟩ : LnkL)).flatMap encL⟩]] := Mem.call (Ma := []) hM6a hR6_8 rfl
            have hcr6_8_0 := (hM6_8.cap 0 rfl).1
            refine O.stop (hM6_8.pick [1] (by decide) rfl) ?_
            refine AO.val (v := .agg #[.slice (A16_8) ((((((l)[(at0).toNat]'hx6_3).t.keys).drop (((((l)[(at0).toNat]'hx4_2).t.keys.length + 1) / 2)))).length) (c16_8), I (((l)[(at0).toNat]'hx6_11).t.high), I (((l)[(at0).toNat]'hx6_16).t.right)]) 19 (ls' := [true, true, true, true, true, true, true, true, true, true, true, true, true, true, true, true, true, true, true, true, false, false, false, false]) rfl (by kernel_rfl) rfl rfl (fun w2 hw2 => Ru.build of28 rfl rfl rfl) rfl ?_
            refine AO.one 20 (by kernel_rfl) ?_
            refine step1 (ls' := [true, true, true, true, true, true, true, true, true, true, true, true, true, true, true, true, true, true, true, true, true, false, false, false]) rfl rfl ?_
            refine O.mlit (sz := 3) (cs := [.slice (A16_8) ((((((l)[(at0).toNat]'hx6_3).t.keys).drop (((((l)[(at0).toNat]'hx4_2).t.keys.length + 1) / 2)))).length) (c16_8), I (((l)[(at0).toNat]'hx6_11).t.high), I (((l)[(at0).toNat]'hx6_16).t.right)]) hM6_8 rfl Try.underlying23 el28 rfl rfl rfl (by kernel_rfl) (by kernel_rfl) rfl rfl (fun w6_20 b6_20 hb6_20 (hM6_20 : Mem w w6_20 [] [[⟨.slice (bl b6_20) (1) (1), 28, 3, 1, ([(⟨A16_8, c16_8, ⟨((((l)[(at0).toNat]'hx6_3).t.keys).drop (((((l)[(at0).toNat]'hx4_2).t.keys.length + 1) / 2))), ((l)[(at0).toNat]'hx6_11).t.high, ((l)[(at0).toNat]'hx6_16).t.right⟩⟩ : LnkL)]).flatMap encL⟩], [⟨.slice (A16_8) ((((((l)[(at0).toNat]'hx6_3).t.keys).drop (((((l)[(at0).toNat]'hx4_2).t.keys.length + 1) / 2)))).length) (c16_8), 3, 1, ((((((l)[(at0).toNat]'hx6_3).t.keys).drop (((((l)[(at0).toNat]'hx4_2).t.keys.length + 1) / 2)))).length), (((((l)[(at0).toNat]'hx6_3).t.keys).drop (((((l)[(at0).toNat]'hx4_2).t.keys.length + 1) / 2)))).map I⟩], ((L13_1).set ((at0).toNat) (⟨A15_9, c15_9, ⟨((((l)[(at0).toNat]'hx5_4).t.keys).take (((((l)[(at0).toNat]'hx4_2).t.keys.length + 1) / 2))), (((l)[(at0).toNat]'hx5_12).t.keys)[((((l)[(at0).toNat]'hx4_2).t.keys.length + 1) / 2)]'hx5_16, (((l).length : Nat) : Int)⟩⟩ : LnkL)).map (keyF 3), [⟨.slice (A13_1) ((L13_1).length) (c13_1), 28, 3, ((L13_1).length), ((L13_1).set ((at0).toNat) (⟨A15_9, c15_9, ⟨((((l)[(at0).toNat]'hx5_4).t.keys).take (((((l)[(at0).toNat]'hx4_2).t.keys.length + 1) / 2))), (((l)[(at0).toNat]'hx5_12).t.keys)[((((l)[(at0).toNat]'hx4_2).t.keys.length + 1) / 2)]'hx5_16, (((l).length : Nat) : Int)⟩⟩ : LnkL)).flatMap encL⟩]]) => ?_)
            refine O.stop (hM6_20.pick [2] (by decide) rfl) ?_
            refine AO.one 21 (by kernel_rfl) ?_
            refine step1 (ls' := [true, true, true, true, true, true, true, true, true, true, true, true, true, true, true, true, true, true, true, true, true, true, false, false]) rfl rfl ?_
            refine O.mappend (sz := 3) (news := ([(⟨A16_8, c16_8, ⟨((((l)[(at0).toNat]'hx6_3).t.keys).drop (((((l)[(at0).toNat]'hx4_2).t.keys.length + 1) / 2))), ((l)[(at0).toNat]'hx6_11).t.high, ((l)[(at0).toNat]'hx6_16).t.right⟩⟩ : LnkL)]).flatMap encL) (m1 := ((L13_1).set ((at0).toNat) (⟨A15_9, c15_9, ⟨((((l)[(at0).toNat]'hx5_4).t.keys).take (((((l)[(at0).toNat]'hx4_2).t.keys.length + 1) / 2))), (((l)[(at0).toNat]'hx5_12).t.keys)[((((l)[(at0).toNat]'hx4_2).t.keys.length + 1) / 2)]'hx5_16, (((l).length : Nat) : Int)⟩⟩ : LnkL) ++ [(⟨A16_8, c16_8, ⟨((((l)[(at0).toNat]'hx6_3).t.keys).drop (((((l)[(at0).toNat]'hx4_2).t.keys.length + 1) / 2))), ((l)[(at0).toNat]'hx6_11).t.high, ((l)[(at0).toNat]'hx6_16).t.right⟩⟩ : LnkL)]).length) (xs1 := ((L13_1).set ((at0).toNat) (⟨A15_9, c15_9, ⟨((((l)[(at0).toNat]'hx5_4).t.keys).take (((((l)[(at0).toNat]'hx4_2).t.keys.length + 1) / 2))), (((l)[(at0).toNat]'hx5_12).t.keys)[((((l)[(at0).toNat]'hx4_2).t.keys.length + 1) / 2)]'hx5_16, (((l).length : Nat) : Int)⟩⟩ : LnkL) ++ [(⟨A16_8, c16_8, ⟨((((l)[(at0).toNat]'hx6_3).t.keys).drop (((((l)[(at0).toNat]'hx4_2).t.keys.length + 1) / 2))), ((l)[(at0).toNat]'hx6_11).t.high, ((l)[(at0).toNat]'hx6_16).t.right⟩⟩ : LnkL)]).flatMap encL) (M' := fun A6_21 c6_21 => [[⟨.slice (bl b6_20) (1) (1), 28, 3, 1, ([(⟨A16_8, c16_8, ⟨((((l)[(at0).toNat]'hx6_3).t.keys).drop (((((l)[(at0).toNat]'hx4_2).t.keys.length + 1) / 2))), ((l)[(at0).toNat]'hx6_11).t.high, ((l)[(at0).toNat]'hx6_16).t.right⟩⟩ : LnkL)]).flatMap encL⟩], [⟨.slice (A16_8) ((((((l)[(at0).toNat]'hx6_3).t.keys).drop (((((l)[(at0).toNat]'hx4_2).t.keys.length + 1) / 2)))).length) (c16_8), 3, 1, ((((((l)[(at0).toNat]'hx6_3).t.keys).drop (((((l)[(at0).toNat]'hx4_2).t.keys.length + 1) / 2)))).length), (((((l)[(at0).toNat]'hx6_3).t.keys).drop (((((l)[(at0).toNat]'hx4_2).t.keys.length + 1) / 2)))).map I⟩], ((L13_1).set ((at0).toNat) (⟨A15_9, c15_9, ⟨((((l)[(at0).toNat]'hx5_4).t.keys).take (((((l)[(at0).toNat]'hx4_2).t.keys.length + 1) / 2))), (((l)[(at0).toNat]'hx5_12).t.keys)[((((l)[(at0).toNat]'hx4_2).t.keys.length + 1) / 2)]'hx5_16, (((l).length : Nat) : Int)⟩⟩ : LnkL)).map (keyF 3), [⟨.slice (A6_21) (((L13_1).set ((at0).toNat) (⟨A15_9, c15_9, ⟨((((l)[(at0).toNat]'hx5_4).t.keys).take (((((l)[(at0).toNat]'hx4_2).t.keys.length + 1) / 2))), (((l)[(at0).toNat]'hx5_12).t.keys)[((((l)[(at0).toNat]'hx4_2).t.keys.length + 1) / 2)]'hx5_16, (((l).length : Nat) : Int)⟩⟩ : LnkL) ++ [(⟨A16_8, c16_8, ⟨((((l)[(at0).toNat]'hx6_3).t.keys).drop (((((l)[(at0).toNat]'hx4_2).t.keys.length + 1) / 2))), ((l)[(at0).toNat]'hx6_11).t.high, ((l)[(at0).toNat]'hx6_16).t.right⟩⟩ : LnkL)]).length) (c6_21), 28, 3, (((L13_1).set ((at0).toNat) (⟨A15_9, c15_9, ⟨((((l)[(at0).toNat]'hx5_4).t.keys).take (((((l)[(at0).toNat]'hx4_2).t.keys.length + 1) / 2))), (((l)[(at0).toNat]'hx5_12).t.keys)[((((l)[(at0).toNat]'hx4_2).t.keys.length + 1) / 2)]'hx5_16, (((l).length : Nat) : Int)⟩⟩ : LnkL) ++ [(⟨A16_8, c16_8, ⟨((((l)[(at0).toNat]'hx6_3).t.keys).drop (((((l)[(at0).toNat]'hx4_2).t.keys.length + 1) / 2))), ((l)[(at0).toNat]'hx6_11).t.high, ((l)[(at0).toNat]'hx6_16).t.right⟩⟩ : LnkL)]).length), ((L13_1).set ((at0).toNat) (⟨A15_9, c15_9, ⟨((((l)[(at0).toNat]'hx5_4).t.keys).take (((((l)[(at0).toNat]'hx4_2).t.keys.length + 1) / 2))), (((l)[(at0).toNat]'hx5_12).t.keys)[((((l)[(at0).toNat]'hx4_2).t.keys.length + 1) / 2)]'hx5_16, (((l).length : Nat) : Int)⟩⟩ : LnkL) ++ [(⟨A16_8, c16_8, ⟨((((l)[(at0).toNat]'hx6_3).t.keys).drop (((((l)[(at0).toNat]'hx4_2).t.keys.length + 1) / 2))), ((l)[(at0).toNat]'hx6_11).t.high, ((l)[(at0).toNat]'hx6_16).t.right⟩⟩ : LnkL)]).flatMap encL⟩]]) 3 0 hM6_20 rfl rfl rfl Try.underlying23 el28 ⟨rfl, by decide⟩ rfl rfl rfl (hM6_20.rd 0 rfl) (by rw [flat_len encL_len]; first | done | (simp; done) | (simp; omega)) (all_flat_one (fun _ => rfl) _) (by first | omega | (simp; omega)) (by first | omega | (simp; omega)) (by first | (simp; done) | (simp; omega)) (by simp) (fun _ _ => rfl) (fun w6_21 A6_21 c6_21 hc6_21 hM6_21 => ?_)
            try dsimp only at hM6_21
            refine O.stop (hM6_21.pick [2] (by decide) rfl) ?_
            refine AO.val (v := .slice (A6_21) (((L13_1).set ((at0).toNat) (⟨A15_9, c15_9, ⟨((((l)[(at0).toNat]'hx5_4).t.keys).take (((((l)[(at0).toNat]'hx4_2).t.keys.length + 1) / 2))), (((l)[(at0).toNat]'hx5_12).t.keys)[((((l)[(at0).toNat]'hx4_2).t.keys.length + 1) / 2)]'hx5_16, (((l).length : Nat) : Int)⟩⟩ : LnkL) ++ [(⟨A16_8, c16_8, ⟨((((l)[(at0).toNat]'hx6_3).t.keys).drop (((((l)[(at0).toNat]'hx4_2).t.keys.length + 1) / 2))), ((l)[(at0).toNat]'hx6_11).t.high, ((l)[(at0).toNat]'hx6_16).t.right⟩⟩ : LnkL)]).length) (c6_21)) 22 (ls' := [true, true, true, true, true, true, true, true, true, true, true, true, true, true, true, true, true, true, true, true, true, true, true, false]) rfl (by kernel_rfl) rfl rfl (fun w2 hw2 => Ru.assign rfl) rfl ?_
            refine AO.val (v := .bool (true)) 23 (ls' := [true, true, true, true, true, true, true, true, true, true, true, true, true, true, true, true, true, true, true, true, true, true, true, true]) rfl (by kernel_rfl) rfl rfl (fun w2 hw2 => Ru.assign rfl) rfl ?_
            refine AO.nil (by kernel_rfl) ?_
            have hMk18 : Mem w w6_21 [] [((L13_1).set ((at0).toNat) (⟨A15_9, c15_9, ⟨((((l)[(at0).toNat]'hx5_4).t.keys).take (((((l)[(at0).toNat]'hx4_2).t.keys.length + 1) / 2))), (((l)[(at0).toNat]'hx5_12).t.keys)[((((l)[(at0).toNat]'hx4_2).t.keys.length + 1) / 2)]'hx5_16, (((l).length : Nat) : Int)⟩⟩ : LnkL) ++ [(⟨A16_8, c16_8, ⟨((((l)[(at0).toNat]'hx6_3).t.keys).drop (((((l)[(at0).toNat]'hx4_2).t.keys.length + 1) / 2))), ((l)[(at0).toNat]'hx6_11).t.high, ((l)[(at0).toNat]'hx6_16).t.right⟩⟩ : LnkL)]).map (keyF 3), [⟨.slice (bl b6_20) (1) (1), 28, 3, 1, ([(⟨A16_8, c16_8, ⟨((((l)[(at0).toNat]'hx6_3).t.keys).drop (((((l)[(at0).toNat]'hx4_2).t.keys.length + 1) / 2))), ((l)[(at0).toNat]'hx6_11).t.high, ((l)[(at0).toNat]'hx6_16).t.right⟩⟩ : LnkL)]).flatMap encL⟩], [⟨.slice (A6_21) (((L13_1).set ((at0).toNat) (⟨A15_9, c15_9, ⟨((((l)[(at0).toNat]'hx5_4).t.keys).take (((((l)[(at0).toNat]'hx4_2).t.keys.length + 1) / 2))), (((l)[(at0).toNat]'hx5_12).t.keys)[((((l)[(at0).toNat]'hx4_2).t.keys.length + 1) / 2)]'hx5_16, (((l).length : Nat) : Int)⟩⟩ : LnkL) ++ [(⟨A16_8, c16_8, ⟨((((l)[(at0).toNat]'hx6_3).t.keys).drop (((((l)[(at0).toNat]'hx4_2).t.keys.length + 1) / 2))), ((l)[(at0).toNat]'hx6_11).t.high, ((l)[(at0).toNat]'hx6_16).t.right⟩⟩ : LnkL)]).length) (c6_21), 28, 3, (((L13_1).set ((at0).toNat) (⟨A15_9, c15_9, ⟨((((l)[(at0).toNat]'hx5_4).t.keys).take (((((l)[(at0).toNat]'hx4_2).t.keys.length + 1) / 2))), (((l)[(at0).toNat]'hx5_12).t.keys)[((((l)[(at0).toNat]'hx4_2).t.keys.length + 1) / 2)]'hx5_16, (((l).length : Nat) : Int)⟩⟩ : LnkL) ++ [(⟨A16_8, c16_8, ⟨((((l)[(at0).toNat]'hx6_3).t.keys).drop (((((l)[(at0).toNat]'hx4_2).t.keys.length + 1) / 2))), ((l)[(at0).toNat]'hx6_11).t.high, ((l)[(at0).toNat]'hx6_16).t.right⟩⟩ : LnkL)]).length), ((L13_1).set ((at0).toNat) (⟨A15_9, c15_9, ⟨((((l)[(at0).toNat]'hx5_4).t.keys).take (((((l)[(at0).toNat]'hx4_2).t.keys.length + 1) / 2))), (((l)[(at0).toNat]'hx5_12).t.keys)[((((l)[(at0).toNat]'hx4_2).t.keys.length + 1) / 2)]'hx5_16, (((l).length : Nat) : Int)⟩⟩ : LnkL) ++ [(⟨A16_8, c16_8, ⟨((((l)[(at0).toNat]'hx6_3).t.keys).drop (((((l)[(at0).toNat]'hx4_2).t.keys.length + 1) / 2))), ((l)[(at0).toNat]'hx6_11).t.high, ((l)[(at0).toNat]'hx6_16).t.right⟩⟩ : LnkL)]).flatMap encL⟩]] := Mem.kapp (l := (L13_1).set ((at0).toNat) (⟨A15_9, c15_9, ⟨((((l)[(at0).toNat]'hx5_4).t.keys).take (((((l)[(at0).toNat]'hx4_2).t.keys.length + 1) / 2))), (((l)[(at0).toNat]'hx5_12).t.keys)[((((l)[(at0).toNat]'hx4_2).t.keys.length + 1) / 2)]'hx5_16, (((l).length : Nat) : Int)⟩⟩ : LnkL)) (x := (⟨A16_8, c16_8, ⟨((((l)[(at0).toNat]'hx6_3).t.keys).drop (((((l)[(at0).toNat]'hx4_2).t.keys.length + 1) / 2))), ((l)[(at0).toNat]'hx6_11).t.high, ((l)[(at0).toNat]'hx6_16).t.right⟩⟩ : LnkL)) (M := [[⟨.slice (bl b6_20) (1) (1), 28, 3, 1, ([(⟨A16_8, c16_8, ⟨((((l)[(at0).toNat]'hx6_3).t.keys).drop (((((l)[(at0).toNat]'hx4_2).t.keys.length + 1) / 2))), ((l)[(at0).toNat]'hx6_11).t.high, ((l)[(at0).toNat]'hx6_16).t.right⟩⟩ : LnkL)]).flatMap encL⟩], [⟨.slice (A6_21) (((L13_1).set ((at0).toNat) (⟨A15_9, c15_9, ⟨((((l)[(at0).toNat]'hx5_4).t.keys).take (((((l)[(at0).toNat]'hx4_2).t.keys.length + 1) / 2))), (((l)[(at0).toNat]'hx5_12).t.keys)[((((l)[(at0).toNat]'hx4_2).t.keys.length + 1) / 2)]'hx5_16, (((l).length : Nat) : Int)⟩⟩ : LnkL) ++ [(⟨A16_8, c16_8, ⟨((((l)[(at0).toNat]'hx6_3).t.keys).drop (((((l)[(at0).toNat]'hx4_2).t.keys.length + 1) / 2))), ((l)[(at0).toNat]'hx6_11).t.high, ((l)[(at0).toNat]'hx6_16).t.right⟩⟩ : LnkL)]).length) (c6_21), 28, 3, (((L13_1).set ((at0).toNat) (⟨A15_9, c15_9, ⟨((((l)[(at0).toNat]'hx5_4).t.keys).take (((((l)[(at0).toNat]'hx4_2).t.keys.length + 1) / 2))), (((l)[(at0).toNat]'hx5_12).t.keys)[((((l)[(at0).toNat]'hx4_2).t.keys.length + 1) / 2)]'hx5_16, (((l).length : Nat) : Int)⟩⟩ : LnkL) ++ [(⟨A16_8, c16_8, ⟨((((l)[(at0).toNat]'hx6_3).t.keys).drop (((((l)[(at0).toNat]'hx4_2).t.keys.length + 1) / 2))), ((l)[(at0).toNat]'hx6_11).t.high, ((l)[(at0).toNat]'hx6_16).t.right⟩⟩ : LnkL)]).length), ((L13_1).set ((at0).toNat) (⟨A15_9, c15_9, ⟨((((l)[(at0).toNat]'hx5_4).t.keys).take (((((l)[(at0).toNat]'hx4_2).t.keys.length + 1) / 2))), (((l)[(at0).toNat]'hx5_12).t.keys)[((((l)[(at0).toNat]'hx4_2).t.keys.length + 1) / 2)]'hx5_16, (((l).length : Nat) : Int)⟩⟩ : LnkL) ++ [(⟨A16_8, c16_8, ⟨((((l)[(at0).toNat]'hx6_3).t.keys).drop (((((l)[(at0).toNat]'hx4_2).t.keys.length + 1) / 2))), ((l)[(at0).toNat]'hx6_11).t.high, ((l)[(at0).toNat]'hx6_16).t.right⟩⟩ : LnkL)]).flatMap encL⟩]]) (hM6_21.pick [2, 1, 0, 3] (by decide) rfl)
            refine C.ret ?_
            refine P2 (v := .slice (A6_21) (((L13_1).set ((at0).toNat) (⟨A15_9, c15_9, ⟨((((l)[(at0).toNat]'hx5_4).t.keys).take (((((l)[(at0).toNat]'hx4_2).t.keys.length + 1) / 2))), (((l)[(at0).toNat]'hx5_12).t.keys)[((((l)[(at0).toNat]'hx4_2).t.keys.length + 1) / 2)]'hx5_16, (((l).length : Nat) : Int)⟩⟩ : LnkL) ++ [(⟨A16_8, c16_8, ⟨((((l)[(at0).toNat]'hx6_3).t.keys).drop (((((l)[(at0).toNat]'hx4_2).t.keys.length + 1) / 2))), ((l)[(at0).toNat]'hx6_11).t.high, ((l)[(at0).toNat]'hx6_16).t.right⟩⟩ : LnkL)]).length) (c6_21)) (v' := .bool (true)) rfl rfl ?_
            have hq19 : ((L13_1).set ((at0).toNat) (⟨A15_9, c15_9, ⟨((((l)[(at0).toNat]'hx5_4).t.keys).take (((((l)[(at0).toNat]'hx4_2).t.keys.length + 1) / 2))), (((l)[(at0).toNat]'hx5_12).t.keys)[((((l)[(at0).toNat]'hx4_2).t.keys.length + 1) / 2)]'hx5_16, (((l).length : Nat) : Int)⟩⟩ : LnkL) ++ [(⟨A16_8, c16_8, ⟨((((l)[(at0).toNat]'hx6_3).t.keys).drop (((((l)[(at0).toNat]'hx4_2).t.keys.length + 1) / 2))), ((l)[(at0).toNat]'hx6_11).t.high, ((l)[(at0).toNat]'hx6_16).t.right⟩⟩ : LnkL)] : List LnkL) = ((L13_1).set ((at0).toNat) (⟨A15_9, c15_9, ⟨((((l)[(at0).toNat]'hx5_4).t.keys).take (((((l)[(at0).toNat]'hx4_2).t.keys.length + 1) / 2))), (((l)[(at0).toNat]'hx5_12).t.keys)[((((l)[(at0).toNat]'hx4_2).t.keys.length + 1) / 2)]'hx5_16, (((l).length : Nat) : Int)⟩⟩ : LnkL) ++ [(⟨A16_8, c16_8, ⟨((((l)[(at0).toNat]'hx6_3).t.keys).drop (((((l)[(at0).toNat]'hx4_2).t.keys.length + 1) / 2))), ((l)[(at0).toNat]'hx6_11).t.high, ((l)[(at0).toNat]'hx6_16).t.right⟩⟩ : LnkL)]) := (by first | rfl | simp | (simp; omega))
            have hMn19 : Mem w w6_21 [] [((L13_1).set ((at0).toNat) (⟨A15_9, c15_9, ⟨((((l)[(at0).toNat]'hx5_4).t.keys).take (((((l)[(at0).toNat]'hx4_2).t.keys.length + 1) / 2))), (((l)[(at0).toNat]'hx5_12).t.keys)[((((l)[(at0).toNat]'hx4_2).t.keys.length + 1) / 2)]'hx5_16, (((l).length : Nat) : Int)⟩⟩ : LnkL) ++ [(⟨A16_8, c16_8, ⟨((((l)[(at0).toNat]'hx6_3).t.keys).drop (((((l)[(at0).toNat]'hx4_2).t.keys.length + 1) / 2))), ((l)[(at0).toNat]'hx6_11).t.high, ((l)[(at0).toNat]'hx6_16).t.right⟩⟩ : LnkL)]).map (keyF 3), [⟨.slice (bl b6_20) (1) (1), 28, 3, 1, ([(⟨A16_8, c16_8, ⟨((((l)[(at0).toNat]'hx6_3).t.keys).drop (((((l)[(at0).toNat]'hx4_2).t.keys.length + 1) / 2))), ((l)[(at0).toNat]'hx6_11).t.high, ((l)[(at0).toNat]'hx6_16).t.right⟩⟩ : LnkL)]).flatMap encL⟩], [⟨.slice (A6_21) (((L13_1).set ((at0).toNat) (⟨A15_9, c15_9, ⟨((((l)[(at0).toNat]'hx5_4).t.keys).take (((((l)[(at0).toNat]'hx4_2).t.keys.length + 1) / 2))), (((l)[(at0).toNat]'hx5_12).t.keys)[((((l)[(at0).toNat]'hx4_2).t.keys.length + 1) / 2)]'hx5_16, (((l).length : Nat) : Int)⟩⟩ : LnkL) ++ [(⟨A16_8, c16_8, ⟨((((l)[(at0).toNat]'hx6_3).t.keys).drop (((((l)[(at0).toNat]'hx4_2).t.keys.length + 1) / 2))), ((l)[(at0).toNat]'hx6_11).t.high, ((l)[(at0).toNat]'hx6_16).t.right⟩⟩ : LnkL)]).length) (c6_21), 28, 3, (((L13_1).set ((at0).toNat) (⟨A15_9, c15_9, ⟨((((l)[(at0).toNat]'hx5_4).t.keys).take (((((l)[(at0).toNat]'hx4_2).t.keys.length + 1) / 2))), (((l)[(at0).toNat]'hx5_12).t.keys)[((((l)[(at0).toNat]'hx4_2).t.keys.length + 1) / 2)]'hx5_16, (((l).length : Nat) : Int)⟩⟩ : LnkL) ++ [(⟨A16_8, c16_8, ⟨((((l)[(at0).toNat]'hx6_3).t.keys).drop (((((l)[(at0).toNat]'hx4_2).t.keys.length + 1) / 2))), ((l)[(at0).toNat]'hx6_11).t.high, ((l)[(at0).toNat]'hx6_16).t.right⟩⟩ : LnkL)]).length), (((L13_1).set ((at0).toNat) (⟨A15_9, c15_9, ⟨((((l)[(at0).toNat]'hx5_4).t.keys).take (((((l)[(at0).toNat]'hx4_2).t.keys.length + 1) / 2))), (((l)[(at0).toNat]'hx5_12).t.keys)[((((l)[(at0).toNat]'hx4_2).t.keys.length + 1) / 2)]'hx5_16, (((l).length : Nat) : Int)⟩⟩ : LnkL) ++ [(⟨A16_8, c16_8, ⟨((((l)[(at0).toNat]'hx6_3).t.keys).drop (((((l)[(at0).toNat]'hx4_2).t.keys.length + 1) / 2))), ((l)[(at0).toNat]'hx6_11).t.high, ((l)[(at0).toNat]'hx6_16).t.right⟩⟩ : LnkL)])).flatMap encL⟩]] := hMk18.relen 2 (n' := ((L13_1).set ((at0).toNat) (⟨A15_9, c15_9, ⟨((((l)[(at0).toNat]'hx5_4).t.keys).take (((((l)[(at0).toNat]'hx4_2).t.keys.length + 1) / 2))), (((l)[(at0).toNat]'hx5_12).t.keys)[((((l)[(at0).toNat]'hx4_2).t.keys.length + 1) / 2)]'hx5_16, (((l).length : Nat) : Int)⟩⟩ : LnkL) ++ [(⟨A16_8, c16_8, ⟨((((l)[(at0).toNat]'hx6_3).t.keys).drop (((((l)[(at0).toNat]'hx4_2).t.keys.length + 1) / 2))), ((l)[(at0).toNat]'hx6_11).t.high, ((l)[(at0).toNat]'hx6_16).t.right⟩⟩ : LnkL)]).length) (xs' := (((L13_1).set ((at0).toNat) (⟨A15_9, c15_9, ⟨((((l)[(at0).toNat]'hx5_4).t.keys).take (((((l)[(at0).toNat]'hx4_2).t.keys.length + 1) / 2))), (((l)[(at0).toNat]'hx5_12).t.keys)[((((l)[(at0).toNat]'hx4_2).t.keys.length + 1) / 2)]'hx5_16, (((l).length : Nat) : Int)⟩⟩ : LnkL) ++ [(⟨A16_8, c16_8, ⟨((((l)[(at0).toNat]'hx6_3).t.keys).drop (((((l)[(at0).toNat]'hx4_2).t.keys.length + 1) / 2))), ((l)[(at0).toNat]'hx6_11).t.high, ((l)[(at0).toNat]'hx6_16).t.right⟩⟩ : LnkL)])).flatMap encL) rfl (by first | rfl | exact congrArg List.length hq19 | (have hqq := congrArg List.length hq19; first | omega | (simp at hqq ⊢; omega)) | (simp; done) | (simp; omega)) (congrArg (fun z_ => (z_).flatMap encL) hq19) rfl
            exact ⟨(L13_1).set ((at0).toNat) (⟨A15_9, c15_9, ⟨((((l)[(at0).toNat]'hx5_4).t.keys).take (((((l)[(at0).toNat]'hx4_2).t.keys.length + 1) / 2))), (((l)[(at0).toNat]'hx5_12).t.keys)[((((l)[(at0).toNat]'hx4_2).t.keys.length + 1) / 2)]'hx5_16, (((l).length : Nat) : Int)⟩⟩ : LnkL) ++ [(⟨A16_8, c16_8, ⟨((((l)[(at0).toNat]'hx6_3).t.keys).drop (((((l)[(at0).toNat]'hx4_2).t.keys.length + 1) / 2))), ((l)[(at0).toNat]'hx6_11).t.high, ((l)[(at0).toNat]'hx6_16).t.right⟩⟩ : LnkL)], A6_21, c6_21, (by rw [hs]; first | rfl | simp), (by rw [hs, Option.getD_some]; exact spl_ts2 hat hts3_1 (by simp only [splY, midK]; rw [getD_lt hx5_16]) rfl), (hMn19.pick [2, 0] (by decide) rfl)⟩
          · refine step1 (ls' := [true, true, true, true, true, true, true, true, true, false, true, true, true, true, true, true, true, true, true, true, false, false, false]) rfl rfl ?_
            refine O.val rfl (Ru.load1 el3 rfl (ldm ((hNA.at hM5a).get hx5_12) hx5_16)) rfl ?_
            refine O.stop (hM5a.pick [1] (by decide) rfl) ?_
            refine AO.one 9 (by kernel_rfl) ?_
            refine step1 (ls' := [true, true, true, true, true, true, true, true, true, true, true, true, true, true, true, true, true, true, true, true, false, false, false]) rfl rfl ?_
            refine O.callg [.slice (((l)[(at0).toNat]'hx5_4).A) (((((l)[(at0).toNat]'hx5_4).t.keys).take (((((l)[(at0).toNat]'hx4_2).t.keys.length + 1) / 2))).length) (((l)[(at0).toNat]'hx5_4).cp)] rfl en52 rfl rfl (scopyInts_fn (((l)[(at0).toNat]'hx5_4).A) (((l)[(at0).toNat]'hx5_4).cp) ((((l)[(at0).toNat]'hx5_4).t.keys).take (((((l)[(at0).toNat]'hx4_2).t.keys.length + 1) / 2))) w5a (rd_take1 ((hNA.at hM5a).get hx5_4)) (by simp; omega)) ?_
            rintro _ w5_9 ⟨A15_9, c15_9, rfl, hR5_9⟩
            have hM5_9 : Mem w w5_9 [] [[⟨.slice (A15_9) ((((((l)[(at0).toNat]'hx5_4).t.keys).take (((((l)[(at0).toNat]'hx4_2).t.keys.length + 1) / 2)))).length) (c15_9), 3, 1, ((((((l)[(at0).toNat]'hx5_4).t.keys).take (((((l)[(at0).toNat]'hx4_2).t.keys.length + 1) / 2)))).length), (((((l)[(at0).toNat]'hx5_4).t.keys).take (((((l)[(at0).toNat]'hx4_2).t.keys.length + 1) / 2)))).map I⟩], [⟨.slice (A13_1) ((L13_1).length) (c13_1), 28, 3, ((L13_1).length), (L13_1).flatMap encL⟩], (L13_1).map (keyF 3)] := Mem.call (Ma := []) hM5a hR5_9 rfl
            have hcr5_9_0 := (hM5_9.cap 0 rfl).1
            refine O.stop (hM5_9.pick [2] (by decide) rfl) ?_
            refine AO.val (v := .agg #[.slice (A15_9) ((((((l)[(at0).toNat]'hx5_4).t.keys).take (((((l)[(at0).toNat]'hx4_2).t.keys.length + 1) / 2)))).length) (c15_9), I ((((l)[(at0).toNat]'hx5_12).t.keys)[((((l)[(at0).toNat]'hx4_2).t.keys.length + 1) / 2)]'hx5_16), I ((((l).length : Nat) : Int))]) 20 (ls' := [true, true, true, true, true, true, true, true, true, true, true, true, true, true, true, true, true, true, true, true, true, false, false]) rfl (by kernel_rfl) rfl rfl (fun w2 hw2 => Ru.build of28 rfl rfl rfl) rfl ?_
            have hx5_21 : (at0).toNat < (L13_1).length := (by first | omega | (simp; omega))
            refine AO.val (v := .pointer (ofs (A13_1) (((at0).toNat) * 3))) 21 (ls' := [true, true, true, true, true, true, true, true, true, true, true, true, true, true, true, true, true, true, true, true, true, true, false]) rfl (by kernel_rfl) rfl rfl (fun w2 hw2 => Ru.indexA (j := (at0).toNat) Try.underlying23 el28 rfl rfl (smf encL_len (hM5_9.rd 1 rfl) hx5_21 rfl) (by omega) (by first | omega | (simp; omega))) rfl ?_
            refine AO.one 22 (by kernel_rfl) ?_
            refine step1 (ls' := [true, true, true, true, true, true, true, true, true, true, true, true, true, true, true, true, true, true, true, true, true, true, true]) rfl rfl ?_
            refine O.mstore (vs := [.slice (A15_9) ((((((l)[(at0).toNat]'hx5_4).t.keys).take (((((l)[(at0).toNat]'hx4_2).t.keys.length + 1) / 2)))).length) (c15_9), I ((((l)[(at0).toNat]'hx5_12).t.keys)[((((l)[(at0).toNat]'hx4_2).t.keys.length + 1) / 2)]'hx5_16), I ((((l).length : Nat) : Int))]) (xs' := ((L13_1).set ((at0).toNat) (⟨A15_9, c15_9, ⟨((((l)[(at0).toNat]'hx5_4).t.keys).take (((((l)[(at0).toNat]'hx4_2).t.keys.length + 1) / 2))), (((l)[(at0).toNat]'hx5_12).t.keys)[((((l)[(at0).toNat]'hx4_2).t.keys.length + 1) / 2)]'hx5_16, (((l).length : Nat) : Int)⟩⟩ : LnkL)).flatMap encL) 1 0 hM5_9 rfl rfl rfl el28 rfl rfl rfl rfl rfl (by rw [flat_len encL_len]; simp; omega) (by simp) (spl_flat encL_len (l := L13_1) (a := (⟨A15_9, c15_9, ⟨((((l)[(at0).toNat]'hx5_4).t.keys).take (((((l)[(at0).toNat]'hx4_2).t.keys.length + 1) / 2))), (((l)[(at0).toNat]'hx5_12).t.keys)[((((l)[(at0).toNat]'hx4_2).t.keys.length + 1) / 2)]'hx5_16, (((l).length : Nat) : Int)⟩⟩ : LnkL)) hx5_21) rfl (fun w5_22 (hM5_22 : Mem w w5_22 [] [[⟨.slice (A15_9) ((((((l)[(at0).toNat]'hx5_4).t.keys).take (((((l)[(at0).toNat]'hx4_2).t.keys.length + 1) / 2)))).length) (c15_9), 3, 1, ((((((l)[(at0).toNat]'hx5_4).t.keys).take (((((l)[(at0).toNat]'hx4_2).t.keys.length + 1) / 2)))).length), (((((l)[(at0).toNat]'hx5_4).t.keys).take (((((l)[(at0).toNat]'hx4_2).t.keys.length + 1) / 2)))).map I⟩], [⟨.slice (A13_1) ((L13_1).length) (c13_1), 28, 3, ((L13_1).length), ((L13_1).set ((at0).toNat) (⟨A15_9, c15_9, ⟨((((l)[(at0).toNat]'hx5_4).t.keys).take (((((l)[(at0).toNat]'hx4_2).t.keys.length + 1) / 2))), (((l)[(at0).toNat]'hx5_12).t.keys)[((((l)[(at0).toNat]'hx4_2).t.keys.length + 1) / 2)]'hx5_16, (((l).length : Nat) : Int)⟩⟩ : LnkL)).flatMap encL⟩], (L13_1).map (keyF 3)]) => ?_)
            refine O.stop (hM5_22.pick [2] (by decide) rfl) ?_
            refine AO.nil (by kernel_rfl) ?_
            have hMk21 : Mem w w5_22 [] [((L13_1).set ((at0).toNat) (⟨A15_9, c15_9, ⟨((((l)[(at0).toNat]'hx5_4).t.keys).take (((((l)[(at0).toNat]'hx4_2).t.keys.length + 1) / 2))), (((l)[(at0).toNat]'hx5_12).t.keys)[((((l)[(at0).toNat]'hx4_2).t.keys.length + 1) / 2)]'hx5_16, (((l).length : Nat) : Int)⟩⟩ : LnkL)).map (keyF 3), [⟨.slice (A13_1) ((L13_1).length) (c13_1), 28, 3, ((L13_1).length), ((L13_1).set ((at0).toNat) (⟨A15_9, c15_9, ⟨((((l)[(at0).toNat]'hx5_4).t.keys).take (((((l)[(at0).toNat]'hx4_2).t.keys.length + 1) / 2))), (((l)[(at0).toNat]'hx5_12).t.keys)[((((l)[(at0).toNat]'hx4_2).t.keys.length + 1) / 2)]'hx5_16, (((l).length : Nat) : Int)⟩⟩ : LnkL)).flatMap encL⟩]] := Mem.kset (l := L13_1) (x := (⟨A15_9, c15_9, ⟨((((l)[(at0).toNat]'hx5_4).t.keys).take (((((l)[(at0).toNat]'hx4_2).t.keys.length + 1) / 2))), (((l)[(at0).toNat]'hx5_12).t.keys)[((((l)[(at0).toNat]'hx4_2).t.keys.length + 1) / 2)]'hx5_16, (((l).length : Nat) : Int)⟩⟩ : LnkL)) (M := [[⟨.slice (A13_1) ((L13_1).length) (c13_1), 28, 3, ((L13_1).length), ((L13_1).set ((at0).toNat) (⟨A15_9, c15_9, ⟨((((l)[(at0).toNat]'hx5_4).t.keys).take (((((l)[(at0).toNat]'hx4_2).t.keys.length + 1) / 2))), (((l)[(at0).toNat]'hx5_12).t.keys)[((((l)[(at0).toNat]'hx4_2).t.keys.length + 1) / 2)]'hx5_16, (((l).length : Nat) : Int)⟩⟩ : LnkL)).flatMap encL⟩]]) (hM5_22.pick [2, 0, 1] (by decide) rfl) ((at0).toNat)
            refine C.seq ?_
            refine C.any (f := 24) (ls := [false, false, false, false, false, false, false, false, false, false, false, false, false, false, false, false, false, false, false, false, false, false, false, false]) (fun w2 => Mem w w2 [] [((L13_1).set ((at0).toNat) (⟨A15_9, c15_9, ⟨((((l)[(at0).toNat]'hx5_4).t.keys).take (((((l)[(at0).toNat]'hx4_2).t.keys.length + 1) / 2))), (((l)[(at0).toNat]'hx5_12).t.keys)[((((l)[(at0).toNat]'hx4_2).t.keys.length + 1) / 2)]'hx5_16, (((l).length : Nat) : Int)⟩⟩ : LnkL)).map (keyF 3)]) mixed rfl rfl (fun w2 hw2 => Mem0.ext (hMk21.pick [0] (by decide) rfl) hw2) (fun w6a hE6a => ?_)
            have hM6a : Mem w w6a [] [((L13_1).set ((at0).toNat) (⟨A15_9, c15_9, ⟨((((l)[(at0).toNat]'hx5_4).t.keys).take (((((l)[(at0).toNat]'hx4_2).t.keys.length + 1) / 2))), (((l)[(at0).toNat]'hx5_12).t.keys)[((((l)[(at0).toNat]'hx4_2).t.keys.length + 1) / 2)]'hx5_16, (((l).length : Nat) : Int)⟩⟩ : LnkL)).map (keyF 3), [⟨.slice (A13_1) ((L13_1).length) (c13_1), 28, 3, ((L13_1).length), ((L13_1).set ((at0).toNat) (⟨A15_9, c15_9, ⟨((((l)[(at0).toNat]'hx5_4).t.keys).take (((((l)[(at0).toNat]'hx4_2).t.keys.length + 1) / 2))), (((l)[(at0).toNat]'hx5_12).t.keys)[((((l)[(at0).toNat]'hx4_2).t.keys.length + 1) / 2)]'hx5_16, (((l).length : Nat) : Int)⟩⟩ : LnkL)).flatMap encL⟩]] := Mem0.ext hMk21 hE6a
            refine AO.val (v := .slice (A13_1) ((L13_1).length) (c13_1)) 0 (ls' := [true, false, false, false, false, false, false, false, false, false, false, false, false, false, false, false, false, false, false, false, false, false, false, false]) rfl (by kernel_rfl) rfl rfl (fun w2 hw2 => Ru.move rfl) rfl ?_
            refine AO.val (v := .slice (A) ((l).length) (c)) 1 (ls' := [true, true, false, false, false, false, false, false, false, false, false, false, false, false, false, false, false, false, false, false, false, false, false, false]) rfl (by kernel_rfl) rfl rfl (fun w2 hw2 => Ru.move rfl) rfl ?_
            refine AO.val (v := I (at0)) 2 (ls' := [true, true, true, false, false, false, false, false, false, false, false, false, false, false, false, false, false, false, false, false, false, false, false, false]) rfl (by kernel_rfl) rfl rfl (fun w2 hw2 => Ru.move rfl) rfl ?_
            have hx6_3 : (at0).toNat < (l).length := (by first | omega | (simp; omega))
            refine AO.val (v := .pointer (ofs (A) (((at0).toNat) * 3))) 3 (ls' := [true, true, true, true, false, false, false, false, false, false, false, false, false, false, false, false, false, false, false, false, false, false, false, false]) rfl (by kernel_rfl) rfl rfl (fun w2 hw2 => Ru.indexA (j := (at0).toNat) Try.underlying23 el28 rfl rfl (smf encL_len (hA.at hM6a) hx6_3 rfl) (by omega) (by first | omega | (simp; omega))) rfl ?_
            refine AO.val (v := .pointer (ofs (A) (((at0).toNat) * 3 + 0))) 4 (ls' := [true, true, true, true, true, false, false, false, false, false, false, false, false, false, false, false, false, false, false, false, false, false, false, false]) rfl (by kernel_rfl) rfl rfl (fun w2 hw2 => Ru.fieldA fl28_0 rfl (smf encL_len (hA.at hM6a) hx6_3 rfl)) rfl ?_
            refine AO.val (v := .slice (((l)[(at0).toNat]'hx6_3).A) (((l)[(at0).toNat]'hx6_3).t.keys.length) (((l)[(at0).toNat]'hx6_3).cp)) 5 (ls' := [true, true, true, true, true, true, false, false, false, false, false, false, false, false, false, false, false, false, false, false, false, false, false, false]) rfl (by kernel_rfl) rfl rfl (fun w2 hw2 => Ru.load1 el26 rfl (ldf encL_len (hA.at hw2) hx6_3 rfl)) rfl ?_
            refine AO.val (v := I (((((((l)[(at0).toNat]'hx4_2).t.keys.length + 1) / 2) : Nat) : Int))) 6 (ls' := [true, true, true, true, true, true, true, false, false, false, false, false, false, false, false, false, false, false, false, false, false, false, false, false]) rfl (by kernel_rfl) rfl rfl (fun w2 hw2 => Ru.move rfl) rfl ?_
            refine AO.val (v := .slice (if ((l)[(at0).toNat]'hx6_3).cp = ((((l)[(at0).toNat]'hx4_2).t.keys.length + 1) / 2) then ((l)[(at0).toNat]'hx6_3).A else ofs (((l)[(at0).toNat]'hx6_3).A) (((((l)[(at0).toNat]'hx4_2).t.keys.length + 1) / 2) * 1)) (((((l)[(at0).toNat]'hx6_3).t.keys).drop (((((l)[(at0).toNat]'hx4_2).t.keys.length + 1) / 2))).length) ((((l)[(at0).toNat]'hx6_3).cp) - ((((l)[(at0).toNat]'hx4_2).t.keys.length + 1) / 2))) 7 (ls' := [true, true, true, true, true, true, true, true, false, false, false, false, false, false, false, false, false, false, false, false, false, false, false, false]) rfl (by kernel_rfl) rfl rfl (fun w2 hw2 => Ru.congr (v := .slice (if ((l)[(at0).toNat]'hx6_3).cp = ((((l)[(at0).toNat]'hx4_2).t.keys.length + 1) / 2) then ((l)[(at0).toNat]'hx6_3).A else ofs (((l)[(at0).toNat]'hx6_3).A) (((((l)[(at0).toNat]'hx4_2).t.keys.length + 1) / 2) * 1)) ((((l)[(at0).toNat]'hx6_3).t.keys.length) - ((((l)[(at0).toNat]'hx4_2).t.keys.length + 1) / 2)) ((((l)[(at0).toNat]'hx6_3).cp) - ((((l)[(at0).toNat]'hx4_2).t.keys.length + 1) / 2))) (v' := .slice (if ((l)[(at0).toNat]'hx6_3).cp = ((((l)[(at0).toNat]'hx4_2).t.keys.length + 1) / 2) then ((l)[(at0).toNat]'hx6_3).A else ofs (((l)[(at0).toNat]'hx6_3).A) (((((l)[(at0).toNat]'hx4_2).t.keys.length + 1) / 2) * 1)) (((((l)[(at0).toNat]'hx6_3).t.keys).drop (((((l)[(at0).toNat]'hx4_2).t.keys.length + 1) / 2))).length) ((((l)[(at0).toNat]'hx6_3).cp) - ((((l)[(at0).toNat]'hx4_2).t.keys.length + 1) / 2))) (Ru.lsliceFrom (l := ((((l)[(at0).toNat]'hx4_2).t.keys.length + 1) / 2)) Try.underlying26 el3 rfl rfl (by omega) (by omega)) (sl_congr (by first | rfl | (simp; done) | omega | (simp; omega)))) rfl ?_
            refine AO.val (v := .slice (A) ((l).length) (c)) 9 (ls' := [true, true, true, true, true, true, true, true, false, true, false, false, false, false, false, false, false, false, false, false, false, false, false, false]) rfl (by kernel_rfl) rfl rfl (fun w2 hw2 => Ru.move rfl) rfl ?_
            refine AO.val (v := I (at0)) 10 (ls' := [true, true, true, true, true, true, true, true, false, true, true, false, false, false, false, false, false, false, false, false, false, false, false, false]) rfl (by kernel_rfl) rfl rfl (fun w2 hw2 => Ru.move rfl) rfl ?_
            have hx6_11 : (at0).toNat < (l).length := (by first | omega | (simp; omega))
            refine AO.val (v := .pointer (ofs (A) (((at0).toNat) * 3))) 11 (ls' := [true, true, true, true, true, true, true, true, false, true, true, true, false, false, false, false, false, false, false, false, false, false, false, false]) rfl (by kernel_rfl) rfl rfl (fun w2 hw2 => Ru.indexA (j := (at0).toNat) Try.underlying23 el28 rfl rfl (smf encL_len (hA.at hM6a) hx6_11 rfl) (by omega) (by first | omega | (simp; omega))) rfl ?_
            refine AO.val (v := .pointer (ofs (A) (((at0).toNat) * 3 + 1))) 12 (ls' := [true, true, true, true, true, true, true, true, false, true, true, true, true, false, false, false, false, false, false, false, false, false, false, false]) rfl (by kernel_rfl) rfl rfl (fun w2 hw2 => Ru.fieldA fl28_1 rfl (smf encL_len (hA.at hM6a) hx6_11 rfl)) rfl ?_
            refine AO.val (v := I (((l)[(at0).toNat]'hx6_11).t.high)) 13 (ls' := [true, true, true, true, true, true, true, true, false, true, true, true, true, true, false, false, false, false, false, false, false, false, false, false]) rfl (by kernel_rfl) rfl rfl (fun w2 hw2 => Ru.load1 el3 rfl (ldf encL_len (hA.at hw2) hx6_11 rfl)) rfl ?_
            refine AO.val (v := .slice (A) ((l).length) (c)) 14 (ls' := [true, true, true, true, true, true, true, true, false, true, true, true, true, true, true, false, false, false, false, false, false, false, false, false]) rfl (by kernel_rfl) rfl rfl (fun w2 hw2 => Ru.move rfl) rfl ?_
            refine AO.val (v := I (at0)) 15 (ls' := [true, true, true, true, true, true, true, true, false, true, true, true, true, true, true, true, false, false, false, false, false, false, false, false]) rfl (by kernel_rfl) rfl rfl (fun w2 hw2 => Ru.move rfl) rfl ?_
            have hx6_16 : (at0).toNat < (l).length := (by first | omega | (simp; omega))
            refine AO.val (v := .pointer (ofs (A) (((at0).toNat) * 3))) 16 (ls' := [true, true, true, true, true, true, true, true, false, true, true, true, true, true, true, true, true, false, false, false, false, false, false, false]) rfl (by kernel_rfl) rfl rfl (fun w2 hw2 => Ru.indexA (j := (at0).toNat) Try.underlying23 el28 rfl rfl (smf encL_len (hA.at hM6a) hx6_16 rfl) (by omega) (by first | omega | (simp; omega))) rfl ?_
            refine AO.val (v := .pointer (ofs (A) (((at0).toNat) * 3 + 2))) 17 (ls' := [true, true, true, true, true, true, true, true, false, true, true, true, true, true, true, true, true, true, false, false, false, false, false, false]) rfl (by kernel_rfl) rfl rfl (fun w2 hw2 => Ru.fieldA fl28_2 rfl (smf encL_len (hA.at hM6a) hx6_16 rfl)) rfl ?_
            refine AO.val (v := I (((l)[(at0).toNat]'hx6_16).t.right)) 18 (ls' := [true, true, true, true, true, true, true, true, false, true, true, true, true, true, true, true, true, true, true, false, false, false, false, false]) rfl (by kernel_rfl) rfl rfl (fun w2 hw2 => Ru.load1 el3 rfl (ldf encL_len (hA.at hw2) hx6_16 rfl)) rfl ?_
            refine AO.one 8 (by kernel_rfl) ?_
            refine step1 (ls' := [true, true, true, true, true, true, true, true, true, true, true, true, true, true, true, true, true, true, true, false, false, false, false, false]) rfl rfl ?_
            refine O.callg [.slice (if ((l)[(at0).toNat]'hx6_3).cp = ((((l)[(at0).toNat]'hx4_2).t.keys.length + 1) / 2) then ((l)[(at0).toNat]'hx6_3).A else ofs (((l)[(at0).toNat]'hx6_3).A) (((((l)[(at0).toNat]'hx4_2).t.keys.length + 1) / 2) * 1)) (((((l)[(at0).toNat]'hx6_3).t.keys).drop (((((l)[(at0).toNat]'hx4_2).t.keys.length + 1) / 2))).length) ((((l)[(at0).toNat]'hx6_3).cp) - ((((l)[(at0).toNat]'hx4_2).t.keys.length + 1) / 2))] rfl en52 rfl rfl (scopyInts_fn (if ((l)[(at0).toNat]'hx6_3).cp = ((((l)[(at0).toNat]'hx4_2).t.keys.length + 1) / 2) then ((l)[(at0).toNat]'hx6_3).A else ofs (((l)[(at0).toNat]'hx6_3).A) (((((l)[(at0).toNat]'hx4_2).t.keys.length + 1) / 2) * 1)) ((((l)[(at0).toNat]'hx6_3).cp) - ((((l)[(at0).toNat]'hx4_2).t.keys.length + 1) / 2)) ((((l)[(at0).toNat]'hx6_3).t.keys).drop (((((l)[(at0).toNat]'hx4_2).t.keys.length + 1) / 2))) w6a (rd_drop1 ((hNA.at hM6a).get hx6_3) (by first | omega | (simp; omega)) (by first | omega | (simp; omega))) (by simp; omega)) ?_
            rintro _ w6_8 ⟨A16_8, c16_8, rfl, hR6_8⟩
            have hM6_8 : Mem w w6_8 [] [[⟨.slice (A16_8) ((((((l)[(at0).toNat]'hx6_3).t.keys).drop (((((l)[(at0).toNat]'hx4_2).t.keys.length + 1) / 2)))).length) (c16_8), 3, 1, ((((((l)[(at0).toNat]'hx6_3).t.keys).drop (((((l)[(at0).toNat]'hx4_2).t.keys.length + 1) / 2)))).length), (((((l)[(at0).toNat]'hx6_3).t.keys).drop (((((l)[(at0).toNat]'hx4_2).t.keys.length + 1) / 2)))).map I⟩], ((L13_1).set ((at0).toNat) (⟨A15_9, c15_9, ⟨((((l)[(at0).toNat]'hx5_4).t.keys).take (((((l)[(at0).toNat]'hx4_2).t.keys.length + 1) / 2))), (((l)[(at0).toNat]'hx5_12).t.keys)[((((l)[(at0).toNat]'hx4_2).t.keys.length + 1) / 2)]'hx5_16, (((l).length : Nat) : Int)⟩⟩ : LnkL)).map (keyF 3), [⟨.slice (A13_1) ((L13_1).length) (c13_1), 28, 3, ((L13_1).length), ((L13_1).set ((at0).toNat) (⟨A15_9, c15_9, ⟨((((l)[(at0).toNat]'hx5_4).t.keys).take (((((l)[(at0).toNat]'hx4_2).t.keys.length + 1) / 2))), (((l)[(at0).toNat]'hx5_12).t.keys)[((((l)[(at0).toNat]'hx4_2).t.keys.length + 1) / 2)]'hx5_16, (((l).length : Nat) : Int)⟩⟩ : LnkL)).flatMap encL⟩]] := Mem.call (Ma := []) hM6a hR6_8 rfl
            have hcr6_8_0 := (hM6_8.cap 0 rfl).1
            refine O.stop (hM6_8.pick [1] (by decide) rfl) ?_
            refine AO.val (v := .agg #[.slice (A16_8) ((((((l)[(at0).toNat]'hx6_3).t.keys).drop (((((l)[(at0).toNat]'hx4_2).t.keys.length + 1) / 2)))).length) (c16_8), I (((l)[(at0).toNat]'hx6_11).t.high), I (((l)[(at0).toNat]'hx6_16).t.right)]) 19 (ls' := [true, true, true, true, true, true, true, true, true, true, true, true, true, true, true, true, true, true, true, true, false, false, false, false]) rfl (by kernel_rfl) rfl rfl (fun w2 hw2 => Ru.build of28 rfl rfl rfl) rfl ?_
            refine AO.one 20 (by kernel_rfl) ?_
            refine step1 (ls' := [true, true, true, true, true, true, true, true, true, true, true, true, true, true, true, true, true, true, true, true, true, false, false, false]) rfl rfl ?_
            refine O.mlit (sz := 3) (cs := [.slice (A16_8) ((((((l)[(at0).toNat]'hx6_3).t.keys).drop (((((l)[(at0).toNat]'hx4_2).t.keys.length + 1) / 2)))).length) (c16_8), I (((l)[(at0).toNat]'hx6_11).t.high), I (((l)[(at0).toNat]'hx6_16).t.right)]) hM6_8 rfl Try.underlying23 el28 rfl rfl rfl (by kernel_rfl) (by kernel_rfl) rfl rfl (fun w6_20 b6_20 hb6_20 (hM6_20 : Mem w w6_20 [] [[⟨.slice (bl b6_20) (1) (1), 28, 3, 1, ([(⟨A16_8, c16_8, ⟨((((l)[(at0).toNat]'hx6_3).t.keys).drop (((((l)[(at0).toNat]'hx4_2).t.keys.length + 1) / 2))), ((l)[(at0).toNat]'hx6_11).t.high, ((l)[(at0).toNat]'hx6_16).t.right⟩⟩ : LnkL)]).flatMap encL⟩], [⟨.slice (A16_8) ((((((l)[(at0).toNat]'hx6_3).t.keys).drop (((((l)[(at0).toNat]'hx4_2).t.keys.length + 1) / 2)))).length) (c16_8), 3, 1, ((((((l)[(at0).toNat]'hx6_3).t.keys).drop (((((l)[(at0).toNat]'hx4_2).t.keys.length + 1) / 2)))).length), (((((l)[(at0).toNat]'hx6_3).t.keys).drop (((((l)[(at0).toNat]'hx4_2).t.keys.length + 1) / 2)))).map I⟩], ((L13_1).set ((at0).toNat) (⟨A15_9, c15_9, ⟨((((l)[(at0).toNat]'hx5_4).t.keys).take (((((l)[(at0).toNat]'hx4_2).t.keys.length + 1) / 2))), (((l)[(at0).toNat]'hx5_12).t.keys)[((((l)[(at0).toNat]'hx4_2).t.keys.length + 1) / 2)]'hx5_16, (((l).length : Nat) : Int)⟩⟩ : LnkL)).map (keyF 3), [⟨.slice (A13_1) ((L13_1).length) (c13_1), 28, 3, ((L13_1).length), ((L13_1).set ((at0).toNat) (⟨A15_9, c15_9, ⟨((((l)[(at0).toNat]'hx5_4).t.keys).take (((((l)[(at0).toNat]'hx4_2).t.keys.length + 1) / 2))), (((l)[(at0).toNat]'hx5_12).t.keys)[((((l)[(at0).toNat]'hx4_2).t.keys.length + 1) / 2)]'hx5_16, (((l).length : Nat) : Int)⟩⟩ : LnkL)).flatMap encL⟩]]) => ?_)
            refine O.stop (hM6_20.pick [2] (by decide) rfl) ?_
            refine AO.one 21 (by kernel_rfl) ?_
            refine step1 (ls' := [true, true, true, true, true, true, true, true, true, true, true, true, true, true, true, true, true, true, true, true, true, true, false, false]) rfl rfl ?_
            refine O.mappend (sz := 3) (news := ([(⟨A16_8, c16_8, ⟨((((l)[(at0).toNat]'hx6_3).t.keys).drop (((((l)[(at0).toNat]'hx4_2).t.keys.length + 1) / 2))), ((l)[(at0).toNat]'hx6_11).t.high, ((l)[(at0).toNat]'hx6_16).t.right⟩⟩ : LnkL)]).flatMap encL) (m1 := ((L13_1).set ((at0).toNat) (⟨A15_9, c15_9, ⟨((((l)[(at0).toNat]'hx5_4).t.keys).take (((((l)[(at0).toNat]'hx4_2).t.keys.length + 1) / 2))), (((l)[(at0).toNat]'hx5_12).t.keys)[((((l)[(at0).toNat]'hx4_2).t.keys.length + 1) / 2)]'hx5_16, (((l).length : Nat) : Int)⟩⟩ : LnkL) ++ [(⟨A16_8, c16_8, ⟨((((l)[(at0).toNat]'hx6_3).t.keys).drop (((((l)[(at0).toNat]'hx4_2).t.keys.length + 1) / 2))), ((l)[(at0).toNat]'hx6_11).t.high, ((l)[(at0).toNat]'hx6_16).t.right⟩⟩ : LnkL)]).length) (xs1 := ((L13_1).set ((at0).toNat) (⟨A15_9, c15_9, ⟨((((l)[(at0).toNat]'hx5_4).t.keys).take (((((l)[(at0).toNat]'hx4_2).t.keys.length + 1) / 2))), (((l)[(at0).toNat]'hx5_12).t.keys)[((((l)[(at0).toNat]'hx4_2).t.keys.length + 1) / 2)]'hx5_16, (((l).length : Nat) : Int)⟩⟩ : LnkL) ++ [(⟨A16_8, c16_8, ⟨((((l)[(at0).toNat]'hx6_3).t.keys).drop (((((l)[(at0).toNat]'hx4_2).t.keys.length + 1) / 2))), ((l)[(at0).toNat]'hx6_11).t.high, ((l)[(at0).toNat]'hx6_16).t.right⟩⟩ : LnkL)]).flatMap encL) (M' := fun A6_21 c6_21 => [[⟨.slice (bl b6_20) (1) (1), 28, 3, 1, ([(⟨A16_8, c16_8, ⟨((((l)[(at0).toNat]'hx6_3).t.keys).drop (((((l)[(at0).toNat]'hx4_2).t.keys.length + 1) / 2))), ((l)[(at0).toNat]'hx6_11).t.high, ((l)[(at0).toNat]'hx6_16).t.right⟩⟩ : LnkL)]).flatMap encL⟩], [⟨.slice (A16_8) ((((((l)[(at0).toNat]'hx6_3).t.keys).drop (((((l)[(at0).toNat]'hx4_2).t.keys.length + 1) / 2)))).length) (c16_8), 3, 1, ((((((l)[(at0).toNat]'hx6_3).t.keys).drop (((((l)[(at0).toNat]'hx4_2).t.keys.length + 1) / 2)))).length), (((((l)[(at0).toNat]'hx6_3).t.keys).drop (((((l)[(at0).toNat]'hx4_2).t.keys.length + 1) / 2)))).map I⟩], ((L13_1).set ((at0).toNat) (⟨A15_9, c15_9, ⟨((((l)[(at0).toNat]'hx5_4).t.keys).take (((((l)[(at0).toNat]'hx4_2).t.keys.length + 1) / 2))), (((l)[(at0).toNat]'hx5_12).t.keys)[((((l)[(at0).toNat]'hx4_2).t.keys.length + 1) / 2)]'hx5_16, (((l).length : Nat) : Int)⟩⟩ : LnkL)).map (keyF 3), [⟨.slice (A6_21) (((L13_1).set ((at0).toNat) (⟨A15_9, c15_9, ⟨((((l)[(at0).toNat]'hx5_4).t.keys).take (((((l)[(at0).toNat]'hx4_2).t.keys.length + 1) / 2))), (((l)[(at0).toNat]'hx5_12).t.keys)[((((l)[(at0).toNat]'hx4_2).t.keys.length + 1) / 2)]'hx5_16, (((l).length : Nat) : Int)⟩⟩ : LnkL) ++ [(⟨A16_8, c16_8, ⟨((((l)[(at0).toNat]'hx6_3).t.keys).drop (((((l)[(at0).toNat]'hx4_2).t.keys.length + 1) / 2))), ((l)[(at0).toNat]'hx6_11).t.high, ((l)[(at0).toNat]'hx6_16).t.right⟩⟩ : LnkL)]).length) (c6_21), 28, 3, (((L13_1).set ((at0).toNat) (⟨A15_9, c15_9, ⟨((((l)[(at0).toNat]'hx5_4).t.keys).take (((((l)[(at0).toNat]'hx4_2).t.keys.length + 1) / 2))), (((l)[(at0).toNat]'hx5_12).t.keys)[((((l)[(at0).toNat]'hx4_2).t.keys.length + 1) / 2)]'hx5_16, (((l).length : Nat) : Int)⟩⟩ : LnkL) ++ [(⟨A16_8, c16_8, ⟨((((l)[(at0).toNat]'hx6_3).t.keys).drop (((((l)[(at0).toNat]'hx4_2).t.keys.length + 1) / 2))), ((l)[(at0).toNat]'hx6_11).t.high, ((l)[(at0).toNat]'hx6_16).t.right⟩⟩ : LnkL)]).length), ((L13_1).set ((at0).toNat) (⟨A15_9, c15_9, ⟨((((l)[(at0).toNat]'hx5_4).t.keys).take (((((l)[(at0).toNat]'hx4_2).t.keys.length + 1) / 2))), (((l)[(at0).toNat]'hx5_12).t.keys)[((((l)[(at0).toNat]'hx4_2).t.keys.length + 1) / 2)]'hx5_16, (((l).length : Nat) : Int)⟩⟩ : LnkL) ++ [(⟨A16_8, c16_8, ⟨((((l)[(at0).toNat]'hx6_3).t.keys).drop (((((l)[(at0).toNat]'hx4_2).t.keys.length + 1) / 2))), ((l)[(at0).toNat]'hx6_11).t.high, ((l)[(at0).toNat]'hx6_16).t.right⟩⟩ : LnkL)]).flatMap encL⟩]]) 3 0 hM6_20 rfl rfl rfl Try.underlying23 el28 ⟨rfl, by decide⟩ rfl rfl rfl (hM6_20.rd 0 rfl) (by rw [flat_len encL_len]; first | done | (simp; done) | (simp; omega)) (all_flat_one (fun _ => rfl) _) (by first | omega | (simp; omega)) (by first | omega | (simp; omega)) (by first | (simp; done) | (simp; omega)) (by simp) (fun _ _ => rfl) (fun w6_21 A6_21 c6_21 hc6_21 hM6_21 => ?_)
            try dsimp only at hM6_21
            refine O.stop (hM6_21.pick [2] (by decide) rfl) ?_
            refine AO.val (v := .slice (A6_21) (((L13_1).set ((at0).toNat) (⟨A15_9, c15_9, ⟨((((l)[(at0).toNat]'hx5_4).t.keys).take (((((l)[(at0).toNat]'hx4_2).t.keys.length + 1) / 2))), (((l)[(at0).toNat]'hx5_12).t.keys)[((((l)[(at0).toNat]'hx4_2).t.keys.length + 1) / 2)]'hx5_16, (((l).length : Nat) : Int)⟩⟩ : LnkL) ++ [(⟨A16_8, c16_8, ⟨((((l)[(at0).toNat]'hx6_3).t.keys).drop (((((l)[(at0).toNat]'hx4_2).t.keys.length + 1) / 2))), ((l)[(at0).toNat]'hx6_11).t.high, ((l)[(at0).toNat]'hx6_16).t.right⟩⟩ : LnkL)]).length) (c6_21)) 22 (ls' := [true, true, true, true, true, true, true, true, true, true, true, true, true, true, true, true, true, true, true, true, true, true, true, false]) rfl (by kernel_rfl) rfl rfl (fun w2 hw2 => Ru.assign rfl) rfl ?_
            refine AO.val (v := .bool (true)) 23 (ls' := [true, true, true, true, true, true, true, true, true, true, true, true, true, true, true, true, true, true, true, true, true, true, true, true]) rfl (by kernel_rfl) rfl rfl (fun w2 hw2 => Ru.assign rfl) rfl ?_
            refine AO.nil (by kernel_rfl) ?_
            have hMk22 : Mem w w6_21 [] [((L13_1).set ((at0).toNat) (⟨A15_9, c15_9, ⟨((((l)[(at0).toNat]'hx5_4).t.keys).take (((((l)[(at0).toNat]'hx4_2).t.keys.length + 1) / 2))), (((l)[(at0).toNat]'hx5_12).t.keys)[((((l)[(at0).toNat]'hx4_2).t.keys.length + 1) / 2)]'hx5_16, (((l).length : Nat) : Int)⟩⟩ : LnkL) ++ [(⟨A16_8, c16_8, ⟨((((l)[(at0).toNat]'hx6_3).t.keys).drop (((((l)[(at0).toNat]'hx4_2).t.keys.length + 1) / 2))), ((l)[(at0).toNat]'hx6_11).t.high, ((l)[(at0).toNat]'hx6_16).t.right⟩⟩ : LnkL)]).map (keyF 3), [⟨.slice (bl b6_20) (1) (1), 28, 3, 1, ([(⟨A16_8, c16_8, ⟨((((l)[(at0).toNat]'hx6_3).t.keys).drop (((((l)[(at0).toNat]'hx4_2).t.keys.length + 1) / 2))), ((l)[(at0).toNat]'hx6_11).t.high, ((l)[(at0).toNat]'hx6_16).t.right⟩⟩ : LnkL)]).flatMap encL⟩], [⟨.slice (A6_21) (((L13_1).set ((at0).toNat) (⟨A15_9, c15_9, ⟨((((l)[(at0).toNat]'hx5_4).t.keys).take (((((l)[(at0).toNat]'hx4_2).t.keys.length + 1) / 2))), (((l)[(at0).toNat]'hx5_12).t.keys)[((((l)[(at0).toNat]'hx4_2).t.keys.length + 1) / 2)]'hx5_16, (((l).length : Nat) : Int)⟩⟩ : LnkL) ++ [(⟨A16_8, c16_8, ⟨((((l)[(at0).toNat]'hx6_3).t.keys).drop (((((l)[(at0).toNat]'hx4_2).t.keys.length + 1) / 2))), ((l)[(at0).toNat]'hx6_11).t.high, ((l)[(at0).toNat]'hx6_16).t.right⟩⟩ : LnkL)]).length) (c6_21), 28, 3, (((L13_1).set ((at0).toNat) (⟨A15_9, c15_9, ⟨((((l)[(at0).toNat]'hx5_4).t.keys).take (((((l)[(at0).toNat]'hx4_2).t.keys.length + 1) / 2))), (((l)[(at0).toNat]'hx5_12).t.keys)[((((l)[(at0).toNat]'hx4_2).t.keys.length + 1) / 2)]'hx5_16, (((l).length : Nat) : Int)⟩⟩ : LnkL) ++ [(⟨A16_8, c16_8, ⟨((((l)[(at0).toNat]'hx6_3).t.keys).drop (((((l)[(at0).toNat]'hx4_2).t.keys.length + 1) / 2))), ((l)[(at0).toNat]'hx6_11).t.high, ((l)[(at0).toNat]'hx6_16).t.right⟩⟩ : LnkL)]).length), ((L13_1).set ((at0).toNat) (⟨A15_9, c15_9, ⟨((((l)[(at0).toNat]'hx5_4).t.keys).take (((((l)[(at0).toNat]'hx4_2).t.keys.length + 1) / 2))), (((l)[(at0).toNat]'hx5_12).t.keys)[((((l)[(at0).toNat]'hx4_2).t.keys.length + 1) / 2)]'hx5_16, (((l).length : Nat) : Int)⟩⟩ : LnkL) ++ [(⟨A16_8, c16_8, ⟨((((l)[(at0).toNat]'hx6_3).t.keys).drop (((((l)[(at0).toNat]'hx4_2).t.keys.length + 1) / 2))), ((l)[(at0).toNat]'hx6_11).t.high, ((l)[(at0).toNat]'hx6_16).t.right⟩⟩ : LnkL)]).flatMap encL⟩]] := Mem.kapp (l := (L13_1).set ((at0).toNat) (⟨A15_9, c15_9, ⟨((((l)[(at0).toNat]'hx5_4).t.keys).take (((((l)[(at0).toNat]'hx4_2).t.keys.length + 1) / 2))), (((l)[(at0).toNat]'hx5_12).t.keys)[((((l)[(at0).toNat]'hx4_2).t.keys.length + 1) / 2)]'hx5_16, (((l).length : Nat) : Int)⟩⟩ : LnkL)) (x := (⟨A16_8, c16_8, ⟨((((l)[(at0).toNat]'hx6_3).t.keys).drop (((((l)[(at0).toNat]'hx4_2).t.keys.length + 1) / 2))), ((l)[(at0).toNat]'hx6_11).t.high, ((l)[(at0).toNat]'hx6_16).t.right⟩⟩ : LnkL)) (M := [[⟨.slice (bl b6_20) (1) (1), 28, 3, 1, ([(⟨A16_8, c16_8, ⟨((((l)[(at0).toNat]'hx6_3).t.keys).drop (((((l)[(at0).toNat]'hx4_2).t.keys.length + 1) / 2))), ((l)[(at0).toNat]'hx6_11).t.high, ((l)[(at0).toNat]'hx6_16).t.right⟩⟩ : LnkL)]).flatMap encL⟩], [⟨.slice (A6_21) (((L13_1).set ((at0).toNat) (⟨A15_9, c15_9, ⟨((((l)[(at0).toNat]'hx5_4).t.keys).take (((((l)[(at0).toNat]'hx4_2).t.keys.length + 1) / 2))), (((l)[(at0).toNat]'hx5_12).t.keys)[((((l)[(at0).toNat]'hx4_2).t.keys.length + 1) / 2)]'hx5_16, (((l).length : Nat) : Int)⟩⟩ : LnkL) ++ [(⟨A16_8, c16_8, ⟨((((l)[(at0).toNat]'hx6_3).t.keys).drop (((((l)[(at0).toNat]'hx4_2).t.keys.length + 1) / 2))), ((l)[(at0).toNat]'hx6_11).t.high, ((l)[(at0).toNat]'hx6_16).t.right⟩⟩ : LnkL)]).length) (c6_21), 28, 3, (((L13_1).set ((at0).toNat) (⟨A15_9, c15_9, ⟨((((l)[(at0).toNat]'hx5_4).t.keys).take (((((l)[(at0).toNat]'hx4_2).t.keys.length + 1) / 2))), (((l)[(at0).toNat]'hx5_12).t.keys)[((((l)[(at0).toNat]'hx4_2).t.keys.length + 1) / 2)]'hx5_16, (((l).length : Nat) : Int)⟩⟩ : LnkL) ++ [(⟨A16_8, c16_8, ⟨((((l)[(at0).toNat]'hx6_3).t.keys).drop (((((l)[(at0).toNat]'hx4_2).t.keys.length + 1) / 2))), ((l)[(at0).toNat]'hx6_11).t.high, ((l)[(at0).toNat]'hx6_16).t.right⟩⟩ : LnkL)]).length), ((L13_1).set ((at0).toNat) (⟨A15_9, c15_9, ⟨((((l)[(at0).toNat]'hx5_4).t.keys).take (((((l)[(at0).toNat]'hx4_2).t.keys.length + 1) / 2))), (((l)[(at0).toNat]'hx5_12).t.keys)[((((l)[(at0).toNat]'hx4_2).t.keys.length + 1) / 2)]'hx5_16, (((l).length : Nat) : Int)⟩⟩ : LnkL) ++ [(⟨A16_8, c16_8, ⟨((((l)[(at0).toNat]'hx6_3).t.keys).drop (((((l)[(at0).toNat]'hx4_2).t.keys.length + 1) / 2))), ((l)[(at0).toNat]'hx6_11).t.high, ((l)[(at0).toNat]'hx6_16).t.right⟩⟩ : LnkL)]).flatMap encL⟩]]) (hM6_21.pick [2, 1, 0, 3] (by decide) rfl)
            refine C.ret ?_
            refine P2 (v := .slice (A6_21) (((L13_1).set ((at0).toNat) (⟨A15_9, c15_9, ⟨((((l)[(at0).toNat]'hx5_4).t.keys).take (((((l)[(at0).toNat]'hx4_2).t.keys.length + 1) / 2))), (((l)[(at0).toNat]'hx5_12).t.keys)[((((l)[(at0).toNat]'hx4_2).t.keys.length + 1) / 2)]'hx5_16, (((l).length : Nat) : Int)⟩⟩ : LnkL) ++ [(⟨A16_8, c16_8, ⟨((((l)[(at0).toNat]'hx6_3).t.keys).drop (((((l)[(at0).toNat]'hx4_2).t.keys.length + 1) / 2))), ((l)[(at0).toNat]'hx6_11).t.high, ((l)[(at0).toNat]'hx6_16).t.right⟩⟩ : LnkL)]).length) (c6_21)) (v' := .bool (true)) rfl rfl ?_
            have hq23 : ((L13_1).set ((at0).toNat) (⟨A15_9, c15_9, ⟨((((l)[(at0).toNat]'hx5_4).t.keys).take (((((l)[(at0).toNat]'hx4_2).t.keys.length + 1) / 2))), (((l)[(at0).toNat]'hx5_12).t.keys)[((((l)[(at0).toNat]'hx4_2).t.keys.length + 1) / 2)]'hx5_16, (((l).length : Nat) : Int)⟩⟩ : LnkL) ++ [(⟨A16_8, c16_8, ⟨((((l)[(at0).toNat]'hx6_3).t.keys).drop (((((l)[(at0).toNat]'hx4_2).t.keys.length + 1) / 2))), ((l)[(at0).toNat]'hx6_11).t.high, ((l)[(at0).toNat]'hx6_16).t.right⟩⟩ : LnkL)] : List LnkL) = ((L13_1).set ((at0).toNat) (⟨A15_9, c15_9, ⟨((((l)[(at0).toNat]'hx5_4).t.keys).take (((((l)[(at0).toNat]'hx4_2).t.keys.length + 1) / 2))), (((l)[(at0).toNat]'hx5_12).t.keys)[((((l)[(at0).toNat]'hx4_2).t.keys.length + 1) / 2)]'hx5_16, (((l).length : Nat) : Int)⟩⟩ : LnkL) ++ [(⟨A16_8, c16_8, ⟨((((l)[(at0).toNat]'hx6_3).t.keys).drop (((((l)[(at0).toNat]'hx4_2).t.keys.length + 1) / 2))), ((l)[(at0).toNat]'hx6_11).t.high, ((l)[(at0).toNat]'hx6_16).t.right⟩⟩ : LnkL)]) := (by first | rfl | simp | (simp; omega))
            have hMn23 : Mem w w6_21 [] [((L13_1).set ((at0).toNat) (⟨A15_9, c15_9, ⟨((((l)[(at0).toNat]'hx5_4).t.keys).take (((((l)[(at0).toNat]'hx4_2).t.keys.length + 1) / 2))), (((l)[(at0).toNat]'hx5_12).t.keys)[((((l)[(at0).toNat]'hx4_2).t.keys.length + 1) / 2)]'hx5_16, (((l).length : Nat) : Int)⟩⟩ : LnkL) ++ [(⟨A16_8, c16_8, ⟨((((l)[(at0).toNat]'hx6_3).t.keys).drop (((((l)[(at0).toNat]'hx4_2).t.keys.length + 1) / 2))), ((l)[(at0).toNat]'hx6_11).t.high, ((l)[(at0).toNat]'hx6_16).t.right⟩⟩ : LnkL)]).map (keyF 3), [⟨.slice (bl b6_20) (1) (1), 28, 3, 1, ([(⟨A16_8, c16_8, ⟨((((l)[(at0).toNat]'hx6_3).t.keys).drop (((((l)[(at0).toNat]'hx4_2).t.keys.length + 1) / 2))), ((l)[(at0).toNat]'hx6_11).t.high, ((l)[(at0).toNat]'hx6_16).t.right⟩⟩ : LnkL)]).flatMap encL⟩], [⟨.slice (A6_21) (((L13_1).set ((at0).toNat) (⟨A15_9, c15_9, ⟨((((l)[(at0).toNat]'hx5_4).t.keys).take (((((l)[(at0).toNat]'hx4_2).t.keys.length + 1) / 2))), (((l)[(at0).toNat]'hx5_12).t.keys)[((((l)[(at0).toNat]'hx4_2).t.keys.length + 1) / 2)]'hx5_16, (((l).length : Nat) : Int)⟩⟩ : LnkL) ++ [(⟨A16_8, c16_8, ⟨((((l)[(at0).toNat]'hx6_3).t.keys).drop (((((l)[(at0).toNat]'hx4_2).t.keys.length + 1) / 2))), ((l)[(at0).toNat]'hx6_11).t.high, ((l)[(at0).toNat]'hx6_16).t.right⟩⟩ : LnkL)]).length) (c6_21), 28, 3, (((L13_1).set ((at0).toNat) (⟨A15_9, c15_9, ⟨((((l)[(at0).toNat]'hx5_4).t.keys).take (((((l)[(at0).toNat]'hx4_2).t.keys.length + 1) / 2))), (((l)[(at0).toNat]'hx5_12).t.keys)[((((l)[(at0).toNat]'hx4_2).t.keys.length + 1) / 2)]'hx5_16, (((l).length : Nat) : Int)⟩⟩ : LnkL) ++ [(⟨A16_8, c16_8, ⟨((((l)[(at0).toNat]'hx6_3).t.keys).drop (((((l)[(at0).toNat]'hx4_2).t.keys.length + 1) / 2))), ((l)[(at0).toNat]'hx6_11).t.high, ((l)[(at0).toNat]'hx6_16).t.right⟩⟩ : LnkL)]).length), (((L13_1).set ((at0).toNat) (⟨A15_9, c15_9, ⟨((((l)[(at0).toNat]'hx5_4).t.keys).take (((((l)[(at0).toNat]'hx4_2).t.keys.length + 1) / 2))), (((l)[(at0).toNat]'hx5_12).t.keys)[((((l)[(at0).toNat]'hx4_2).t.keys.length + 1) / 2)]'hx5_16, (((l).length : Nat) : Int)⟩⟩ : LnkL) ++ [(⟨A16_8, c16_8, ⟨((((l)[(at0).toNat]'hx6_3).t.keys).drop (((((l)[(at0).toNat]'hx4_2).t.keys.length + 1) / 2))), ((l)[(at0).toNat]'hx6_11).t.high, ((l)[(at0).toNat]'hx6_16).t.right⟩⟩ : LnkL)])).flatMap encL⟩]] := hMk22.relen 2 (n' := ((L13_1).set ((at0).toNat) (⟨A15_9, c15_9, ⟨((((l)[(at0).toNat]'hx5_4).t.keys).take (((((l)[(at0).toNat]'hx4_2).t.keys.length + 1) / 2))), (((l)[(at0).toNat]'hx5_12).t.keys)[((((l)[(at0).toNat]'hx4_2).t.keys.length + 1) / 2)]'hx5_16, (((l).length : Nat) : Int)⟩⟩ : LnkL) ++ [(⟨A16_8, c16_8, ⟨((((l)[(at0).toNat]'hx6_3).t.keys).drop (((((l)[(at0).toNat]'hx4_2).t.keys.length + 1) / 2))), ((l)[(at0).toNat]'hx6_11).t.high, ((l)[(at0).toNat]'hx6_16).t.right⟩⟩ : LnkL)]).length) (xs' := (((L13_1).set ((at0).toNat) (⟨A15_9, c15_9, ⟨((((l)[(at0).toNat]'hx5_4).t.keys).take (((((l)[(at0).toNat]'hx4_2).t.keys.length + 1) / 2))), (((l)[(at0).toNat]'hx5_12).t.keys)[((((l)[(at0).toNat]'hx4_2).t.keys.length + 1) / 2)]'hx5_16, (((l).length : Nat) : Int)⟩⟩ : LnkL) ++ [(⟨A16_8, c16_8, ⟨((((l)[(at0).toNat]'hx6_3).t.keys).drop (((((l)[(at0).toNat]'hx4_2).t.keys.length + 1) / 2))), ((l)[(at0).toNat]'hx6_11).t.high, ((l)[(at0).toNat]'hx6_16).t.right⟩⟩ : LnkL)])).flatMap encL) rfl (by first | rfl | exact congrArg List.length hq23 | (have hqq := congrArg List.length hq23; first | omega | (simp at hqq ⊢; omega)) | (simp; done) | (simp; omega)) (congrArg (fun z_ => (z_).flatMap encL) hq23) rfl
            exact ⟨(L13_1).set ((at0).toNat) (⟨A15_9, c15_9, ⟨((((l)[(at0).toNat]'hx5_4).t.keys).take (((((l)[(at0).toNat]'hx4_2).t.keys.length + 1) / 2))), (((l)[(at0).toNat]'hx5_12).t.keys)[((((l)[(at0).toNat]'hx4_2).t.keys.length + 1) / 2)]'hx5_16, (((l).length : Nat) : Int)⟩⟩ : LnkL) ++ [(⟨A16_8, c16_8, ⟨((((l)[(at0).toNat]'hx6_3).t.keys).drop (((((l)[(at0).toNat]'hx4_2).t.keys.length + 1) / 2))), ((l)[(at0).toNat]'hx6_11).t.high, ((l)[(at0).toNat]'hx6_16).t.right⟩⟩ : LnkL)], A6_21, c6_21, (by rw [hs]; first | rfl | simp), (by rw [hs, Option.getD_some]; exact spl_ts2 hat hts3_1 (by simp only [splY, midK]; rw [getD_lt hx5_16]) rfl), (hMn23.pick [2, 0] (by decide) rfl)⟩

theorem equalInts_fn (A : Option Addr) (c : Nat) (a : List Int) (B : Option Addr) (d : Nat) (b : List Int) (w : World) (hA : Rd w A ((a).map I)) (hB : Rd w B ((b).map I)) (ha : a.length ≤ 1048576) :
    Does Try.prog 25 [.slice (A) ((a).length) (c), .slice (B) ((b).length) (d)] w (fun v w1 => v = .bool (decide (a = b)) ∧ Mem w w1 [] []) := by
  have hM : Mem w w [] [] := Mem.refl
  refine Does.enter1 Try.func25 rfl Try.results25 Try.ntmps25 rfl ?_
  refine C.seq ?_
  refine C.region ?_
  refine O.val (v := .bool (false)) rfl (Ru.assign rfl) rfl ?_
  refine O.nil ?_
  refine C.seq ?_
  refine C.seq ?_
  refine C.region ?_
  refine O.val (v := .slice (A) ((a).length) (c)) rfl (Ru.move rfl) rfl ?_
  refine O.val (v := I ((((a).length : Nat) : Int))) rfl (Ru.blenSlice Try.underlying26 rfl) rfl ?_
  refine O.val (v := .slice (B) ((b).length) (d)) rfl (Ru.move rfl) rfl ?_
  refine O.val (v := I ((((b).length : Nat) : Int))) rfl (Ru.blenSlice Try.underlying26 rfl) rfl ?_
  refine O.val (v := .bool (decide ((((a).length : Nat) : Int) ≠ (((b).length : Nat) : Int)))) rfl (Ru.neq rfl rfl) rfl ?_
  refine O.nil ?_
  refine C.cond (p := (((a).length : Nat) : Int) ≠ (((b).length : Nat) : Int)) rfl (fun c10 => ?_) (fun c10 => ?_)
  · refine C.seq ?_
    refine C.region ?_
    refine O.val (v := .bool (false)) rfl (Ru.assign rfl) rfl ?_
    refine O.nil ?_
    refine C.ret ?_
    refine P1 (v := .bool (false)) rfl ?_
    exact ⟨(by rw [ne_len (by omega)]), (Mem.none hM)⟩
  · refine C.skip ?_
    refine C.seq ?_
    refine C.seq ?_
    refine C.region ?_
    refine O.val (v := I (0)) rfl (Ru.assign rfl) rfl ?_
    refine O.nil ?_
    refine C.block ?_
    refine C.loop (ι := Nat) (fun k => ([(0, .slice (A) ((a).length) (c)), (1, .slice (B) ((b).length) (d)), (5, I (((k : Nat) : Int)))] : List (Nat × Value))) (fun k w_ => (k ≤ a.length) ∧ (a.take k = b.take k) ∧ (Mem w w_ [] [])) (fun k => a.length - k) (0) (Has.cons rfl (Has.cons rfl (Has.cons (I_congr (by first | rfl | omega | (simp; omega) | simp)) Has.nil))) ⟨(Nat.zero_le _), (by (try dsimp only); simp), (hM.pick [] (by decide) rfl)⟩ (fun k σ w_l4 hI => ?_)
    try dsimp only at hI
    obtain ⟨hi0_l4, hi1_l4, hM_l4⟩ := hI
    refine C.seq ?_
    refine C.seq ?_
    refine C.region ?_
    refine O.val (v := I (((k : Nat) : Int))) rfl (Ru.move rfl) rfl ?_
    refine O.val (v := .slice (A) ((a).length) (c)) rfl (Ru.move rfl) rfl ?_
    refine O.val (v := I ((((a).length : Nat) : Int))) rfl (Ru.blenSlice Try.underlying26 rfl) rfl ?_
    refine O.val (v := .bool (decide (((k : Nat) : Int) < (((a).length : Nat) : Int)))) rfl (Ru.lss rfl rfl) rfl ?_
    refine O.nil ?_
    refine C.cond (p := ((k : Nat) : Int) < (((a).length : Nat) : Int)) rfl (fun c14 => ?_) (fun c14 => ?_)
    · refine C.skip ?_
      refine C.seq ?_
      refine C.block ?_
      refine C.seq ?_
      refine C.draws (fun w2 => Mem w w2 [] []) mixed (by kernel_rfl) (hM_l4.ext (kdrawn _)) ?_
      refine QO.val (v := .slice (A) ((a).length) (c)) rfl (fun w2 hw2 => Ru.move rfl) rfl ?_
      refine QO.val (v := I (((k : Nat) : Int))) rfl (fun w2 hw2 => Ru.move rfl) rfl ?_
      have hx6_2 : k < (a).length := (by first | omega | (simp; omega))
      refine QO.val (v := .pointer (ofs (A) (k * 1))) rfl (fun w2 hw2 => Ru.indexA (j := k) Try.underlying26 el3 rfl rfl (smm (hA.at hw2) hx6_2) (by omega) (by first | omega | (simp; omega))) rfl ?_
      refine QO.val rfl (fun w2 hw2 => Ru.load1 el3 rfl (ldm (hA.at hw2) hx6_2)) rfl ?_
      refine QO.val (v := .slice (B) ((b).length) (d)) rfl (fun w2 hw2 => Ru.move rfl) rfl ?_
      refine QO.val (v := I (((k : Nat) : Int))) rfl (fun w2 hw2 => Ru.move rfl) rfl ?_
      have hx6_6 : k < (b).length := (by first | omega | (simp; omega))
      refine QO.val (v := .pointer (ofs (B) (k * 1))) rfl (fun w2 hw2 => Ru.indexA (j := k) Try.underlying26 el3 rfl rfl (smm (hB.at hw2) hx6_6) (by omega) (by first | omega | (simp; omega))) rfl ?_
      refine QO.val rfl (fun w2 hw2 => Ru.load1 el3 rfl (ldm (hB.at hw2) hx6_6)) rfl ?_
      refine QO.val (v := .bool (decide ((a)[k]'hx6_2 ≠ (b)[k]'hx6_6))) rfl (fun w2 hw2 => Ru.neq rfl rfl) rfl ?_
      refine QO.nil ?_
      intro w6d hM6d
      refine C.cond (p := (a)[k]'hx6_2 ≠ (b)[k]'hx6_6) rfl (fun c25 => ?_) (fun c25 => ?_)
      · refine C.seq ?_
        refine C.region ?_
        refine O.val (v := .bool (false)) rfl (Ru.assign rfl) rfl ?_
        refine O.nil ?_
        refine C.ret ?_
        refine P1 (v := .bool (false)) rfl ?_
        exact ⟨(by rw [ne_at hx6_2 hx6_6 (by simpa using c25)]), (Mem.none hM6d)⟩
      · refine C.skip ?_
        refine C.region ?_
        refine O.val (v := I (((k : Nat) : Int))) rfl (Ru.move rfl) rfl ?_
        refine O.val (v := I ((((k + 1) : Nat) : Int))) rfl (Ru.congr (v := I ((((k : Nat) : Int) + 1))) (v' := I ((((k + 1) : Nat) : Int))) (Ru.add rfl rfl (by omega)) (I_congr (by first | omega | simp))) rfl ?_
        refine O.val (v := I ((((k + 1) : Nat) : Int))) rfl (Ru.assign rfl) rfl ?_
        refine O.nil ?_
        exact loopEnd (k + 1) (by (try dsimp only); omega) (Has.cons rfl (Has.cons rfl (Has.cons (I_congr (by first | rfl | omega | (simp; omega) | simp)) Has.nil))) ⟨(by (try dsimp only); omega), (eq_step hx6_2 hx6_6 hi1_l4 (by simpa using c25)), (hM6d.pick [] (by decide) rfl)⟩
    · refine C.exit ?_
      refine C.seq ?_
      refine C.region ?_
      refine O.val (v := .bool (true)) rfl (Ru.assign rfl) rfl ?_
      refine O.nil ?_
      refine C.ret ?_
      refine P1 (v := .bool (true)) rfl ?_
      exact ⟨(by rw [eq_all (by omega) (by omega) hi1_l4]), (Mem.none hM_l4)⟩

theorem eqIntS_fn (A : Option Addr) (c : Nat) (a : List Int) (B : Option Addr) (d : Nat) (b : List Int) (w : World) (hA : Rd w A ((a).map I)) (hB : Rd w B ((b).map I)) (ha : a.length ≤ 1048576) :
    Does Try.prog 69 [.slice (A) ((a).length) (c), .slice (B) ((b).length) (d)] w (fun v w1 => v = .bool (decide (a = b)) ∧ Mem w w1 [] []) := by
  have hM : Mem w w [] [] := Mem.refl
  refine Does.enter1 Try.func69 rfl Try.results69 Try.ntmps69 rfl ?_
  refine C.seq ?_
  refine C.region ?_
  refine O.val (v := .bool (false)) rfl (Ru.assign rfl) rfl ?_
  refine O.nil ?_
  refine C.seq ?_
  refine C.seq ?_
  refine C.region ?_
  refine O.val (v := .slice (A) ((a).length) (c)) rfl (Ru.move rfl) rfl ?_
  refine O.val (v := I ((((a).length : Nat) : Int))) rfl (Ru.blenSlice Try.underlying26 rfl) rfl ?_
  refine O.val (v := .slice (B) ((b).length) (d)) rfl (Ru.move rfl) rfl ?_
  refine O.val (v := I ((((b).length : Nat) : Int))) rfl (Ru.blenSlice Try.underlying26 rfl) rfl ?_
  refine O.val (v := .bool (decide ((((a).length : Nat) : Int) ≠ (((b).length : Nat) : Int)))) rfl (Ru.neq rfl rfl) rfl ?_
  refine O.nil ?_
  refine C.cond (p := (((a).length : Nat) : Int) ≠ (((b).length : Nat) : Int)) rfl (fun c10 => ?_) (fun c10 => ?_)
  · refine C.seq ?_
    refine C.region ?_
    refine O.val (v := .bool (false)) rfl (Ru.assign rfl) rfl ?_
    refine O.nil ?_
    refine C.ret ?_
    refine P1 (v := .bool (false)) rfl ?_
    exact ⟨(by rw [ne_len (by omega)]), (Mem.none hM)⟩
  · refine C.skip ?_
    refine C.seq ?_
    refine C.seq ?_
    refine C.region ?_
    refine O.val (v := I (0)) rfl (Ru.assign rfl) rfl ?_
    refine O.nil ?_
    refine C.block ?_
    refine C.loop (ι := Nat) (fun k => ([(0, .slice (A) ((a).length) (c)), (1, .slice (B) ((b).length) (d)), (5, I (((k : Nat) : Int)))] : List (Nat × Value))) (fun k w_ => (k ≤ a.length) ∧ (a.take k = b.take k) ∧ (Mem w w_ [] [])) (fun k => a.length - k) (0) (Has.cons rfl (Has.cons rfl (Has.cons (I_congr (by first | rfl | omega | (simp; omega) | simp)) Has.nil))) ⟨(Nat.zero_le _), (by (try dsimp only); simp), (hM.pick [] (by decide) rfl)⟩ (fun k σ w_l4 hI => ?_)
    try dsimp only at hI
    obtain ⟨hi0_l4, hi1_l4, hM_l4⟩ := hI
    refine C.seq ?_
    refine C.seq ?_
    refine C.region ?_
    refine O.val (v := I (((k : Nat) : Int))) rfl (Ru.move rfl) rfl ?_
    refine O.val (v := .slice (A) ((a).length) (c)) rfl (Ru.move rfl) rfl ?_
    refine O.val (v := I ((((a).length : Nat) : Int))) rfl (Ru.blenSlice Try.underlying26 rfl) rfl ?_
    refine O.val (v := .bool (decide (((k : Nat) : Int) < (((a).length : Nat) : Int)))) rfl (Ru.lss rfl rfl) rfl ?_
    refine O.nil ?_
    refine C.cond (p := ((k : Nat) : Int) < (((a).length : Nat) : Int)) rfl (fun c14 => ?_) (fun c14 => ?_)
    · refine C.skip ?_
      refine C.seq ?_
      refine C.block ?_
      refine C.seq ?_
      refine C.draws (fun w2 => Mem w w2 [] []) mixed (by kernel_rfl) (hM_l4.ext (kdrawn _)) ?_
      refine QO.val (v := .slice (A) ((a).length) (c)) rfl (fun w2 hw2 => Ru.move rfl) rfl ?_
      refine QO.val (v := I (((k : Nat) : Int))) rfl (fun w2 hw2 => Ru.move rfl) rfl ?_
      have hx6_2 : k < (a).length := (by first | omega | (simp; omega))
      refine QO.val (v := .pointer (ofs (A) (k * 1))) rfl (fun w2 hw2 => Ru.indexA (j := k) Try.underlying26 el3 rfl rfl (smm (hA.at hw2) hx6_2) (by omega) (by first | omega | (simp; omega))) rfl ?_
      refine QO.val rfl (fun w2 hw2 => Ru.load1 el3 rfl (ldm (hA.at hw2) hx6_2)) rfl ?_
      refine QO.val (v := .slice (B) ((b).length) (d)) rfl (fun w2 hw2 => Ru.move rfl) rfl ?_
      refine QO.val (v := I (((k : Nat) : Int))) rfl (fun w2 hw2 => Ru.move rfl) rfl ?_
      have hx6_6 : k < (b).length := (by first | omega | (simp; omega))
      refine QO.val (v := .pointer (ofs (B) (k * 1))) rfl (fun w2 hw2 => Ru.indexA (j := k) Try.underlying26 el3 rfl rfl (smm (hB.at hw2) hx6_6) (by omega) (by first | omega | (simp; omega))) rfl ?_
      refine QO.val rfl (fun w2 hw2 => Ru.load1 el3 rfl (ldm (hB.at hw2) hx6_6)) rfl ?_
      refine QO.val (v := .bool (decide ((a)[k]'hx6_2 ≠ (b)[k]'hx6_6))) rfl (fun w2 hw2 => Ru.neq rfl rfl) rfl ?_
      refine QO.nil ?_
      intro w6d hM6d
      refine C.cond (p := (a)[k]'hx6_2 ≠ (b)[k]'hx6_6) rfl (fun c25 => ?_) (fun c25 => ?_)
      · refine C.seq ?_
        refine C.region ?_
        refine O.val (v := .bool (false)) rfl (Ru.assign rfl) rfl ?_
        refine O.nil ?_
        refine C.ret ?_
        refine P1 (v := .bool (false)) rfl ?_
        exact ⟨(by rw [ne_at hx6_2 hx6_6 (by simpa using c25)]), (Mem.none hM6d)⟩
      · refine C.skip ?_
        refine C.region ?_
        refine O.val (v := I (((k : Nat) : Int))) rfl (Ru.move rfl) rfl ?_
        refine O.val (v := I ((((k + 1) : Nat) : Int))) rfl (Ru.congr (v := I ((((k : Nat) : Int) + 1))) (v' := I ((((k + 1) : Nat) : Int))) (Ru.add rfl rfl (by omega)) (I_congr (by first | omega | simp))) rfl ?_
        refine O.val (v := I ((((k + 1) : Nat) : Int))) rfl (Ru.assign rfl) rfl ?_
        refine O.nil ?_
        exact loopEnd (k + 1) (by (try dsimp only); omega) (Has.cons rfl (Has.cons rfl (Has.cons (I_congr (by first | rfl | omega | (simp; omega) | simp)) Has.nil))) ⟨(by (try dsimp only); omega), (eq_step hx6_2 hx6_6 hi1_l4 (by simpa using c25)), (hM6d.pick [] (by decide) rfl)⟩
    · refine C.exit ?_
      refine C.seq ?_
      refine C.region ?_
      refine O.val (v := .bool (true)) rfl (Ru.assign rfl) rfl ?_
      refine O.nil ?_
      refine C.ret ?_
      refine P1 (v := .bool (true)) rfl ?_
      exact ⟨(by rw [eq_all (by omega) (by omega) hi1_l4]), (Mem.none hM_l4)⟩

theorem eqLink_fn (a : LnkL) (b : LnkL) (w : World) (hNa : Rd w (a).A ((a).t.keys.map I)) (hNb : Rd w (b).A ((b).t.keys.map I)) (ha : a.t.keys.length ≤ 1048576) :
    Does Try.prog 56 [.agg #[.slice ((a).A) ((a).t.keys.length) ((a).cp), I ((a).t.high), I ((a).t.right)], .agg #[.slice ((b).A) ((b).t.keys.length) ((b).cp), I ((b).t.high), I ((b).t.right)]] w (fun v w1 => v = .bool (decide (a.t = b.t)) ∧ Mem w w1 [] []) := by
  have hM : Mem w w [] [] := Mem.refl
  refine Does.enter1 Try.func56 rfl Try.results56 Try.ntmps56 rfl ?_
  refine C.seq ?_
  refine C.region ?_
  refine O.mbox (k := 3) (vs := [.slice ((a).A) ((a).t.keys.length) ((a).cp), I ((a).t.high), I ((a).t.right)]) hM rfl rfl rfl rfl rfl (fun w0_0 b0_0 hb0_0 (hM0_0 : Mem w w0_0 [] [[⟨.slice (bl b0_0) 1 1, 28, 3, 1, [.slice ((a).A) ((a).t.keys.length) ((a).cp), I ((a).t.high), I ((a).t.right)]⟩]]) => ?_)
  refine O.mbox (k := 3) (vs := [.slice ((b).A) ((b).t.keys.length) ((b).cp), I ((b).t.high), I ((b).t.right)]) hM0_0 rfl rfl rfl rfl rfl (fun w0_1 b0_1 hb0_1 (hM0_1 : Mem w w0_1 [] [[⟨.slice (bl b0_1) 1 1, 28, 3, 1, [.slice ((b).A) ((b).t.keys.length) ((b).cp), I ((b).t.high), I ((b).t.right)]⟩], [⟨.slice (bl b0_0) 1 1, 28, 3, 1, [.slice ((a).A) ((a).t.keys.length) ((a).cp), I ((a).t.high), I ((a).t.right)]⟩]]) => ?_)
  refine O.val (v := .bool (false)) rfl (Ru.assign rfl) rfl ?_
  refine O.nil ?_
  refine C.seq ?_
  refine C.seq ?_
  refine C.region ?_
  refine O.val (v := .pointer (ofs (bl b0_0) (0))) rfl (Ru.fieldA fl28_0 rfl rfl) rfl ?_
  refine O.val rfl (Ru.load1 el26 rfl ((hM0_1.rd 1 rfl).ld rfl)) rfl ?_
  refine O.val (v := .pointer (ofs (bl b0_1) (0))) rfl (Ru.fieldA fl28_0 rfl rfl) rfl ?_
  refine O.val rfl (Ru.load1 el26 rfl ((hM0_1.rd 0 rfl).ld rfl)) rfl ?_
  refine O.callg [.slice ((a).A) (((a).t.keys).length) ((a).cp), .slice ((b).A) (((b).t.keys).length) ((b).cp)] rfl en69 (by first | rfl | (rw [show ((b).t.keys).length = (b).t.keys.length from (by first | rfl | (simp; done) | omega | (simp; omega))]; rfl)) rfl (eqIntS_fn ((a).A) ((a).cp) ((a).t.keys) ((b).A) ((b).cp) ((b).t.keys) w0_1 (hNa.at hM0_1) (hNb.at hM0_1) (by first | omega | assumption | (simp; omega) | simp | (intros; omega))) ?_
  rintro _ w1_4 ⟨rfl, hR1_4⟩
  have hM1_4 : Mem w w1_4 [] [[⟨.slice (bl b0_1) 1 1, 28, 3, 1, [.slice ((b).A) ((b).t.keys.length) ((b).cp), I ((b).t.high), I ((b).t.right)]⟩], [⟨.slice (bl b0_0) 1 1, 28, 3, 1, [.slice ((a).A) ((a).t.keys.length) ((a).cp), I ((a).t.high), I ((a).t.right)]⟩]] := Mem.call (Ma := []) hM0_1 hR1_4 rfl
  refine O.val (v := .bool (!(decide (((a).t.keys) = ((b).t.keys))))) rfl (Ru.not rfl) rfl ?_
  refine O.nil ?_
  refine C.condn (b := (decide (((a).t.keys) = ((b).t.keys)))) rfl (fun c10 => ?_) (fun c10 => ?_)
  · refine C.seq ?_
    refine C.region ?_
    refine O.val (v := .bool (false)) rfl (Ru.assign rfl) rfl ?_
    refine O.nil ?_
    refine C.ret ?_
    refine P1 (v := .bool (false)) rfl ?_
    exact ⟨(by rw [decide_eq_false (fun e => absurd (congrArg LinkT.keys e) (by simpa using c10))]), (Mem.none hM1_4)⟩
  · refine C.skip ?_
    refine C.seq ?_
    refine C.seq ?_
    refine C.region ?_
    refine O.val (v := .pointer (ofs (bl b0_0) (1))) rfl (Ru.fieldA fl28_1 rfl rfl) rfl ?_
    refine O.val rfl (Ru.load1 el3 rfl ((hM1_4.rd 1 rfl).ld rfl)) rfl ?_
    refine O.val (v := .pointer (ofs (bl b0_1) (1))) rfl (Ru.fieldA fl28_1 rfl rfl) rfl ?_
    refine O.val rfl (Ru.load1 el3 rfl ((hM1_4.rd 0 rfl).ld rfl)) rfl ?_
    refine O.val (v := .bool (decide ((a).t.high ≠ (b).t.high))) rfl (Ru.neq rfl rfl) rfl ?_
    refine O.nil ?_
    refine C.cond (p := (a).t.high ≠ (b).t.high) rfl (fun c15 => ?_) (fun c15 => ?_)
    · refine C.seq ?_
      refine C.region ?_
      refine O.val (v := .bool (false)) rfl (Ru.assign rfl) rfl ?_
      refine O.nil ?_
      refine C.ret ?_
      refine P1 (v := .bool (false)) rfl ?_
      exact ⟨(by rw [decide_eq_false (fun e => absurd (congrArg LinkT.high e) (by simpa using c15))]), (Mem.none hM1_4)⟩
    · refine C.skip ?_
      refine C.seq ?_
      refine C.seq ?_
      refine C.region ?_
      refine O.val (v := .pointer (ofs (bl b0_0) (2))) rfl (Ru.fieldA fl28_2 rfl rfl) rfl ?_
      refine O.val rfl (Ru.load1 el3 rfl ((hM1_4.rd 1 rfl).ld rfl)) rfl ?_
      refine O.val (v := .pointer (ofs (bl b0_1) (2))) rfl (Ru.fieldA fl28_2 rfl rfl) rfl ?_
      refine O.val rfl (Ru.load1 el3 rfl ((hM1_4.rd 0 rfl).ld rfl)) rfl ?_
      refine O.val (v := .bool (decide ((a).t.right ≠ (b).t.right))) rfl (Ru.neq rfl rfl) rfl ?_
      refine O.nil ?_
      refine C.cond (p := (a).t.right ≠ (b).t.right) rfl (fun c20 => ?_) (fun c20 => ?_)
      · refine C.seq ?_
        refine C.region ?_
        refine O.val (v := .bool (false)) rfl (Ru.assign rfl) rfl ?_
        refine O.nil ?_
        refine C.ret ?_
        refine P1 (v := .bool (false)) rfl ?_
        exact ⟨(by rw [decide_eq_false (fun e => absurd (congrArg LinkT.right e) (by simpa using c20))]), (Mem.none hM1_4)⟩
      · refine C.skip ?_
        refine C.seq ?_
        refine C.region ?_
        refine O.val (v := .bool (true)) rfl (Ru.assign rfl) rfl ?_
        refine O.nil ?_
        refine C.ret ?_
        refine P1 (v := .bool (true)) rfl ?_
        exact ⟨(by rw [decide_eq_true (lk_eq (by simpa using c10) (by simpa using c15) (by simpa using c20))]), (Mem.none hM1_4)⟩

theorem eqLinkS_fn (A : Option Addr) (c : Nat) (a : List LnkL) (B : Option Addr) (d : Nat) (b : List LnkL) (w : World) (hA : Rd w A ((a).flatMap encL)) (hNA : Nst w a) (hB : Rd w B ((b).flatMap encL)) (hNB : Nst w b) (ha : a.length ≤ 1048576) (hka : ∀ x ∈ a, x.t.keys.length ≤ 1048576) :
    Does Try.prog 33 [.slice (A) ((a).length) (c), .slice (B) ((b).length) (d)] w (fun v w1 => v = .bool (decide (tsL a = tsL b)) ∧ Mem w w1 [] []) := by
  have hM : Mem w w [] [] := Mem.refl
  refine Does.enter1 Try.func33 rfl Try.results33 Try.ntmps33 rfl ?_
  refine C.seq ?_
  refine C.region ?_
  refine O.val (v := .bool (false)) rfl (Ru.assign rfl) rfl ?_
  refine O.nil ?_
  refine C.seq ?_
  refine C.seq ?_
  refine C.region ?_
  refine O.val (v := .slice (A) ((a).length) (c)) rfl (Ru.move rfl) rfl ?_
  refine O.val (v := I ((((a).length : Nat) : Int))) rfl (Ru.blenSlice Try.underlying23 rfl) rfl ?_
  refine O.val (v := .slice (B) ((b).length) (d)) rfl (Ru.move rfl) rfl ?_
  refine O.val (v := I ((((b).length : Nat) : Int))) rfl (Ru.blenSlice Try.underlying23 rfl) rfl ?_
  refine O.val (v := .bool (decide ((((a).length : Nat) : Int) ≠ (((b).length : Nat) : Int)))) rfl (Ru.neq rfl rfl) rfl ?_
  refine O.nil ?_
  refine C.cond (p := (((a).length : Nat) : Int) ≠ (((b).length : Nat) : Int)) rfl (fun c10 => ?_) (fun c10 => ?_)
  · refine C.seq ?_
    refine C.region ?_
    refine O.val (v := .bool (false)) rfl (Ru.assign rfl) rfl ?_
    refine O.nil ?_
    refine C.ret ?_
    refine P1 (v := .bool (false)) rfl ?_
    exact ⟨(by first | rw [ts_nl (by omega)] | rw [ts_ne hx6_2 hx6_6 (by simp_all)] | rw [ts_all (by omega) (by omega) hi1_l4]), (Mem.none hM)⟩
  · refine C.skip ?_
    refine C.seq ?_
    refine C.seq ?_
    refine C.region ?_
    refine O.val (v := I (0)) rfl (Ru.assign rfl) rfl ?_
    refine O.nil ?_
    refine C.block ?_
    refine C.loop (ι := Nat) (fun k => ([(0, .slice (A) ((a).length) (c)), (1, .slice (B) ((b).length) (d)), (5, I (((k : Nat) : Int)))] : List (Nat × Value))) (fun k w_ => (k ≤ a.length) ∧ ((tsL a).take k = (tsL b).take k) ∧ (Mem w w_ [] [])) (fun k => a.length - k) (0) (Has.cons rfl (Has.cons rfl (Has.cons (I_congr (by first | rfl | omega | (simp; omega) | simp)) Has.nil))) ⟨(Nat.zero_le _), (by (try dsimp only); simp), (hM.pick [] (by decide) rfl)⟩ (fun k σ w_l4 hI => ?_)
    try dsimp only at hI
    obtain ⟨hi0_l4, hi1_l4, hM_l4⟩ := hI
    refine C.seq ?_
    refine C.seq ?_
    refine C.region ?_
    refine O.val (v := I (((k : Nat) : Int))) rfl (Ru.move rfl) rfl ?_
    refine O.val (v := .slice (A) ((a).length) (c)) rfl (Ru.move rfl) rfl ?_
    refine O.val (v := I ((((a).length : Nat) : Int))) rfl (Ru.blenSlice Try.underlying23 rfl) rfl ?_
    refine O.val (v := .bool (decide (((k : Nat) : Int) < (((a).length : Nat) : Int)))) rfl (Ru.lss rfl rfl) rfl ?_
    refine O.nil ?_
    refine C.cond (p := ((k : Nat) : Int) < (((a).length : Nat) : Int)) rfl (fun c14 => ?_) (fun c14 => ?_)
    · refine C.skip ?_
      refine C.seq ?_
      refine C.block ?_
      refine C.seq ?_
      refine C.draws (fun w2 => Mem w w2 [] []) mixed (by kernel_rfl) (hM_l4.ext (kdrawn _)) ?_
      refine QO.val (v := .slice (A) ((a).length) (c)) rfl (fun w2 hw2 => Ru.move rfl) rfl ?_
      refine QO.val (v := I (((k : Nat) : Int))) rfl (fun w2 hw2 => Ru.move rfl) rfl ?_
      have hx6_2 : k < (a).length := (by first | omega | (simp; omega))
      refine QO.val (v := .pointer (ofs (A) (k * 3))) rfl (fun w2 hw2 => Ru.indexA (j := k) Try.underlying23 el28 rfl rfl (smf encL_len (hA.at hw2) hx6_2 rfl) (by omega) (by first | omega | (simp; omega))) rfl ?_
      refine QO.val rfl (fun w2 hw2 => Ru.loadN (vs := [.slice (((a)[k]'hx6_2).A) (((a)[k]'hx6_2).t.keys.length) (((a)[k]'hx6_2).cp), I (((a)[k]'hx6_2).t.high), I (((a)[k]'hx6_2).t.right)]) el28 rfl rfl (smf encL_len (hA.at hw2) hx6_2 rfl) (ldn encL_len (hA.at hw2) hx6_2)) rfl ?_
      refine QO.val (v := .slice (B) ((b).length) (d)) rfl (fun w2 hw2 => Ru.move rfl) rfl ?_
      refine QO.val (v := I (((k : Nat) : Int))) rfl (fun w2 hw2 => Ru.move rfl) rfl ?_
      have hx6_6 : k < (b).length := (by first | omega | (simp; omega))
      refine QO.val (v := .pointer (ofs (B) (k * 3))) rfl (fun w2 hw2 => Ru.indexA (j := k) Try.underlying23 el28 rfl rfl (smf encL_len (hB.at hw2) hx6_6 rfl) (by omega) (by first | omega | (simp; omega))) rfl ?_
      refine QO.val rfl (fun w2 hw2 => Ru.loadN (vs := [.slice (((b)[k]'hx6_6).A) (((b)[k]'hx6_6).t.keys.length) (((b)[k]'hx6_6).cp), I (((b)[k]'hx6_6).t.high), I (((b)[k]'hx6_6).t.right)]) el28 rfl rfl (smf encL_len (hB.at hw2) hx6_6 rfl) (ldn encL_len (hB.at hw2) hx6_6)) rfl ?_
      refine QO.callg (v := .bool (decide (((a)[k]'hx6_2).t = ((b)[k]'hx6_6).t))) [.agg #[.slice (((a)[k]'hx6_2).A) (((a)[k]'hx6_2).t.keys.length) (((a)[k]'hx6_2).cp), I (((a)[k]'hx6_2).t.high), I (((a)[k]'hx6_2).t.right)], .agg #[.slice (((b)[k]'hx6_6).A) (((b)[k]'hx6_6).t.keys.length) (((b)[k]'hx6_6).cp), I (((b)[k]'hx6_6).t.high), I (((b)[k]'hx6_6).t.right)]] rfl en56 rfl rfl (fun w2 hw2 => (eqLink_fn ((a)[k]'hx6_2) ((b)[k]'hx6_6) w2 ((hNA.at hw2).get hx6_2) ((hNB.at hw2).get hx6_6) (by exact hka _ (List.getElem_mem hx6_2))).mono fun _ _ h => ⟨h.1, Mem.call0 hw2 h.2⟩) ?_
      refine QO.val (v := .bool (!(decide (((a)[k]'hx6_2).t = ((b)[k]'hx6_6).t)))) rfl (fun w2 hw2 => Ru.not rfl) rfl ?_
      refine QO.nil ?_
      intro w6d hM6d
      refine C.condn (b := (decide (((a)[k]'hx6_2).t = ((b)[k]'hx6_6).t))) rfl (fun c26 => ?_) (fun c26 => ?_)
      · refine C.seq ?_
        refine C.region ?_
        refine O.val (v := .bool (false)) rfl (Ru.assign rfl) rfl ?_
        refine O.nil ?_
        refine C.ret ?_
        refine P1 (v := .bool (false)) rfl ?_
        exact ⟨(by first | rw [ts_nl (by omega)] | rw [ts_ne hx6_2 hx6_6 (by simp_all)] | rw [ts_all (by omega) (by omega) hi1_l4]), (Mem.none hM6d)⟩
      · refine C.skip ?_
        refine C.region ?_
        refine O.val (v := I (((k : Nat) : Int))) rfl (Ru.move rfl) rfl ?_
        refine O.val (v := I ((((k + 1) : Nat) : Int))) rfl (Ru.congr (v := I ((((k : Nat) : Int) + 1))) (v' := I ((((k + 1) : Nat) : Int))) (Ru.add rfl rfl (by omega)) (I_congr (by first | omega | simp))) rfl ?_
        refine O.val (v := I ((((k + 1) : Nat) : Int))) rfl (Ru.assign rfl) rfl ?_
        refine O.nil ?_
        exact loopEnd (k + 1) (by (try dsimp only); omega) (Has.cons rfl (Has.cons rfl (Has.cons (I_congr (by first | rfl | omega | (simp; omega) | simp)) Has.nil))) ⟨(by (try dsimp only); omega), (ts_step hx6_2 hx6_6 hi1_l4 (by simp_all)), (hM6d.pick [] (by decide) rfl)⟩
    · refine C.exit ?_
      refine C.seq ?_
      refine C.region ?_
      refine O.val (v := .bool (true)) rfl (Ru.assign rfl) rfl ?_
      refine O.nil ?_
      refine C.ret ?_
      refine P1 (v := .bool (true)) rfl ?_
      exact ⟨(by first | rw [ts_nl (by omega)] | rw [ts_ne hx6_2 hx6_6 (by simp_all)] | rw [ts_all (by omega) (by omega) hi1_l4]), (Mem.none hM_l4)⟩
end Go.Proofs.Yteljpjapacajoaa
