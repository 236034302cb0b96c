/- Own layer: part of this seat (DD). Plain theorems; no conditions. -/
import Derived.Test.YteljpjapacajoaaDC
set_option linter.unusedVariables false
set_option linter.unusedSimpArgs false
namespace Go.Proofs.Yteljpjapacajoaa
open Go.Px
theorem moveRight_fn (A : Option Addr) (c : Nat) (l : List LnkL) (at0 : Int) (key : Int) (w : World) (hA : Rd w A ((l).flatMap encL)) (hNA : Nst w l) (hl : l.length ≤ 1048576) (hg : goodF (tsL l) at0 key = true) :
    Does Try.prog 49 [.slice (A) ((l).length) (c), I (at0), I (key)] w (fun v w1 => v = I (findC (tsL l) at0 key) ∧ Mem w w1 [] []) := by
  have hM : Mem w w [] [] := Mem.refl
  refine Does.enter1 Try.func49 rfl Try.results49 Try.ntmps49 rfl ?_
  refine C.seq ?_
  refine C.region ?_
  refine O.val (v := I (0)) rfl (Ru.assign rfl) rfl ?_
  refine O.nil ?_
  refine C.seq ?_
  refine C.block ?_
  have hfrom := from_hd (goodF_iff.1 hg).1 (goodF_iff.1 hg).2.1.1 (by simpa using (goodF_iff.1 hg).2.1.2)
  have hk9 : True ∧ True ∧ 0 ≤ key ∧ key ≤ 99 := ⟨trivial, trivial, (goodF_iff.1 hg).2.2⟩
  refine C.loop (ι := List Nat) (fun q => ([(0, .slice (A) ((l).length) (c)), (1, I (hdq q)), (2, I (key))] : List (Nat × Value))) (fun q w_ => (sfx (tsL l) q) ∧ (fp (tsL l) key q = findC (tsL l) at0 key) ∧ (0 ≤ hdq q) ∧ (Mem w w_ [] [])) (fun q => q.length) ((fromC (tsL l) at0.toNat)) (Has.cons rfl (Has.cons (I_congr hfrom.1.symm) (Has.cons rfl Has.nil))) ⟨hfrom.2, (find_good hg).symm, (by (try dsimp only); rw [hfrom.1]; exact (goodF_iff.1 hg).2.1.1), (hM.pick [] (by decide) rfl)⟩ (fun q σ w_l1 hI => ?_)
  try dsimp only at hI
  obtain ⟨hi0_l1, hi1_l1, hi2_l1, hM_l1⟩ := hI
  have hh0 : 0 ≤ hdq q := hi2_l1
  have hlt : (hdq q).toNat < l.length := by have := sfx_lt hi0_l1 hh0; simpa using this
  have hgl := gL_ts hlt
  refine C.seq ?_
  refine C.seq ?_
  refine C.region ?_
  refine O.val (v := I (key)) rfl (Ru.move rfl) rfl ?_
  refine O.val (v := .slice (A) ((l).length) (c)) rfl (Ru.move rfl) rfl ?_
  refine O.val (v := I (hdq q)) rfl (Ru.move rfl) rfl ?_
  have hx1_3 : (hdq q).toNat < (l).length := hlt
  refine O.val (v := .pointer (ofs (A) (((hdq q).toNat) * 3))) rfl (Ru.indexA (j := (hdq q).toNat) Try.underlying23 el28 rfl rfl (smf encL_len (hA.at hM_l1) hx1_3 rfl) (by omega) (by omega)) rfl ?_
  refine O.val (v := .pointer (ofs (A) (((hdq q).toNat) * 3 + 1))) rfl (Ru.fieldA fl28_1 rfl (smf encL_len (hA.at hM_l1) hx1_3 rfl)) rfl ?_
  refine O.val rfl (Ru.load1 el3 rfl (ldf encL_len (hA.at hM_l1) hx1_3 rfl)) rfl ?_
  refine O.val (v := .bool (decide (key ≥ ((l)[(hdq q).toNat]'hx1_3).t.high))) rfl (Ru.geq rfl rfl) rfl ?_
  refine O.nil ?_
  refine C.cond (p := key ≥ ((l)[(hdq q).toNat]'hx1_3).t.high) rfl (fun c13 => ?_) (fun c13 => ?_)
  · refine C.skip ?_
    refine C.block ?_
    refine C.region ?_
    refine O.val (v := .slice (A) ((l).length) (c)) rfl (Ru.move rfl) rfl ?_
    refine O.val (v := I (hdq q)) rfl (Ru.move rfl) rfl ?_
    have hx2_2 : (hdq q).toNat < (l).length := hlt
    refine O.val (v := .pointer (ofs (A) (((hdq q).toNat) * 3))) rfl (Ru.indexA (j := (hdq q).toNat) Try.underlying23 el28 rfl rfl (smf encL_len (hA.at hM_l1) hx2_2 rfl) (by omega) (by omega)) rfl ?_
    refine O.val (v := .pointer (ofs (A) (((hdq q).toNat) * 3 + 2))) rfl (Ru.fieldA fl28_2 rfl (smf encL_len (hA.at hM_l1) hx2_2 rfl)) rfl ?_
    refine O.val rfl (Ru.load1 el3 rfl (ldf encL_len (hA.at hM_l1) hx2_2 rfl)) rfl ?_
    refine O.val (v := I (((l)[(hdq q).toNat]'hx2_2).t.right)) rfl (Ru.assign rfl) rfl ?_
    refine O.nil ?_
    exact loopEnd (q.tail) (by (try dsimp only); have := hdq_len hh0; omega) (Has.cons rfl (Has.cons (I_congr (by rw [← hgl]; exact (sfx_next hi0_l1 hh0).1)) (Has.cons rfl Has.nil))) ⟨(sfx_next hi0_l1 hh0).2, (by (try dsimp only); rw [fp_next hh0 (by rw [hgl]; omega)]; exact hi1_l1), (sfx_pos hi0_l1 hh0 hk9.2.2.2 (by rw [hgl]; omega)), (hM_l1.pick [] (by decide) rfl)⟩
  · refine C.exit ?_
    refine C.seq ?_
    refine C.region ?_
    refine O.val (v := I (hdq q)) rfl (Ru.move rfl) rfl ?_
    refine O.val (v := I (hdq q)) rfl (Ru.assign rfl) rfl ?_
    refine O.nil ?_
    refine C.ret ?_
    refine P1 (v := I (hdq q)) rfl ?_
    exact ⟨(I_congr (by rw [← hi1_l1]; exact fp_stop hh0 (by rw [hgl]; omega))), (Mem.none hM_l1)⟩

theorem sFindLink_fn (A : Option Addr) (c : Nat) (l : List LnkL) (at0 : Int) (key : Int) (w : World) (hA : Rd w A ((l).flatMap encL)) (hNA : Nst w l) (hl : l.length ≤ 1048576) :
    Does Try.prog 22 [.slice (A) ((l).length) (c), I (at0), I (key)] w (fun v w1 => v = I (findC (tsL l) at0 key) ∧ Mem w w1 [] []) := by
  have hM : Mem w w [] [] := Mem.refl
  refine Does.enter1 Try.func22 rfl Try.results22 Try.ntmps22 rfl ?_
  refine C.seq ?_
  refine C.region ?_
  refine O.val (v := I (0)) rfl (Ru.assign rfl) rfl ?_
  refine O.nil ?_
  refine C.seq ?_
  refine C.seq ?_
  refine C.region ?_
  refine O.val (v := .slice (A) ((l).length) (c)) rfl (Ru.move rfl) rfl ?_
  refine O.callg [.slice (A) ((l).length) (c)] rfl en44 rfl rfl (svalidChain_fn A c l w (hA.at hM) (hNA.at hM) (by first | omega | assumption | (simp; omega) | simp | (intros; omega))) ?_
  rintro _ w1_1 ⟨rfl, hR1_1⟩
  have hM1_1 : Mem w w1_1 [] [] := Mem.call (Ma := []) hM hR1_1 rfl
  refine O.val (v := .bool (!(validC (tsL l)))) rfl (Ru.not rfl) rfl ?_
  refine O.val (v := .bool (!(validC (tsL l)))) rfl (Ru.move rfl) rfl ?_
  refine O.part 10 (!(validC (tsL l))) rfl (fun g10 => ?_) (fun g10 => ?_)
  · refine O.pass rfl rfl rfl rfl rfl ?_
    refine O.pass rfl rfl rfl rfl rfl ?_
    refine O.pass rfl rfl rfl rfl rfl ?_
    refine O.pass rfl rfl rfl rfl rfl ?_
    refine O.pass rfl rfl rfl rfl rfl ?_
    refine O.pass rfl rfl rfl rfl rfl ?_
    refine O.val (v := .bool (true)) rfl (Ru.pickT rfl rfl) rfl ?_
    refine O.val (v := .bool (true)) rfl (Ru.move rfl) rfl ?_
    refine O.pass rfl rfl rfl rfl rfl ?_
    refine O.pass rfl rfl rfl rfl rfl ?_
    refine O.pass rfl rfl rfl rfl rfl ?_
    refine O.val (v := .bool (true)) rfl (Ru.pickT rfl rfl) rfl ?_
    refine O.nil ?_
    refine C.condT rfl ?_
    refine C.seq ?_
    refine C.region ?_
    refine O.val (v := I ((-1))) rfl (Ru.assign rfl) rfl ?_
    refine O.nil ?_
    refine C.ret ?_
    refine P1 (v := I ((-1))) rfl ?_
    exact ⟨(by rw [find_bad (by cases hh : goodF (tsL l) at0 key with | false => rfl | true => (exfalso; obtain ⟨a1, ⟨a2, a3⟩, a4, a5⟩ := goodF_iff.1 hh; simp at a3; first | (simp [a1] at g10; done) | (simp at g18; omega) | (simp at c22; omega)))]), (Mem.none hM1_1)⟩
  · refine O.val (v := I (at0)) rfl (Ru.move rfl) rfl ?_
    refine O.val (v := .slice (A) ((l).length) (c)) rfl (Ru.move rfl) rfl ?_
    refine O.val (v := I ((((l).length : Nat) : Int))) rfl (Ru.blenSlice Try.underlying23 rfl) rfl ?_
    refine O.val (v := I (((((l).length : Nat) : Int) - 1))) rfl (Ru.sub rfl rfl (by omega)) rfl ?_
    refine O.callg [I (at0), I (0), I (((((l).length : Nat) : Int) - 1))] rfl en48 rfl rfl (inRange_fn at0 0 ((((l).length : Nat) : Int) - 1) w1_1 ) ?_
    rintro _ w1_8 ⟨rfl, hR1_8⟩
    have hM1_8 : Mem w w1_8 [] [] := Mem.call (Ma := []) hM1_1 hR1_8 rfl
    refine O.val (v := .bool (!(decide (0 ≤ at0) && decide (at0 ≤ ((((l).length : Nat) : Int) - 1))))) rfl (Ru.not rfl) rfl ?_
    refine O.val (v := .bool (!(decide (0 ≤ at0) && decide (at0 ≤ ((((l).length : Nat) : Int) - 1))))) rfl (Ru.pickF rfl rfl) rfl ?_
    refine O.val (v := .bool (!(decide (0 ≤ at0) && decide (at0 ≤ ((((l).length : Nat) : Int) - 1))))) rfl (Ru.move rfl) rfl ?_
    refine O.part 18 (!(decide (0 ≤ at0) && decide (at0 ≤ ((((l).length : Nat) : Int) - 1)))) rfl (fun g18 => ?_) (fun g18 => ?_)
    · refine O.pass rfl rfl rfl rfl rfl ?_
      refine O.pass rfl rfl rfl rfl rfl ?_
      refine O.pass rfl rfl rfl rfl rfl ?_
      refine O.val (v := .bool (true)) rfl (Ru.pickT rfl rfl) rfl ?_
      refine O.nil ?_
      refine C.condT rfl ?_
      refine C.seq ?_
      refine C.region ?_
      refine O.val (v := I ((-1))) rfl (Ru.assign rfl) rfl ?_
      refine O.nil ?_
      refine C.ret ?_
      refine P1 (v := I ((-1))) rfl ?_
      exact ⟨(by rw [find_bad (by cases hh : goodF (tsL l) at0 key with | false => rfl | true => (exfalso; obtain ⟨a1, ⟨a2, a3⟩, a4, a5⟩ := goodF_iff.1 hh; simp at a3; first | (simp [a1] at g10; done) | (simp at g18; omega) | (simp at c22; omega)))]), (Mem.none hM1_8)⟩
    · refine O.val (v := I (key)) rfl (Ru.move rfl) rfl ?_
      refine O.callg [I (key), I (0), I (99)] rfl en48 rfl rfl (inRange_fn key 0 99 w1_8 ) ?_
      rintro _ w1_13 ⟨rfl, hR1_13⟩
      have hM1_13 : Mem w w1_13 [] [] := Mem.call (Ma := []) hM1_8 hR1_13 rfl
      refine O.val (v := .bool (!(decide (0 ≤ key) && decide (key ≤ 99)))) rfl (Ru.not rfl) rfl ?_
      refine O.val (v := .bool (!(decide (0 ≤ key) && decide (key ≤ 99)))) rfl (Ru.pickF rfl rfl) rfl ?_
      refine O.nil ?_
      refine C.condn (b := (decide (0 ≤ key) && decide (key ≤ 99))) rfl (fun c22 => ?_) (fun c22 => ?_)
      · refine C.seq ?_
        refine C.region ?_
        refine O.val (v := I ((-1))) rfl (Ru.assign rfl) rfl ?_
        refine O.nil ?_
        refine C.ret ?_
        refine P1 (v := I ((-1))) rfl ?_
        exact ⟨(by rw [find_bad (by cases hh : goodF (tsL l) at0 key with | false => rfl | true => (exfalso; obtain ⟨a1, ⟨a2, a3⟩, a4, a5⟩ := goodF_iff.1 hh; simp at a3; first | (simp [a1] at g10; done) | (simp at g18; omega) | (simp at c22; omega)))]), (Mem.none hM1_13)⟩
      · have hv9 : validC (tsL l) = true := by simp_all
        have hr9 : (0 ≤ at0 ∧ at0 ≤ (l.length : Int) - 1) := by simp_all
        have hk9 : (0 ≤ key ∧ key ≤ 99) := by simp_all
        have hg : goodF (tsL l) at0 key = true := goodF_iff.2 ⟨hv9, ⟨hr9.1, by simp; omega⟩, hk9⟩
        refine C.skip ?_
        refine C.seq ?_
        refine C.region ?_
        refine O.val (v := .slice (A) ((l).length) (c)) rfl (Ru.move rfl) rfl ?_
        refine O.val (v := I (at0)) rfl (Ru.move rfl) rfl ?_
        refine O.val (v := I (key)) rfl (Ru.move rfl) rfl ?_
        refine O.callg [.slice (A) ((l).length) (c), I (at0), I (key)] rfl en49 rfl rfl (moveRight_fn A c l at0 key w1_13 (hA.at hM1_13) (hNA.at hM1_13) (by first | omega | assumption | (simp; omega) | simp | (intros; omega)) (by exact hg)) ?_
        rintro _ w3_3 ⟨rfl, hR3_3⟩
        have hM3_3 : Mem w w3_3 [] [] := Mem.call (Ma := []) hM1_13 hR3_3 rfl
        refine O.val (v := I (findC (tsL l) at0 key)) rfl (Ru.assign rfl) rfl ?_
        refine O.nil ?_
        refine C.ret ?_
        refine P1 (v := I (findC (tsL l) at0 key)) rfl ?_
        exact ⟨rfl, (Mem.none hM3_3)⟩

theorem ChainKeys_fn (A : Option Addr) (c : Nat) (l : List LnkL) (w : World) (hA : Rd w A ((l).flatMap encL)) (hNA : Nst w l) (hl : l.length ≤ 1048576) :
    Does Try.prog 24 [.slice (A) ((l).length) (c)] w (fun v w1 => ∃ (A1 : Option Addr) (c1 : Nat), v = .slice (A1) ((keysC (tsL l)).length) (c1) ∧ Mem w w1 [] [[⟨.slice (A1) ((keysC (tsL l)).length) (c1), 3, 1, ((keysC (tsL l)).length), (keysC (tsL l)).map I⟩]]) := by
  have hM : Mem w w [] [] := Mem.refl
  refine Does.enter1 Try.func24 rfl Try.results24 Try.ntmps24 rfl ?_
  refine C.seq ?_
  refine C.region ?_
  refine O.val (v := .slice (none) (0) (0)) rfl (Ru.assign rfl) rfl ?_
  refine O.nil ?_
  refine C.seq ?_
  refine C.seq ?_
  refine C.region ?_
  refine O.val (v := .slice (A) ((l).length) (c)) rfl (Ru.move rfl) rfl ?_
  refine O.callg [.slice (A) ((l).length) (c)] rfl en18 rfl rfl (ValidChain_fn A c l w (hA.at hM) (hNA.at hM) (by first | omega | assumption | (simp; omega) | simp | (intros; omega))) ?_
  rintro _ w1_1 ⟨rfl, hR1_1⟩
  have hM1_1 : Mem w w1_1 [] [] := Mem.call (Ma := []) hM hR1_1 rfl
  refine O.val (v := .bool (!(validC (tsL l)))) rfl (Ru.not rfl) rfl ?_
  refine O.nil ?_
  refine C.condn (b := (validC (tsL l))) rfl (fun c7 => ?_) (fun c7 => ?_)
  · have hnv : validC (tsL l) = false := by simp_all
    have hkn := keys_no hnv
    refine C.seq ?_
    refine C.region ?_
    refine O.val (v := .slice (none) (0) (0)) rfl (Ru.assign rfl) rfl ?_
    refine O.nil ?_
    refine C.ret ?_
    refine P1 (v := .slice (none) (0) (0)) rfl ?_
    have hMn1 : Mem w w1_1 [] [[⟨.slice (none) (0) (0), 3, 1, 0, ([]).map I⟩]] := Mem.addNil hM1_1
    have hq2 : ([] : List Int) = keysC (tsL l) := hkn.symm
    have hMn2 : Mem w w1_1 [] [[⟨.slice (none) ((keysC (tsL l)).length) (0), 3, 1, ((keysC (tsL l)).length), (keysC (tsL l)).map I⟩]] := hMn1.relen 0 (n' := (keysC (tsL l)).length) (xs' := (keysC (tsL l)).map I) rfl (by first | rfl | exact congrArg List.length hq2 | (have hqq := congrArg List.length hq2; first | omega | (simp at hqq ⊢; omega)) | (simp; done) | (simp; omega)) (congrArg (fun z_ => (z_).map I) hq2) rfl
    exact ⟨none, 0, (by rw [hkn]; rfl), (hMn2.pick [0] (by decide) rfl)⟩
  · have hv : validC (tsL l) = true := by simp_all
    have hsp := sfx_path hv
    refine C.skip ?_
    refine C.seq ?_
    refine C.region ?_
    refine O.val (v := .slice (none) (0) (0)) rfl (Ru.assign rfl) rfl ?_
    refine O.nil ?_
    refine C.seq ?_
    refine C.seq ?_
    refine C.region ?_
    refine O.val (v := I (0)) rfl (Ru.assign rfl) rfl ?_
    refine O.nil ?_
    refine C.block ?_
    have hMn3 : Mem w w1_1 [] [[⟨.slice (none) (0) (0), 3, 1, 0, ([]).map I⟩]] := Mem.addNil hM1_1
    have hq4 : ([] : List Int) = ([] : List Int) := (by first | rfl | simp | (simp; omega))
    have hMn4 : Mem w w1_1 [] [[⟨.slice (none) ((([] : List Int)).length) (0), 3, 1, ((([] : List Int)).length), (([] : List Int)).map I⟩]] := hMn3.relen 0 (n' := (([] : List Int)).length) (xs' := (([] : List Int)).map I) rfl (by first | rfl | exact congrArg List.length hq4 | (have hqq := congrArg List.length hq4; first | omega | (simp at hqq ⊢; omega)) | (simp; done) | (simp; omega)) (congrArg (fun z_ => (z_).map I) hq4) rfl
    refine C.loop (ι := (List Nat) × (List Int) × (Option Addr) × Nat) (fun x_ => ([(0, .slice (A) ((l).length) (c)), (3, .slice (x_.2.2.1) ((x_.2.1).length) (x_.2.2.2)), (4, I (hdq x_.1))] : List (Nat × Value))) (fun x_ w_ => (sfx (tsL l) x_.1) ∧ (x_.2.1 ++ x_.1.flatMap (fun i => (gL (tsL l) i).keys) = keysC (tsL l)) ∧ (x_.2.1.length + 4 * x_.1.length ≤ 64) ∧ (Mem w w_ [] [[⟨.slice (x_.2.2.1) ((x_.2.1).length) (x_.2.2.2), 3, 1, ((x_.2.1).length), (x_.2.1).map I⟩]])) (fun x_ => x_.1.length) ((pathC (tsL l)), ([] : List Int), none, 0) (Has.cons rfl (Has.cons (sl_congr (by first | rfl | omega | (simp; done) | (simp; omega) | exact congrArg List.length hq4 | (simp [← hq4]; done) | (simp [← hq4]; omega))) (Has.cons (I_congr hsp.2.1.symm) Has.nil))) ⟨hsp.1, (by (try dsimp only); rw [keys_yes hv]; rfl), (by (try dsimp only); simp; omega), (hMn4.pick [0] (by decide) rfl)⟩ (fun ⟨q, K, A2, c2⟩ σ w_l5 hI => ?_)
    try dsimp only at hI
    obtain ⟨hi0_l5, hi1_l5, hi2_l5, hM_l5⟩ := hI
    have hcl0_l5 := (hM_l5.cap 0 rfl).1
    refine C.seq ?_
    refine C.seq ?_
    refine C.region ?_
    refine O.val (v := I (hdq q)) rfl (Ru.move rfl) rfl ?_
    refine O.val (v := .bool (decide (hdq q ≥ 0))) rfl (Ru.geq rfl rfl) rfl ?_
    refine O.nil ?_
    refine C.cond (p := hdq q ≥ 0) rfl (fun c9 => ?_) (fun c9 => ?_)
    · have hh0 : 0 ≤ hdq q := by omega
      have hlt : (hdq q).toNat < l.length := by have := sfx_lt hi0_l5 hh0; simpa using this
      have hgl := gL_ts hlt
      obtain ⟨lw, hok⟩ := sfx_ok hi0_l5 hh0
      have hk4 := (okLk_iff.1 hok).2.1
      rw [hgl] at hk4
      refine C.skip ?_
      refine C.seq ?_
      refine C.block ?_
      refine C.region ?_
      refine O.val (v := .slice (A2) ((K).length) (c2)) rfl (Ru.move rfl) rfl ?_
      refine O.val (v := .slice (A) ((l).length) (c)) rfl (Ru.move rfl) rfl ?_
      refine O.val (v := I (hdq q)) rfl (Ru.move rfl) rfl ?_
      have hx7_3 : (hdq q).toNat < (l).length := hlt
      refine O.val (v := .pointer (ofs (A) (((hdq q).toNat) * 3))) rfl (Ru.indexA (j := (hdq q).toNat) Try.underlying23 el28 rfl rfl (smf encL_len (hA.at hM_l5) hx7_3 rfl) (by omega) (by omega)) rfl ?_
      refine O.val (v := .pointer (ofs (A) (((hdq q).toNat) * 3 + 0))) rfl (Ru.fieldA fl28_0 rfl (smf encL_len (hA.at hM_l5) hx7_3 rfl)) rfl ?_
      refine O.val rfl (Ru.load1 el26 rfl (ldf encL_len (hA.at hM_l5) hx7_3 rfl)) rfl ?_
      refine O.mappend (sz := 1) (news := (((l)[(hdq q).toNat]'hx7_3).t.keys).map I) (m1 := (K ++ ((l)[(hdq q).toNat]'hx7_3).t.keys).length) (xs1 := (K ++ ((l)[(hdq q).toNat]'hx7_3).t.keys).map I) (M' := fun A7_6 c7_6 => [[⟨.slice (A7_6) ((K ++ ((l)[(hdq q).toNat]'hx7_3).t.keys).length) (c7_6), 3, 1, ((K ++ ((l)[(hdq q).toNat]'hx7_3).t.keys).length), (K ++ ((l)[(hdq q).toNat]'hx7_3).t.keys).map I⟩]]) 0 0 hM_l5 rfl rfl rfl Try.underlying26 el3 ⟨rfl, by decide⟩ rfl rfl rfl ((hNA.at hM_l5).get hx7_3) (by first | (simp; done) | (simp; omega)) (all_map_one (fun _ => rfl) _) (by first | omega | (simp; omega)) (by first | omega | (simp; omega)) (by first | (simp; done) | (simp; omega)) (by simp) (fun _ _ => rfl) (fun w7_6 A7_6 c7_6 hc7_6 hM7_6 => ?_)
      try dsimp only at hM7_6
      refine O.val (v := .slice (A7_6) ((K ++ ((l)[(hdq q).toNat]'hx7_3).t.keys).length) (c7_6)) rfl (Ru.assign rfl) rfl ?_
      refine O.nil ?_
      refine C.region ?_
      refine O.val (v := .slice (A) ((l).length) (c)) rfl (Ru.move rfl) rfl ?_
      refine O.val (v := I (hdq q)) rfl (Ru.move rfl) rfl ?_
      have hx6_2 : (hdq q).toNat < (l).length := hlt
      refine O.val (v := .pointer (ofs (A) (((hdq q).toNat) * 3))) rfl (Ru.indexA (j := (hdq q).toNat) Try.underlying23 el28 rfl rfl (smf encL_len (hA.at hM7_6) hx6_2 rfl) (by omega) (by omega)) rfl ?_
      refine O.val (v := .pointer (ofs (A) (((hdq q).toNat) * 3 + 2))) rfl (Ru.fieldA fl28_2 rfl (smf encL_len (hA.at hM7_6) hx6_2 rfl)) rfl ?_
      refine O.val rfl (Ru.load1 el3 rfl (ldf encL_len (hA.at hM7_6) hx6_2 rfl)) rfl ?_
      refine O.val (v := I (((l)[(hdq q).toNat]'hx6_2).t.right)) rfl (Ru.assign rfl) rfl ?_
      refine O.nil ?_
      have hq5 : (K ++ ((l)[(hdq q).toNat]'hx7_3).t.keys : List Int) = (K ++ ((l)[(hdq q).toNat]'hx7_3).t.keys) := (by first | rfl | simp | (simp; omega))
      have hMn5 : Mem w w7_6 [] [[⟨.slice (A7_6) (((K ++ ((l)[(hdq q).toNat]'hx7_3).t.keys)).length) (c7_6), 3, 1, (((K ++ ((l)[(hdq q).toNat]'hx7_3).t.keys)).length), ((K ++ ((l)[(hdq q).toNat]'hx7_3).t.keys)).map I⟩]] := hM7_6.relen 0 (n' := ((K ++ ((l)[(hdq q).toNat]'hx7_3).t.keys)).length) (xs' := ((K ++ ((l)[(hdq q).toNat]'hx7_3).t.keys)).map I) rfl (by first | rfl | exact congrArg List.length hq5 | (have hqq := congrArg List.length hq5; first | omega | (simp at hqq ⊢; omega)) | (simp; done) | (simp; omega)) (congrArg (fun z_ => (z_).map I) hq5) rfl
      exact loopEnd (q.tail, K ++ ((l)[(hdq q).toNat]'hx7_3).t.keys, A7_6, c7_6) (by (try dsimp only); have := hdq_len hh0; omega) (Has.cons rfl (Has.cons rfl (Has.cons (I_congr (by rw [← hgl]; exact (sfx_next hi0_l5 hh0).1)) Has.nil))) ⟨(sfx_next hi0_l5 hh0).2, (by (try dsimp only); rw [← hi1_l5, flat_hd hh0, hgl]; simp), (by (try dsimp only); have := hdq_len hh0; simp; omega), (hMn5.pick [0] (by decide) rfl)⟩
    · have hqn := hdq_neg (q := q) (by omega)
      rw [hqn] at hi1_l5
      simp only [List.flatMap_nil, List.append_nil] at hi1_l5
      refine C.exit ?_
      refine C.seq ?_
      refine C.region ?_
      refine O.val (v := .slice (A2) ((K).length) (c2)) rfl (Ru.move rfl) rfl ?_
      refine O.val (v := .slice (A2) ((K).length) (c2)) rfl (Ru.assign rfl) rfl ?_
      refine O.nil ?_
      refine C.ret ?_
      refine P1 (v := .slice (A2) ((K).length) (c2)) rfl ?_
      have hq6 : (K : List Int) = keysC (tsL l) := hi1_l5
      have hMn6 : Mem w w_l5 [] [[⟨.slice (A2) ((keysC (tsL l)).length) (c2), 3, 1, ((keysC (tsL l)).length), (keysC (tsL l)).map I⟩]] := hM_l5.relen 0 (n' := (keysC (tsL l)).length) (xs' := (keysC (tsL l)).map I) rfl (by first | rfl | exact congrArg List.length hq6 | (have hqq := congrArg List.length hq6; first | omega | (simp at hqq ⊢; omega)) | (simp; done) | (simp; omega)) (congrArg (fun z_ => (z_).map I) hq6) rfl
      exact ⟨A2, c2, (by rw [hi1_l5]), (hMn6.pick [0] (by decide) rfl)⟩

theorem sChainKeys_fn (A : Option Addr) (c : Nat) (l : List LnkL) (w : World) (hA : Rd w A ((l).flatMap encL)) (hNA : Nst w l) (hl : l.length ≤ 1048576) :
    Does Try.prog 26 [.slice (A) ((l).length) (c)] w (fun v w1 => ∃ (A1 : Option Addr) (c1 : Nat), v = .slice (A1) ((keysC (tsL l)).length) (c1) ∧ Mem w w1 [] [[⟨.slice (A1) ((keysC (tsL l)).length) (c1), 3, 1, ((keysC (tsL l)).length), (keysC (tsL l)).map I⟩]]) := by
  have hM : Mem w w [] [] := Mem.refl
  refine Does.enter1 Try.func26 rfl Try.results26 Try.ntmps26 rfl ?_
  refine C.seq ?_
  refine C.region ?_
  refine O.val (v := .slice (none) (0) (0)) rfl (Ru.assign rfl) rfl ?_
  refine O.nil ?_
  refine C.seq ?_
  refine C.region ?_
  refine O.mlit (sz := 1) (cs := []) hM rfl Try.underlying26 el3 rfl rfl rfl (by kernel_rfl) (by kernel_rfl) rfl rfl (fun w1_0 b1_0 hb1_0 (hM1_0 : Mem w w1_0 [] [[⟨.slice (bl b1_0) (0) (0), 3, 1, 0, ([]).map I⟩]]) => ?_)
  refine O.val (v := .slice (bl b1_0) (0) (0)) rfl (Ru.assign rfl) rfl ?_
  refine O.nil ?_
  refine C.seq ?_
  refine C.seq ?_
  refine C.region ?_
  refine O.val (v := .slice (A) ((l).length) (c)) rfl (Ru.move rfl) rfl ?_
  refine O.callg [.slice (A) ((l).length) (c)] rfl en44 rfl rfl (svalidChain_fn A c l w1_0 (hA.at hM1_0) (hNA.at hM1_0) (by first | omega | assumption | (simp; omega) | simp | (intros; omega))) ?_
  rintro _ w2_1 ⟨rfl, hR2_1⟩
  have hM2_1 : Mem w w2_1 [] [[⟨.slice (bl b1_0) (0) (0), 3, 1, 0, ([]).map I⟩]] := Mem.call (Ma := []) hM1_0 hR2_1 rfl
  refine O.val (v := .bool (!(validC (tsL l)))) rfl (Ru.not rfl) rfl ?_
  refine O.nil ?_
  refine C.condn (b := (validC (tsL l))) rfl (fun c8 => ?_) (fun c8 => ?_)
  · have hnv : validC (tsL l) = false := by simp_all
    have hkn := keys_no hnv
    refine C.seq ?_
    refine C.region ?_
    refine O.val (v := .slice (none) (0) (0)) rfl (Ru.assign rfl) rfl ?_
    refine O.nil ?_
    refine C.ret ?_
    refine P1 (v := .slice (none) (0) (0)) rfl ?_
    have hMn1 : Mem w w2_1 [] [[⟨.slice (none) (0) (0), 3, 1, 0, ([]).map I⟩], [⟨.slice (bl b1_0) (0) (0), 3, 1, 0, ([]).map I⟩]] := Mem.addNil hM2_1
    have hq2 : ([] : List Int) = keysC (tsL l) := hkn.symm
    have hMn2 : Mem w w2_1 [] [[⟨.slice (none) ((keysC (tsL l)).length) (0), 3, 1, ((keysC (tsL l)).length), (keysC (tsL l)).map I⟩], [⟨.slice (bl b1_0) (0) (0), 3, 1, 0, ([]).map I⟩]] := hMn1.relen 0 (n' := (keysC (tsL l)).length) (xs' := (keysC (tsL l)).map I) rfl (by first | rfl | exact congrArg List.length hq2 | (have hqq := congrArg List.length hq2; first | omega | (simp at hqq ⊢; omega)) | (simp; done) | (simp; omega)) (congrArg (fun z_ => (z_).map I) hq2) rfl
    exact ⟨none, 0, (by rw [hkn]; rfl), (hMn2.pick [0] (by decide) rfl)⟩
  · have hv : validC (tsL l) = true := by simp_all
    have hsp := sfx_path hv
    refine C.skip ?_
    refine C.seq ?_
    refine C.seq ?_
    refine C.region ?_
    refine O.val (v := I (0)) rfl (Ru.assign rfl) rfl ?_
    refine O.nil ?_
    refine C.block ?_
    have hq3 : ([] : List Int) = ([] : List Int) := (by first | rfl | simp | (simp; omega))
    have hMn3 : Mem w w2_1 [] [[⟨.slice (bl b1_0) ((([] : List Int)).length) (0), 3, 1, ((([] : List Int)).length), (([] : List Int)).map I⟩]] := hM2_1.relen 0 (n' := (([] : List Int)).length) (xs' := (([] : List Int)).map I) rfl (by first | rfl | exact congrArg List.length hq3 | (have hqq := congrArg List.length hq3; first | omega | (simp at hqq ⊢; omega)) | (simp; done) | (simp; omega)) (congrArg (fun z_ => (z_).map I) hq3) rfl
    refine C.loop (ι := (List Nat) × (List Int) × (Option Addr) × Nat) (fun x_ => ([(0, .slice (A) ((l).length) (c)), (3, .slice (x_.2.2.1) ((x_.2.1).length) (x_.2.2.2)), (4, I (hdq x_.1))] : List (Nat × Value))) (fun x_ w_ => (sfx (tsL l) x_.1) ∧ (x_.2.1 ++ x_.1.flatMap (fun i => (gL (tsL l) i).keys) = keysC (tsL l)) ∧ (x_.2.1.length + 4 * x_.1.length ≤ 64) ∧ (Mem w w_ [] [[⟨.slice (x_.2.2.1) ((x_.2.1).length) (x_.2.2.2), 3, 1, ((x_.2.1).length), (x_.2.1).map I⟩]])) (fun x_ => x_.1.length) ((pathC (tsL l)), ([] : List Int), bl b1_0, 0) (Has.cons rfl (Has.cons (sl_congr (by first | rfl | omega | (simp; done) | (simp; omega) | exact congrArg List.length hq3 | (simp [← hq3]; done) | (simp [← hq3]; omega))) (Has.cons (I_congr hsp.2.1.symm) Has.nil))) ⟨hsp.1, (by (try dsimp only); rw [keys_yes hv]; rfl), (by (try dsimp only); simp; omega), (hMn3.pick [0] (by decide) rfl)⟩ (fun ⟨q, K, A2, c2⟩ σ w_l5 hI => ?_)
    try dsimp only at hI
    obtain ⟨hi0_l5, hi1_l5, hi2_l5, hM_l5⟩ := hI
    have hcl0_l5 := (hM_l5.cap 0 rfl).1
    refine C.seq ?_
    refine C.seq ?_
    refine C.region ?_
    refine O.val (v := I (hdq q)) rfl (Ru.move rfl) rfl ?_
    refine O.val (v := .bool (decide (hdq q ≥ 0))) rfl (Ru.geq rfl rfl) rfl ?_
    refine O.nil ?_
    refine C.cond (p := hdq q ≥ 0) rfl (fun c10 => ?_) (fun c10 => ?_)
    · have hh0 : 0 ≤ hdq q := by omega
      have hlt : (hdq q).toNat < l.length := by have := sfx_lt hi0_l5 hh0; simpa using this
      have hgl := gL_ts hlt
      obtain ⟨lw, hok⟩ := sfx_ok hi0_l5 hh0
      have hk4 := (okLk_iff.1 hok).2.1
      rw [hgl] at hk4
      refine C.skip ?_
      refine C.seq ?_
      refine C.block ?_
      refine C.region ?_
      refine O.val (v := .slice (A2) ((K).length) (c2)) rfl (Ru.move rfl) rfl ?_
      refine O.val (v := .slice (A) ((l).length) (c)) rfl (Ru.move rfl) rfl ?_
      refine O.val (v := I (hdq q)) rfl (Ru.move rfl) rfl ?_
      have hx7_3 : (hdq q).toNat < (l).length := hlt
      refine O.val (v := .pointer (ofs (A) (((hdq q).toNat) * 3))) rfl (Ru.indexA (j := (hdq q).toNat) Try.underlying23 el28 rfl rfl (smf encL_len (hA.at hM_l5) hx7_3 rfl) (by omega) (by omega)) rfl ?_
      refine O.val (v := .pointer (ofs (A) (((hdq q).toNat) * 3 + 0))) rfl (Ru.fieldA fl28_0 rfl (smf encL_len (hA.at hM_l5) hx7_3 rfl)) rfl ?_
      refine O.val rfl (Ru.load1 el26 rfl (ldf encL_len (hA.at hM_l5) hx7_3 rfl)) rfl ?_
      refine O.mappend (sz := 1) (news := (((l)[(hdq q).toNat]'hx7_3).t.keys).map I) (m1 := (K ++ ((l)[(hdq q).toNat]'hx7_3).t.keys).length) (xs1 := (K ++ ((l)[(hdq q).toNat]'hx7_3).t.keys).map I) (M' := fun A7_6 c7_6 => [[⟨.slice (A7_6) ((K ++ ((l)[(hdq q).toNat]'hx7_3).t.keys).length) (c7_6), 3, 1, ((K ++ ((l)[(hdq q).toNat]'hx7_3).t.keys).length), (K ++ ((l)[(hdq q).toNat]'hx7_3).t.keys).map I⟩]]) 0 0 hM_l5 rfl rfl rfl Try.underlying26 el3 ⟨rfl, by decide⟩ rfl rfl rfl ((hNA.at hM_l5).get hx7_3) (by first | (simp; done) | (simp; omega)) (all_map_one (fun _ => rfl) _) (by first | omega | (simp; omega)) (by first | omega | (simp; omega)) (by first | (simp; done) | (simp; omega)) (by simp) (fun _ _ => rfl) (fun w7_6 A7_6 c7_6 hc7_6 hM7_6 => ?_)
      try dsimp only at hM7_6
      refine O.val (v := .slice (A7_6) ((K ++ ((l)[(hdq q).toNat]'hx7_3).t.keys).length) (c7_6)) rfl (Ru.assign rfl) rfl ?_
      refine O.nil ?_
      refine C.region ?_
      refine O.val (v := .slice (A) ((l).length) (c)) rfl (Ru.move rfl) rfl ?_
      refine O.val (v := I (hdq q)) rfl (Ru.move rfl) rfl ?_
      have hx6_2 : (hdq q).toNat < (l).length := hlt
      refine O.val (v := .pointer (ofs (A) (((hdq q).toNat) * 3))) rfl (Ru.indexA (j := (hdq q).toNat) Try.underlying23 el28 rfl rfl (smf encL_len (hA.at hM7_6) hx6_2 rfl) (by omega) (by omega)) rfl ?_
      refine O.val (v := .pointer (ofs (A) (((hdq q).toNat) * 3 + 2))) rfl (Ru.fieldA fl28_2 rfl (smf encL_len (hA.at hM7_6) hx6_2 rfl)) rfl ?_
      refine O.val rfl (Ru.load1 el3 rfl (ldf encL_len (hA.at hM7_6) hx6_2 rfl)) rfl ?_
      refine O.val (v := I (((l)[(hdq q).toNat]'hx6_2).t.right)) rfl (Ru.assign rfl) rfl ?_
      refine O.nil ?_
      have hq4 : (K ++ ((l)[(hdq q).toNat]'hx7_3).t.keys : List Int) = (K ++ ((l)[(hdq q).toNat]'hx7_3).t.keys) := (by first | rfl | simp | (simp; omega))
      have hMn4 : Mem w w7_6 [] [[⟨.slice (A7_6) (((K ++ ((l)[(hdq q).toNat]'hx7_3).t.keys)).length) (c7_6), 3, 1, (((K ++ ((l)[(hdq q).toNat]'hx7_3).t.keys)).length), ((K ++ ((l)[(hdq q).toNat]'hx7_3).t.keys)).map I⟩]] := hM7_6.relen 0 (n' := ((K ++ ((l)[(hdq q).toNat]'hx7_3).t.keys)).length) (xs' := ((K ++ ((l)[(hdq q).toNat]'hx7_3).t.keys)).map I) rfl (by first | rfl | exact congrArg List.length hq4 | (have hqq := congrArg List.length hq4; first | omega | (simp at hqq ⊢; omega)) | (simp; done) | (simp; omega)) (congrArg (fun z_ => (z_).map I) hq4) rfl
      exact loopEnd (q.tail, K ++ ((l)[(hdq q).toNat]'hx7_3).t.keys, A7_6, c7_6) (by (try dsimp only); have := hdq_len hh0; omega) (Has.cons rfl (Has.cons rfl (Has.cons (I_congr (by rw [← hgl]; exact (sfx_next hi0_l5 hh0).1)) Has.nil))) ⟨(sfx_next hi0_l5 hh0).2, (by (try dsimp only); rw [← hi1_l5, flat_hd hh0, hgl]; simp), (by (try dsimp only); have := hdq_len hh0; simp; omega), (hMn4.pick [0] (by decide) rfl)⟩
    · have hqn := hdq_neg (q := q) (by omega)
      rw [hqn] at hi1_l5
      simp only [List.flatMap_nil, List.append_nil] at hi1_l5
      refine C.exit ?_
      refine C.seq ?_
      refine C.region ?_
      refine O.val (v := .slice (A2) ((K).length) (c2)) rfl (Ru.move rfl) rfl ?_
      refine O.val (v := .slice (A2) ((K).length) (c2)) rfl (Ru.assign rfl) rfl ?_
      refine O.nil ?_
      refine C.ret ?_
      refine P1 (v := .slice (A2) ((K).length) (c2)) rfl ?_
      have hq5 : (K : List Int) = keysC (tsL l) := hi1_l5
      have hMn5 : Mem w w_l5 [] [[⟨.slice (A2) ((keysC (tsL l)).length) (c2), 3, 1, ((keysC (tsL l)).length), (keysC (tsL l)).map I⟩]] := hM_l5.relen 0 (n' := (keysC (tsL l)).length) (xs' := (keysC (tsL l)).map I) rfl (by first | rfl | exact congrArg List.length hq5 | (have hqq := congrArg List.length hq5; first | omega | (simp at hqq ⊢; omega)) | (simp; done) | (simp; omega)) (congrArg (fun z_ => (z_).map I) hq5) rfl
      exact ⟨A2, c2, (by rw [hi1_l5]), (hMn5.pick [0] (by decide) rfl)⟩
end Go.Proofs.Yteljpjapacajoaa
