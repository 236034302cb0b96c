/- Own layer: part of this seat (F1). Plain theorems; no conditions. -/
import Derived.Test.YtekfncmhinbghaaF0
import Derived.Test.YtekfncmhinbghaaW1
set_option linter.unusedVariables false
set_option linter.unusedSimpArgs false
namespace Go.Proofs.Ytekfncmhinbghaa
open Go.Px
theorem pick_fn (gr p : Nat) (n : Int) (w : World) (hR : Rdr 66 w gr p) (hp : p ≤ 1000000100000) :
    Does Try.prog 55 [.pointer (ofs (bl gr) (0)), I (n)] w (fun v w1 => (∃ k : Int, v = I k ∧ 0 ≤ k ∧ (k < n ∨ k = 0)) ∧ Rdr 66 w1 gr (p + 1) ∧ w.grownBy w1 (some gr)) := by
  obtain ⟨A, l, c, q, hB, hA, hl, hq, hN⟩ := hR
  refine Does.enter1 Try.func55 rfl Try.results55 Try.ntmps55 rfl ?_
  refine C.seq ?_
  refine C.region ?_
  refine O.val (v := I (0)) rfl (Ru.assign rfl) rfl ?_
  refine O.nil ?_
  refine C.seq ?_
  refine C.region ?_
  refine O.val (v := .pointer (ofs (bl gr) (0))) rfl (Ru.move rfl) rfl ?_
  refine O.val (v := .pointer (ofs (bl gr) (0))) rfl (Ru.move rfl) rfl ?_
  refine O.val (v := .pointer (ofs (bl gr) (0))) rfl (Ru.nilc rfl rfl) rfl ?_
  refine O.val (v := .pointer (ofs (bl gr) (1))) rfl (Ru.fieldA fl66_1 rfl rfl) rfl ?_
  refine O.val rfl (Ru.load1 el3 rfl (hB.ld rfl)) rfl ?_
  refine O.val (v := I (((q : Int) + 1))) rfl (Ru.add rfl rfl (by omega)) rfl ?_
  refine O.val (v := .pointer (ofs (bl gr) (0))) rfl (Ru.nilc rfl rfl) rfl ?_
  refine O.val (v := .pointer (ofs (bl gr) (1))) rfl (Ru.fieldA fl66_1 rfl rfl) rfl ?_
  refine O.store (vs := [I (((q : Int) + 1))]) rfl el3 rfl rfl rfl rfl rfl hB (by simp) (fun w1_8 hE1_8 hs1_8 hn1_8 => ?_)
  have hK1_8 := ksame (krefl w (some gr)) hE1_8
  replace hA := rd_kp hA hE1_8 hN
  replace hB := hn1_8.cast (l' := [.slice (A) (l.length) (c), I (((q : Int) + 1))]) rfl
  refine O.nil ?_
  refine C.seq ?_
  refine C.seq ?_
  refine C.region ?_
  refine O.val (v := I (n)) rfl (Ru.move rfl) rfl ?_
  refine O.val (v := .bool (decide (n < 1))) rfl (Ru.lss rfl rfl) rfl ?_
  refine O.val (v := .bool (decide (n < 1))) rfl (Ru.move rfl) rfl ?_
  refine O.partp 17 (n < 1) rfl (fun g17 => ?_) (fun g17 => ?_)
  · refine O.pass rfl rfl rfl rfl rfl ?_
    refine O.pass rfl rfl rfl rfl rfl ?_
    refine O.pass rfl rfl rfl rfl rfl ?_
    refine O.pass rfl rfl rfl rfl rfl ?_
    refine O.pass rfl rfl rfl rfl rfl ?_
    refine O.pass rfl rfl rfl rfl rfl ?_
    refine O.val (v := .bool (true)) rfl (Ru.pickT rfl rfl) rfl ?_
    refine O.nil ?_
    refine C.condT rfl ?_
    refine C.seq ?_
    refine C.region ?_
    refine O.val (v := I (0)) rfl (Ru.assign rfl) rfl ?_
    refine O.nil ?_
    refine C.ret ?_
    refine P1 (v := I (0)) rfl ?_
    exact ⟨⟨0, rfl, Int.le_refl _, .inr rfl⟩, ⟨A, l, c, q + 1, hB.cast (by simp), hA, hl, by omega, hN⟩, hK1_8⟩
  · refine O.val (v := .pointer (ofs (bl gr) (0))) rfl (Ru.move rfl) rfl ?_
    refine O.val (v := .pointer (ofs (bl gr) (0))) rfl (Ru.nilc rfl rfl) rfl ?_
    refine O.val (v := .pointer (ofs (bl gr) (0))) rfl (Ru.fieldA fl66_0 rfl rfl) rfl ?_
    refine O.val rfl (Ru.load1 el29 rfl (hB.ld rfl)) rfl ?_
    refine O.val (v := I (((l.length : Nat) : Int))) rfl (Ru.blenSlice Try.underlying29 rfl) rfl ?_
    refine O.val (v := .bool (decide (((l.length : Nat) : Int) = 0))) rfl (Ru.eql rfl rfl) rfl ?_
    refine O.val (v := .bool (decide (((l.length : Nat) : Int) = 0))) rfl (Ru.pickF rfl rfl) rfl ?_
    refine O.nil ?_
    refine C.cond (p := ((l.length : Nat) : Int) = 0) rfl (fun c24 => ?_) (fun c24 => ?_)
    · refine C.seq ?_
      refine C.region ?_
      refine O.val (v := I (0)) rfl (Ru.assign rfl) rfl ?_
      refine O.nil ?_
      refine C.ret ?_
      refine P1 (v := I (0)) rfl ?_
      exact ⟨⟨0, rfl, Int.le_refl _, .inr rfl⟩, ⟨A, l, c, q + 1, hB.cast (by simp), hA, hl, by omega, hN⟩, hK1_8⟩
    · refine C.skip ?_
      refine C.seq ?_
      refine C.region ?_
      refine O.val (v := .pointer (ofs (bl gr) (0))) rfl (Ru.move rfl) rfl ?_
      refine O.val (v := .pointer (ofs (bl gr) (0))) rfl (Ru.nilc rfl rfl) rfl ?_
      refine O.val (v := .pointer (ofs (bl gr) (1))) rfl (Ru.fieldA fl66_1 rfl rfl) rfl ?_
      refine O.val rfl (Ru.load1 el3 rfl (hB.ld rfl)) rfl ?_
      refine O.val (v := I ((q : Int))) rfl (Ru.congr (v := I ((((q : Int) + 1) - 1))) (v' := I ((q : Int))) (Ru.sub rfl rfl (by omega)) (I_congr (by omega))) rfl ?_
      refine O.val (v := I ((q : Int))) rfl (Ru.assign rfl) rfl ?_
      refine O.nil ?_
      refine C.seq ?_
      refine C.seq ?_
      refine C.region ?_
      refine O.val (v := I ((q : Int))) rfl (Ru.move rfl) rfl ?_
      refine O.val (v := .pointer (ofs (bl gr) (0))) rfl (Ru.move rfl) rfl ?_
      refine O.val (v := .pointer (ofs (bl gr) (0))) rfl (Ru.nilc rfl rfl) rfl ?_
      refine O.val (v := .pointer (ofs (bl gr) (0))) rfl (Ru.fieldA fl66_0 rfl rfl) rfl ?_
      refine O.val rfl (Ru.load1 el29 rfl (hB.ld rfl)) rfl ?_
      refine O.val (v := I (((l.length : Nat) : Int))) rfl (Ru.blenSlice Try.underlying29 rfl) rfl ?_
      refine O.val (v := .bool (decide ((q : Int) < ((l.length : Nat) : Int)))) rfl (Ru.lss rfl rfl) rfl ?_
      refine O.nil ?_
      refine C.cond (p := (q : Int) < ((l.length : Nat) : Int)) rfl (fun c36 => ?_) (fun c36 => ?_)
      · have hk1 : q < l.length := by omega
        refine C.seq ?_
        refine C.region ?_
        refine O.val (v := .pointer (ofs (bl gr) (0))) rfl (Ru.move rfl) rfl ?_
        refine O.val (v := .pointer (ofs (bl gr) (0))) rfl (Ru.nilc rfl rfl) rfl ?_
        refine O.val (v := .pointer (ofs (bl gr) (0))) rfl (Ru.fieldA fl66_0 rfl rfl) rfl ?_
        refine O.val rfl (Ru.load1 el29 rfl (hB.ld rfl)) rfl ?_
        refine O.val (v := I ((q : Int))) rfl (Ru.move rfl) rfl ?_
        refine O.val (v := .pointer (ofs (A) (q * 1))) rfl (Ru.indexA (j := q) Try.underlying29 el5 rfl rfl (smm hA hk1) (by omega) (by omega)) rfl ?_
        refine O.val rfl (Ru.load1 el5 rfl (ldm hA hk1)) rfl ?_
        refine O.val (v := I ((((l)[q]'hk1).toNat : Int))) rfl (Ru.conv (c := (((l)[q]'hk1).toNat : Int)) Try.underlying5 Try.underlying3 rfl (wrap_u8 _ (by have := u8_le l[q]; omega))) rfl ?_
        refine O.val (v := I (n)) rfl (Ru.move rfl) rfl ?_
        refine O.val (v := I (((((l)[q]'hk1).toNat : Int) % n))) rfl (Ru.rem rfl rfl (by omega)) rfl ?_
        refine O.val (v := I (((((l)[q]'hk1).toNat : Int) % n))) rfl (Ru.assign rfl) rfl ?_
        refine O.nil ?_
        refine C.ret ?_
        refine P1 (v := I (((((l)[q]'hk1).toNat : Int) % n))) rfl ?_
        exact ⟨⟨_, rfl, Int.emod_nonneg _ (by omega), .inl (Int.emod_lt_of_pos _ (by omega))⟩, ⟨A, l, c, q + 1, hB.cast (by simp), hA, hl, by omega, hN⟩, hK1_8⟩
      · have hq0 := Nat.mod_lt q (show 0 < l.length by omega)
        have hq1 := Nat.mod_lt (q * 7 + 3) (show 0 < l.length by omega)
        have hu0 := u8_le (l[q % l.length])
        have hu1 := u8_le (l[(q * 7 + 3) % l.length])
        obtain ⟨dv, hdq, hdv⟩ : ∃ dv : Nat, dv = q / l.length ∧ dv ≤ q := ⟨_, rfl, Nat.div_le_self _ _⟩
        refine C.skip ?_
        refine C.seq ?_
        refine C.draws (fun w2 => w1_8.grownBy w2 none) mixed (by kernel_rfl) (kdrawn _) ?_
        refine QO.val (v := .pointer (ofs (bl gr) (0))) rfl (fun w2 hw2 => Ru.move rfl) rfl ?_
        refine QO.val (v := .pointer (ofs (bl gr) (0))) rfl (fun w2 hw2 => Ru.nilc rfl rfl) rfl ?_
        refine QO.val (v := .pointer (ofs (bl gr) (0))) rfl (fun w2 hw2 => Ru.fieldA fl66_0 rfl rfl) rfl ?_
        refine QO.val rfl (fun w2 hw2 => Ru.load1 el29 rfl ((hB.ext hw2).ld rfl)) rfl ?_
        refine QO.val (v := I ((q : Int))) rfl (fun w2 hw2 => Ru.move rfl) rfl ?_
        refine QO.val (v := .pointer (ofs (bl gr) (0))) rfl (fun w2 hw2 => Ru.move rfl) rfl ?_
        refine QO.val (v := .pointer (ofs (bl gr) (0))) rfl (fun w2 hw2 => Ru.nilc rfl rfl) rfl ?_
        refine QO.val (v := .pointer (ofs (bl gr) (0))) rfl (fun w2 hw2 => Ru.fieldA fl66_0 rfl rfl) rfl ?_
        refine QO.val rfl (fun w2 hw2 => Ru.load1 el29 rfl ((hB.ext hw2).ld rfl)) rfl ?_
        refine QO.val (v := I (((l.length : Nat) : Int))) rfl (fun w2 hw2 => Ru.blenSlice Try.underlying29 rfl) rfl ?_
        refine QO.val (v := I (((q % l.length : Nat) : Int))) rfl (fun w2 hw2 => Ru.congr (v := I (((q : Int) % ((l.length : Nat) : Int)))) (v' := I (((q % l.length : Nat) : Int))) (Ru.rem rfl rfl (by omega)) (I_congr (by simp))) rfl ?_
        refine QO.val (v := .pointer (ofs (A) ((q % l.length) * 1))) rfl (fun w2 hw2 => Ru.indexA (j := q % l.length) Try.underlying29 el5 rfl rfl (smm (hA.ext hw2) hq0) (by omega) (by omega)) rfl ?_
        refine QO.val rfl (fun w2 hw2 => Ru.load1 el5 rfl (ldm (hA.ext hw2) hq0)) rfl ?_
        refine QO.val (v := I ((((l)[q % l.length]'hq0).toNat : Int))) rfl (fun w2 hw2 => Ru.conv (c := (((l)[q % l.length]'hq0).toNat : Int)) Try.underlying5 Try.underlying3 rfl (wrap_u8 _ (by omega))) rfl ?_
        refine QO.val (v := I (((((l)[q % l.length]'hq0).toNat : Int) * 131))) rfl (fun w2 hw2 => Ru.mul rfl rfl (by omega)) rfl ?_
        refine QO.val (v := .pointer (ofs (bl gr) (0))) rfl (fun w2 hw2 => Ru.move rfl) rfl ?_
        refine QO.val (v := .pointer (ofs (bl gr) (0))) rfl (fun w2 hw2 => Ru.nilc rfl rfl) rfl ?_
        refine QO.val (v := .pointer (ofs (bl gr) (0))) rfl (fun w2 hw2 => Ru.fieldA fl66_0 rfl rfl) rfl ?_
        refine QO.val rfl (fun w2 hw2 => Ru.load1 el29 rfl ((hB.ext hw2).ld rfl)) rfl ?_
        refine QO.val (v := I ((q : Int))) rfl (fun w2 hw2 => Ru.move rfl) rfl ?_
        refine QO.val (v := I (((q : Int) * 7))) rfl (fun w2 hw2 => Ru.mul rfl rfl (by omega)) rfl ?_
        refine QO.val (v := I ((((q : Int) * 7) + 3))) rfl (fun w2 hw2 => Ru.add rfl rfl (by omega)) rfl ?_
        refine QO.val (v := .pointer (ofs (bl gr) (0))) rfl (fun w2 hw2 => Ru.move rfl) rfl ?_
        refine QO.val (v := .pointer (ofs (bl gr) (0))) rfl (fun w2 hw2 => Ru.nilc rfl rfl) rfl ?_
        refine QO.val (v := .pointer (ofs (bl gr) (0))) rfl (fun w2 hw2 => Ru.fieldA fl66_0 rfl rfl) rfl ?_
        refine QO.val rfl (fun w2 hw2 => Ru.load1 el29 rfl ((hB.ext hw2).ld rfl)) rfl ?_
        refine QO.val (v := I (((l.length : Nat) : Int))) rfl (fun w2 hw2 => Ru.blenSlice Try.underlying29 rfl) rfl ?_
        refine QO.val (v := I ((((q * 7 + 3) % l.length : Nat) : Int))) rfl (fun w2 hw2 => Ru.congr (v := I (((((q : Int) * 7) + 3) % ((l.length : Nat) : Int)))) (v' := I ((((q * 7 + 3) % l.length : Nat) : Int))) (Ru.rem rfl rfl (by omega)) (I_congr (by simp))) rfl ?_
        refine QO.val (v := .pointer (ofs (A) (((q * 7 + 3) % l.length) * 1))) rfl (fun w2 hw2 => Ru.indexA (j := (q * 7 + 3) % l.length) Try.underlying29 el5 rfl rfl (smm (hA.ext hw2) hq1) (by omega) (by omega)) rfl ?_
        refine QO.val rfl (fun w2 hw2 => Ru.load1 el5 rfl (ldm (hA.ext hw2) hq1)) rfl ?_
        refine QO.val (v := I ((((l)[(q * 7 + 3) % l.length]'hq1).toNat : Int))) rfl (fun w2 hw2 => Ru.conv (c := (((l)[(q * 7 + 3) % l.length]'hq1).toNat : Int)) Try.underlying5 Try.underlying3 rfl (wrap_u8 _ (by omega))) rfl ?_
        refine QO.val (v := I (((((l)[(q * 7 + 3) % l.length]'hq1).toNat : Int) * 1117))) rfl (fun w2 hw2 => Ru.mul rfl rfl (by omega)) rfl ?_
        refine QO.val (v := I ((((((l)[q % l.length]'hq0).toNat : Int) * 131) + ((((l)[(q * 7 + 3) % l.length]'hq1).toNat : Int) * 1117)))) rfl (fun w2 hw2 => Ru.add rfl rfl (by omega)) rfl ?_
        refine QO.val (v := I ((q : Int))) rfl (fun w2 hw2 => Ru.move rfl) rfl ?_
        refine QO.val (v := I (((q : Int) * 29))) rfl (fun w2 hw2 => Ru.mul rfl rfl (by omega)) rfl ?_
        refine QO.val (v := I (((((((l)[q % l.length]'hq0).toNat : Int) * 131) + ((((l)[(q * 7 + 3) % l.length]'hq1).toNat : Int) * 1117)) + ((q : Int) * 29)))) rfl (fun w2 hw2 => Ru.add rfl rfl (by omega)) rfl ?_
        refine QO.val (v := I ((q : Int))) rfl (fun w2 hw2 => Ru.move rfl) rfl ?_
        refine QO.val (v := .pointer (ofs (bl gr) (0))) rfl (fun w2 hw2 => Ru.move rfl) rfl ?_
        refine QO.val (v := .pointer (ofs (bl gr) (0))) rfl (fun w2 hw2 => Ru.nilc rfl rfl) rfl ?_
        refine QO.val (v := .pointer (ofs (bl gr) (0))) rfl (fun w2 hw2 => Ru.fieldA fl66_0 rfl rfl) rfl ?_
        refine QO.val rfl (fun w2 hw2 => Ru.load1 el29 rfl ((hB.ext hw2).ld rfl)) rfl ?_
        refine QO.val (v := I (((l.length : Nat) : Int))) rfl (fun w2 hw2 => Ru.blenSlice Try.underlying29 rfl) rfl ?_
        refine QO.val (v := I ((dv : Int))) rfl (fun w2 hw2 => Ru.congr (v := I (((q : Int) / ((l.length : Nat) : Int)))) (v' := I ((dv : Int))) (Ru.quo rfl rfl (by omega)) (I_congr (by rw [hdq]; simp))) rfl ?_
        refine QO.val (v := I (((dv : Int) * 53))) rfl (fun w2 hw2 => Ru.mul rfl rfl (by omega)) rfl ?_
        refine QO.val (v := I ((((((((l)[q % l.length]'hq0).toNat : Int) * 131) + ((((l)[(q * 7 + 3) % l.length]'hq1).toNat : Int) * 1117)) + ((q : Int) * 29)) + ((dv : Int) * 53)))) rfl (fun w2 hw2 => Ru.add rfl rfl (by omega)) rfl ?_
        refine QO.val (v := I ((((((((l)[q % l.length]'hq0).toNat : Int) * 131) + ((((l)[(q * 7 + 3) % l.length]'hq1).toNat : Int) * 1117)) + ((q : Int) * 29)) + ((dv : Int) * 53)))) rfl (fun w2 hw2 => Ru.assign rfl) rfl ?_
        refine QO.nil ?_
        intro w7d hE7d
        have hK7d := kext hK1_8 hE7d
        replace hB := hB.ext hE7d
        replace hA := hA.ext hE7d
        refine C.seq ?_
        refine C.region ?_
        refine O.val (v := I ((((((((l)[q % l.length]'hq0).toNat : Int) * 131) + ((((l)[(q * 7 + 3) % l.length]'hq1).toNat : Int) * 1117)) + ((q : Int) * 29)) + ((dv : Int) * 53)))) rfl (Ru.move rfl) rfl ?_
        refine O.val (v := I ((((((((l)[q % l.length]'hq0).toNat : Int) * 131) + ((((l)[(q * 7 + 3) % l.length]'hq1).toNat : Int) * 1117)) + ((q : Int) * 29)) + ((dv : Int) * 53)))) rfl (Ru.move rfl) rfl ?_
        refine O.val (v := I (((((((((l)[q % l.length]'hq0).toNat : Int) * 131) + ((((l)[(q * 7 + 3) % l.length]'hq1).toNat : Int) * 1117)) + ((q : Int) * 29)) + ((dv : Int) * 53)) / 64))) rfl (Ru.quo rfl rfl (by omega)) rfl ?_
        refine O.val (v := I (((((((((((l)[q % l.length]'hq0).toNat : Int) * 131) + ((((l)[(q * 7 + 3) % l.length]'hq1).toNat : Int) * 1117)) + ((q : Int) * 29)) + ((dv : Int) * 53))).toNat ^^^ (((((((((l)[q % l.length]'hq0).toNat : Int) * 131) + ((((l)[(q * 7 + 3) % l.length]'hq1).toNat : Int) * 1117)) + ((q : Int) * 29)) + ((dv : Int) * 53)) / 64)).toNat : Nat) : Int))) rfl (Ru.xor rfl rfl (by omega) (by omega)) rfl ?_
        refine O.val (v := I (((((((((((l)[q % l.length]'hq0).toNat : Int) * 131) + ((((l)[(q * 7 + 3) % l.length]'hq1).toNat : Int) * 1117)) + ((q : Int) * 29)) + ((dv : Int) * 53))).toNat ^^^ (((((((((l)[q % l.length]'hq0).toNat : Int) * 131) + ((((l)[(q * 7 + 3) % l.length]'hq1).toNat : Int) * 1117)) + ((q : Int) * 29)) + ((dv : Int) * 53)) / 64)).toNat : Nat) : Int))) rfl (Ru.assign rfl) rfl ?_
        refine O.nil ?_
        refine C.seq ?_
        refine C.region ?_
        refine O.val (v := I (((((((((((l)[q % l.length]'hq0).toNat : Int) * 131) + ((((l)[(q * 7 + 3) % l.length]'hq1).toNat : Int) * 1117)) + ((q : Int) * 29)) + ((dv : Int) * 53))).toNat ^^^ (((((((((l)[q % l.length]'hq0).toNat : Int) * 131) + ((((l)[(q * 7 + 3) % l.length]'hq1).toNat : Int) * 1117)) + ((q : Int) * 29)) + ((dv : Int) * 53)) / 64)).toNat : Nat) : Int))) rfl (Ru.move rfl) rfl ?_
        refine O.val (v := I (n)) rfl (Ru.move rfl) rfl ?_
        refine O.val (v := I ((((((((((((l)[q % l.length]'hq0).toNat : Int) * 131) + ((((l)[(q * 7 + 3) % l.length]'hq1).toNat : Int) * 1117)) + ((q : Int) * 29)) + ((dv : Int) * 53))).toNat ^^^ (((((((((l)[q % l.length]'hq0).toNat : Int) * 131) + ((((l)[(q * 7 + 3) % l.length]'hq1).toNat : Int) * 1117)) + ((q : Int) * 29)) + ((dv : Int) * 53)) / 64)).toNat : Nat) : Int) % n))) rfl (Ru.rem rfl rfl (by omega)) rfl ?_
        refine O.val (v := I ((((((((((((l)[q % l.length]'hq0).toNat : Int) * 131) + ((((l)[(q * 7 + 3) % l.length]'hq1).toNat : Int) * 1117)) + ((q : Int) * 29)) + ((dv : Int) * 53))).toNat ^^^ (((((((((l)[q % l.length]'hq0).toNat : Int) * 131) + ((((l)[(q * 7 + 3) % l.length]'hq1).toNat : Int) * 1117)) + ((q : Int) * 29)) + ((dv : Int) * 53)) / 64)).toNat : Nat) : Int) % n))) rfl (Ru.assign rfl) rfl ?_
        refine O.nil ?_
        refine C.ret ?_
        refine P1 (v := I ((((((((((((l)[q % l.length]'hq0).toNat : Int) * 131) + ((((l)[(q * 7 + 3) % l.length]'hq1).toNat : Int) * 1117)) + ((q : Int) * 29)) + ((dv : Int) * 53))).toNat ^^^ (((((((((l)[q % l.length]'hq0).toNat : Int) * 131) + ((((l)[(q * 7 + 3) % l.length]'hq1).toNat : Int) * 1117)) + ((q : Int) * 29)) + ((dv : Int) * 53)) / 64)).toNat : Nat) : Int) % n))) rfl ?_
        exact ⟨⟨_, rfl, Int.emod_nonneg _ (by omega), .inl (Int.emod_lt_of_pos _ (by omega))⟩, ⟨A, l, c, q + 1, hB.cast (by simp), hA, hl, by omega, hN⟩, hK7d⟩

theorem newReader_fn (A : Option Addr) (c : Nat) (l : List UInt8) (w : World) (hA : Rd w A (l.map byteV)) (hl : l.length ≤ 1048576) (hc : l.length ≤ c) :
    Does Try.prog 53 [.slice (A) (l.length) (c)] w (fun v w1 => (∃ gr, v = .pointer (ofs (bl gr) 0) ∧ w.heap.size ≤ gr ∧ Rdr 66 w1 gr 0) ∧ w.grownBy w1 none) := by
  refine Does.enter1 Try.func53 rfl Try.results53 Try.ntmps53 rfl ?_
  refine C.seq ?_
  refine C.region ?_
  refine O.val rfl (Ru.assign rfl) rfl ?_
  refine O.nil ?_
  refine C.seq ?_
  refine C.seq ?_
  refine C.region ?_
  refine O.val (v := .slice (A) (l.length) (c)) rfl (Ru.move rfl) rfl ?_
  refine O.val (v := I (((l.length : Nat) : Int))) rfl (Ru.blenSlice Try.underlying29 rfl) rfl ?_
  refine O.val (v := .bool (decide (((l.length : Nat) : Int) > 2000))) rfl (Ru.gtr rfl rfl) rfl ?_
  refine O.nil ?_
  refine C.cond (p := ((l.length : Nat) : Int) > 2000) rfl (fun c5 => ?_) (fun c5 => ?_)
  · refine C.region ?_
    refine O.val (v := .slice (A) (l.length) (c)) rfl (Ru.move rfl) rfl ?_
    refine O.val (v := .slice (A) (2000) (c)) rfl (Ru.lsliceTo (h := 2000) Try.underlying29 el5 rfl rfl (by omega) (by omega)) rfl ?_
    refine O.val (v := .slice (A) (2000) (c)) rfl (Ru.assign rfl) rfl ?_
    refine O.nil ?_
    refine C.seq ?_
    refine C.region ?_
    refine O.val (v := .slice (A) (2000) (c)) rfl (Ru.move rfl) rfl ?_
    refine O.val (v := .agg #[.slice (A) (2000) (c), I (0)]) rfl (Ru.build of66 rfl rfl rfl) rfl ?_
    refine O.box (vs := [.slice (A) (2000) (c), I (0)]) rfl rfl rfl rfl (fun w3_2 b3_2 hb3_2 hE3_2 hB3_2 => ?_)
    have hs3_2 := (krefl w none).size
    have hK3_2 := kext (krefl w none) hE3_2
    have hlt3_2 := hB3_2.lt
    refine O.val (v := .pointer (ofs (bl b3_2) (0))) rfl (Ru.assign rfl) rfl ?_
    refine O.nil ?_
    refine C.ret ?_
    refine P1 (v := .pointer (ofs (bl b3_2) (0))) rfl ?_
    exact ⟨⟨b3_2, rfl, by omega, ⟨A, l.take 2000, c, 0, hB3_2.cast (by simp; omega), rd_take1 (hA.ext hK3_2), by simp; omega, Nat.le_refl _, ((rd_old (rd_take1 hA (k := 2000))).imp id (fun h a ha => by have := h a ha; omega))⟩⟩, hK3_2⟩
  · refine C.skip ?_
    refine C.seq ?_
    refine C.region ?_
    refine O.val (v := .slice (A) (l.length) (c)) rfl (Ru.move rfl) rfl ?_
    refine O.val (v := .agg #[.slice (A) (l.length) (c), I (0)]) rfl (Ru.build of66 rfl rfl rfl) rfl ?_
    refine O.box (vs := [.slice (A) (l.length) (c), I (0)]) rfl rfl rfl rfl (fun w3_2 b3_2 hb3_2 hE3_2 hB3_2 => ?_)
    have hs3_2 := (krefl w none).size
    have hK3_2 := kext (krefl w none) hE3_2
    have hlt3_2 := hB3_2.lt
    refine O.val (v := .pointer (ofs (bl b3_2) (0))) rfl (Ru.assign rfl) rfl ?_
    refine O.nil ?_
    refine C.ret ?_
    refine P1 (v := .pointer (ofs (bl b3_2) (0))) rfl ?_
    exact ⟨⟨b3_2, rfl, by omega, ⟨A, l, c, 0, hB3_2, hA.ext hK3_2, by omega, Nat.le_refl _, ((rd_old hA).imp id (fun h a ha => by have := h a ha; omega))⟩⟩, hK3_2⟩

theorem of_fn (gr p : Nat) (A : Option Addr) (c : Nat) (l : List Str) (w : World) (hR : Rdr 66 w gr p) (hA : Rd w A (l.map S)) (hp : p ≤ 1000000099990) (hl : 0 < l.length) (hm : l.length ≤ 1000) (hN : Ng A gr) :
    Does Try.prog 61 [.pointer (ofs (bl gr) (0)), .slice (A) (l.length) (c)] w (fun v w1 => (∃ s : Str, v = S s ∧ s ∈ l) ∧ Rdr 66 w1 gr (p + 1) ∧ w.grownBy w1 (some gr)) := by
  refine Does.enter1 Try.func61 rfl Try.results61 Try.ntmps61 rfl ?_
  refine C.seq ?_
  refine C.region ?_
  refine O.val (v := S ([])) rfl (Ru.assign rfl) rfl ?_
  refine O.nil ?_
  refine C.seq ?_
  refine C.region ?_
  refine O.val (v := .slice (A) (l.length) (c)) rfl (Ru.move rfl) rfl ?_
  refine O.val (v := .pointer (ofs (bl gr) (0))) rfl (Ru.move rfl) rfl ?_
  refine O.val (v := .slice (A) (l.length) (c)) rfl (Ru.move rfl) rfl ?_
  refine O.val (v := I (((l.length : Nat) : Int))) rfl (Ru.blenSlice Try.underlying24 rfl) rfl ?_
  refine O.callg [.pointer (ofs (bl gr) (0)), I (((l.length : Nat) : Int))] rfl en55 rfl rfl (pick_fn gr (p) (((l.length : Nat) : Int)) w hR (by omega)) ?_
  rintro _ w1_4 ⟨⟨k1_4, rfl, hk1_4⟩, hR1_4, hE1_4⟩
  have hK1_4 := ksame (krefl w (some gr)) hE1_4
  replace hA := hA.kp hE1_4 (ng_ne hN)
  have hk1 : k1_4.toNat < l.length := by omega
  refine O.val (v := .pointer (ofs (A) ((k1_4.toNat) * 1))) rfl (Ru.indexA (j := k1_4.toNat) Try.underlying24 el9 rfl rfl (smm hA hk1) (by omega) (by omega)) rfl ?_
  refine O.val rfl (Ru.load1 el9 rfl (ldm hA hk1)) rfl ?_
  refine O.val (v := S ((l)[k1_4.toNat]'hk1)) rfl (Ru.assign rfl) rfl ?_
  refine O.nil ?_
  refine C.ret ?_
  refine P1 (v := S ((l)[k1_4.toNat]'hk1)) rfl ?_
  exact ⟨⟨_, rfl, List.getElem_mem hk1⟩, hR1_4, hK1_4⟩

theorem one_fn (gr p : Nat) (A : Option Addr) (c : Nat) (l : List Int) (w : World) (hR : Rdr 66 w gr p) (hA : Rd w A (l.map I)) (hp : p ≤ 1000000099990) (hl : 0 < l.length) (hm : l.length ≤ 1000) (hN : Ng A gr) :
    Does Try.prog 60 [.pointer (ofs (bl gr) (0)), .slice (A) (l.length) (c)] w (fun v w1 => (∃ k : Int, v = I k ∧ k ∈ l) ∧ Rdr 66 w1 gr (p + 1) ∧ w.grownBy w1 (some gr)) := by
  refine Does.enter1 Try.func60 rfl Try.results60 Try.ntmps60 rfl ?_
  refine C.seq ?_
  refine C.region ?_
  refine O.val (v := I (0)) rfl (Ru.assign rfl) rfl ?_
  refine O.nil ?_
  refine C.seq ?_
  refine C.region ?_
  refine O.val (v := .slice (A) (l.length) (c)) rfl (Ru.move rfl) rfl ?_
  refine O.val (v := .pointer (ofs (bl gr) (0))) rfl (Ru.move rfl) rfl ?_
  refine O.val (v := .slice (A) (l.length) (c)) rfl (Ru.move rfl) rfl ?_
  refine O.val (v := I (((l.length : Nat) : Int))) rfl (Ru.blenSlice Try.underlying59 rfl) rfl ?_
  refine O.callg [.pointer (ofs (bl gr) (0)), I (((l.length : Nat) : Int))] rfl en55 rfl rfl (pick_fn gr (p) (((l.length : Nat) : Int)) w hR (by omega)) ?_
  rintro _ w1_4 ⟨⟨k1_4, rfl, hk1_4⟩, hR1_4, hE1_4⟩
  have hK1_4 := ksame (krefl w (some gr)) hE1_4
  replace hA := hA.kp hE1_4 (ng_ne hN)
  have hk1 : k1_4.toNat < l.length := by omega
  refine O.val (v := .pointer (ofs (A) ((k1_4.toNat) * 1))) rfl (Ru.indexA (j := k1_4.toNat) Try.underlying59 el3 rfl rfl (smm hA hk1) (by omega) (by omega)) rfl ?_
  refine O.val rfl (Ru.load1 el3 rfl (ldm hA hk1)) rfl ?_
  refine O.val (v := I ((l)[k1_4.toNat]'hk1)) rfl (Ru.assign rfl) rfl ?_
  refine O.nil ?_
  refine C.ret ?_
  refine P1 (v := I ((l)[k1_4.toNat]'hk1)) rfl ?_
  exact ⟨⟨_, rfl, List.getElem_mem hk1⟩, hR1_4, hK1_4⟩

theorem someWord_fn (gr p : Nat) (w : World) (hR : Rdr 66 w gr p) (hp : p ≤ 1000000099980) :
    Does Try.prog 54 [.pointer (ofs (bl gr) (0))] w (fun v w1 => (∃ s : Str, v = S s ∧ s.length ≤ 8) ∧ Rdr 66 w1 gr (p + 2) ∧ w.grownBy w1 (some gr)) := by
  have hr0 := hR.lt
  refine Does.enter1 Try.func54 rfl Try.results54 Try.ntmps54 rfl ?_
  refine C.seq ?_
  refine C.region ?_
  refine O.val (v := S ([])) rfl (Ru.assign rfl) rfl ?_
  refine O.nil ?_
  refine C.seq ?_
  refine C.region ?_
  refine O.val (v := .pointer (ofs (bl gr) (0))) rfl (Ru.move rfl) rfl ?_
  refine O.lit (cs := [S ([]), S ([97]), S ([97, 98]), S ([97, 98, 99]), S ([98])]) rfl Try.underlying24 el9 rfl rfl rfl (by kernel_rfl) (fun w1_1 b1_1 hb1_1 hE1_1 hB1_1 => ?_)
  have hs1_1 := (krefl w (some gr)).size
  have hK1_1 := kext (krefl w (some gr)) hE1_1
  replace hR := hR.ext hE1_1
  have hlt1_1 := hB1_1.lt
  refine O.callg [.pointer (ofs (bl gr) (0)), .slice (bl b1_1) (5) (5)] rfl en61 rfl rfl (of_fn gr (p) (bl b1_1) (5) ([[], [97], [97, 98], [97, 98, 99], [98]]) w1_1 hR hB1_1.rd (by omega) (by simp) (by simp) (ng_bl (by omega))) ?_
  rintro _ w1_2 ⟨⟨s1_2, rfl, hs1_2⟩, hR1_2, hE1_2⟩
  have hK1_2 := ksame hK1_1 hE1_2
  have hln1_2 : s1_2.length ≤ 4 := (by decide : ∀ s ∈ ([[], [97], [97, 98], [97, 98, 99], [98]] : List Str), s.length ≤ 4) _ hs1_2
  refine O.val (v := .pointer (ofs (bl gr) (0))) rfl (Ru.move rfl) rfl ?_
  refine O.lit (cs := [S ([97]), S ([98]), S ([98, 97]), S ([99]), S ([97, 98, 99, 100]), S ([122, 122]), S ([]), S ([65])]) rfl Try.underlying24 el9 rfl rfl rfl (by kernel_rfl) (fun w1_4 b1_4 hb1_4 hE1_4 hB1_4 => ?_)
  have hs1_4 := hK1_2.size
  have hK1_4 := kext hK1_2 hE1_4
  replace hR1_2 := hR1_2.ext hE1_4
  have hlt1_4 := hB1_4.lt
  refine O.callg [.pointer (ofs (bl gr) (0)), .slice (bl b1_4) (8) (8)] rfl en61 rfl rfl (of_fn gr (p + 1) (bl b1_4) (8) ([[97], [98], [98, 97], [99], [97, 98, 99, 100], [122, 122], [], [65]]) w1_4 hR1_2 hB1_4.rd (by omega) (by simp) (by simp) (ng_bl (by omega))) ?_
  rintro _ w1_5 ⟨⟨s1_5, rfl, hs1_5⟩, hR1_5, hE1_5⟩
  have hK1_5 := ksame hK1_4 hE1_5
  have hln1_5 : s1_5.length ≤ 4 := (by decide : ∀ s ∈ ([[97], [98], [98, 97], [99], [97, 98, 99, 100], [122, 122], [], [65]] : List Str), s.length ≤ 4) _ hs1_5
  refine O.val (v := S ((s1_2 ++ s1_5))) rfl (Ru.sadd rfl rfl (by omega)) rfl ?_
  refine O.val (v := S ((s1_2 ++ s1_5))) rfl (Ru.assign rfl) rfl ?_
  refine O.nil ?_
  refine C.ret ?_
  refine P1 (v := S ((s1_2 ++ s1_5))) rfl ?_
  exact ⟨⟨_, rfl, by simp; omega⟩, hR1_5, hK1_5⟩

theorem DrawSeparator_fn (A : Option Addr) (c : Nat) (l : List UInt8) (w : World) (hA : Rd w A (l.map byteV)) (hl : l.length ≤ 1048576) (hc : l.length ≤ c) :
    Does Try.prog 27 [.slice (A) (l.length) (c)] w (fun v w1 => (∃ a b : Str, v = .tuple #[S a, S b] ∧ a.length ≤ 8 ∧ b.length ≤ 8) ∧ w.grownBy w1 none) := by
  refine Does.enter2 Try.func27 rfl Try.results27 Try.ntmps27 rfl ?_
  refine C.seq ?_
  refine C.region ?_
  refine O.val (v := S ([])) rfl (Ru.assign rfl) rfl ?_
  refine O.val (v := S ([])) rfl (Ru.assign rfl) rfl ?_
  refine O.nil ?_
  refine C.seq ?_
  refine C.region ?_
  refine O.val (v := .slice (A) (l.length) (c)) rfl (Ru.move rfl) rfl ?_
  refine O.callg [.slice (A) (l.length) (c)] rfl en53 rfl rfl (newReader_fn (A) (c) (l) w (hA.ext (krefl w none)) hl hc) ?_
  rintro _ w1_1 ⟨⟨gr, rfl, hgr, hR1_1⟩, hE1_1⟩
  have hlt1_1 := hR1_1.lt
  have hK1_1 := kext (krefl w none) hE1_1
  refine O.val (v := .pointer (ofs (bl gr) (0))) rfl (Ru.assign rfl) rfl ?_
  refine O.nil ?_
  refine C.seq ?_
  refine C.region ?_
  refine O.val (v := .pointer (ofs (bl gr) (0))) rfl (Ru.move rfl) rfl ?_
  refine O.callg [.pointer (ofs (bl gr) (0))] rfl en54 rfl rfl (someWord_fn gr (0) w1_1 hR1_1 (by omega)) ?_
  rintro _ w2_1 ⟨⟨s2_1, rfl, hs2_1⟩, hR2_1, hE2_1⟩
  have hK2_1 := kown hK1_1 hE2_1 (by omega)
  refine O.val (v := S (s2_1)) rfl (Ru.assign rfl) rfl ?_
  refine O.nil ?_
  refine C.seq ?_
  refine C.region ?_
  refine O.val (v := .pointer (ofs (bl gr) (0))) rfl (Ru.move rfl) rfl ?_
  refine O.callg [.pointer (ofs (bl gr) (0))] rfl en54 rfl rfl (someWord_fn gr (0 + 2) w2_1 hR2_1 (by omega)) ?_
  rintro _ w3_1 ⟨⟨s3_1, rfl, hs3_1⟩, hR3_1, hE3_1⟩
  have hK3_1 := kown hK2_1 hE3_1 (by omega)
  refine O.val (v := S (s3_1)) rfl (Ru.assign rfl) rfl ?_
  refine O.nil ?_
  refine C.seq ?_
  refine C.seq ?_
  refine C.region ?_
  refine O.val (v := S (s2_1)) rfl (Ru.move rfl) rfl ?_
  refine O.val (v := S (s3_1)) rfl (Ru.move rfl) rfl ?_
  refine O.val (v := .bool ((!(blt (s2_1) (s3_1)) && !decide (s2_1 = s3_1)))) rfl (Ru.sgtr rfl rfl) rfl ?_
  refine O.val (v := .bool ((!(blt (s2_1) (s3_1)) && !decide (s2_1 = s3_1)))) rfl (Ru.move rfl) rfl ?_
  refine O.part 16 ((!(blt (s2_1) (s3_1)) && !decide (s2_1 = s3_1))) rfl (fun g16 => ?_) (fun g16 => ?_)
  · refine O.val (v := .pointer (ofs (bl gr) (0))) rfl (Ru.move rfl) rfl ?_
    refine O.callg [.pointer (ofs (bl gr) (0)), I (4)] rfl en55 rfl rfl (pick_fn gr (0 + 2 + 2) (4) w3_1 hR3_1 (by omega)) ?_
    rintro _ w4_5 ⟨⟨k4_5, rfl, hk4_5⟩, hR4_5, hE4_5⟩
    have hK4_5 := kown hK3_1 hE4_5 (by omega)
    refine O.val (v := .bool (decide (k4_5 > 0))) rfl (Ru.gtr rfl rfl) rfl ?_
    refine O.val (v := .bool (decide (k4_5 > 0))) rfl (Ru.pickT rfl rfl) rfl ?_
    refine O.nil ?_
    refine C.cond (p := k4_5 > 0) rfl (fun c20 => ?_) (fun c20 => ?_)
    · refine C.seq ?_
      refine C.region ?_
      refine O.val (v := S (s3_1)) rfl (Ru.move rfl) rfl ?_
      refine O.val (v := S (s2_1)) rfl (Ru.move rfl) rfl ?_
      refine O.val (v := S (s3_1)) rfl (Ru.assign rfl) rfl ?_
      refine O.val (v := S (s2_1)) rfl (Ru.assign rfl) rfl ?_
      refine O.nil ?_
      refine C.ret ?_
      refine P2 (v := S (s3_1)) (v' := S (s2_1)) rfl rfl ?_
      exact ⟨⟨_, _, rfl, by omega, by omega⟩, hK4_5⟩
    · refine C.skip ?_
      refine C.seq ?_
      refine C.region ?_
      refine O.val (v := S (s2_1)) rfl (Ru.move rfl) rfl ?_
      refine O.val (v := S (s3_1)) rfl (Ru.move rfl) rfl ?_
      refine O.val (v := S (s2_1)) rfl (Ru.assign rfl) rfl ?_
      refine O.val (v := S (s3_1)) rfl (Ru.assign rfl) rfl ?_
      refine O.nil ?_
      refine C.ret ?_
      refine P2 (v := S (s2_1)) (v' := S (s3_1)) rfl rfl ?_
      exact ⟨⟨_, _, rfl, by omega, by omega⟩, hK4_5⟩
  · refine O.pass rfl rfl rfl rfl rfl ?_
    refine O.pass rfl rfl rfl rfl rfl ?_
    refine O.pass rfl rfl rfl rfl rfl ?_
    refine O.val (v := .bool (false)) rfl (Ru.pickF rfl rfl) rfl ?_
    refine O.nil ?_
    refine C.condF rfl ?_
    refine C.skip ?_
    refine C.seq ?_
    refine C.region ?_
    refine O.val (v := S (s2_1)) rfl (Ru.move rfl) rfl ?_
    refine O.val (v := S (s3_1)) rfl (Ru.move rfl) rfl ?_
    refine O.val (v := S (s2_1)) rfl (Ru.assign rfl) rfl ?_
    refine O.val (v := S (s3_1)) rfl (Ru.assign rfl) rfl ?_
    refine O.nil ?_
    refine C.ret ?_
    refine P2 (v := S (s2_1)) (v' := S (s3_1)) rfl rfl ?_
    exact ⟨⟨_, _, rfl, by omega, by omega⟩, hK3_1⟩

theorem eqRest_fn (a b : RestT) (w : World) :
    Does Try.prog 57 [.agg #[I ((a).same), S ((a).tail)], .agg #[I ((b).same), S ((b).tail)]] w (fun v w1 => v = .bool (decide (a = b)) ∧ w.grownBy w1 none) := by
  refine Does.enter1 Try.func57 rfl Try.results57 Try.ntmps57 rfl ?_
  refine C.seq ?_
  refine C.region ?_
  refine O.box (vs := [I ((a).same), S ((a).tail)]) rfl rfl rfl rfl (fun w0_0 b0_0 hb0_0 hE0_0 hB0_0 => ?_)
  have hs0_0 := (krefl w none).size
  have hK0_0 := kext (krefl w none) hE0_0
  have hlt0_0 := hB0_0.lt
  refine O.box (vs := [I ((b).same), S ((b).tail)]) rfl rfl rfl rfl (fun w0_1 b0_1 hb0_1 hE0_1 hB0_1 => ?_)
  have hs0_1 := hK0_0.size
  have hK0_1 := kext hK0_0 hE0_1
  replace hB0_0 := hB0_0.ext hE0_1
  have hlt0_1 := hB0_1.lt
  refine O.val (v := .bool (false)) rfl (Ru.assign rfl) rfl ?_
  refine O.nil ?_
  refine C.seq ?_
  refine C.seq ?_
  refine C.region ?_
  refine O.val (v := .pointer (ofs (bl b0_0) (0))) rfl (Ru.fieldA fl39_0 rfl rfl) rfl ?_
  refine O.val rfl (Ru.load1 el3 rfl (hB0_0.ld rfl)) rfl ?_
  refine O.val (v := .pointer (ofs (bl b0_1) (0))) rfl (Ru.fieldA fl39_0 rfl rfl) rfl ?_
  refine O.val rfl (Ru.load1 el3 rfl (hB0_1.ld rfl)) rfl ?_
  refine O.val (v := .bool (decide ((a).same ≠ (b).same))) rfl (Ru.neq rfl rfl) rfl ?_
  refine O.nil ?_
  refine C.cond (p := (a).same ≠ (b).same) rfl (fun c9 => ?_) (fun c9 => ?_)
  · refine C.seq ?_
    refine C.region ?_
    refine O.val (v := .bool (false)) rfl (Ru.assign rfl) rfl ?_
    refine O.nil ?_
    refine C.ret ?_
    refine P1 (v := .bool (false)) rfl ?_
    exact ⟨by rw [decide_eq_false (fun e => c9 (by rw [e]))], hK0_1⟩
  · refine C.skip ?_
    refine C.seq ?_
    refine C.seq ?_
    refine C.region ?_
    refine O.val (v := .pointer (ofs (bl b0_0) (1))) rfl (Ru.fieldA fl39_1 rfl rfl) rfl ?_
    refine O.val rfl (Ru.load1 el9 rfl (hB0_0.ld rfl)) rfl ?_
    refine O.val (v := .pointer (ofs (bl b0_1) (1))) rfl (Ru.fieldA fl39_1 rfl rfl) rfl ?_
    refine O.val rfl (Ru.load1 el9 rfl (hB0_1.ld rfl)) rfl ?_
    refine O.val (v := .bool (decide ((a).tail ≠ (b).tail))) rfl (Ru.sneq rfl rfl) rfl ?_
    refine O.nil ?_
    refine C.cond (p := (a).tail ≠ (b).tail) rfl (fun c14 => ?_) (fun c14 => ?_)
    · refine C.seq ?_
      refine C.region ?_
      refine O.val (v := .bool (false)) rfl (Ru.assign rfl) rfl ?_
      refine O.nil ?_
      refine C.ret ?_
      refine P1 (v := .bool (false)) rfl ?_
      exact ⟨by rw [decide_eq_false (fun e => c14 (by rw [e]))], hK0_1⟩
    · refine C.skip ?_
      refine C.seq ?_
      refine C.region ?_
      refine O.val (v := .bool (true)) rfl (Ru.assign rfl) rfl ?_
      refine O.nil ?_
      refine C.ret ?_
      refine P1 (v := .bool (true)) rfl ?_
      exact ⟨by rw [decide_eq_true (by cases a; cases b; simp_all)], hK0_1⟩

theorem equalRests_fn (A : Option Addr) (c : Nat) (a : List RestT) (B : Option Addr) (d : Nat) (b : List RestT) (w : World) (hA : Rd w A (a.flatMap encR)) (hB : Rd w B (b.flatMap encR)) (ha : a.length ≤ 1099511627776) :
    Does Try.prog 33 [.slice (A) (a.length) (c), .slice (B) (b.length) (d)] w (fun v w1 => v = .bool (decide (a = b)) ∧ w.grownBy w1 none) := by
  refine Does.enter1 Try.func33 rfl Try.results33 Try.ntmps33 rfl ?_
  refine C.seq ?_
  refine C.region ?_
  refine O.val (v := .bool (false)) rfl (Ru.assign rfl) rfl ?_
  refine O.nil ?_
  refine C.seq ?_
  refine C.seq ?_
  refine C.region ?_
  refine O.val (v := .slice (A) (a.length) (c)) rfl (Ru.move rfl) rfl ?_
  refine O.val (v := I (((a.length : Nat) : Int))) rfl (Ru.blenSlice Try.underlying35 rfl) rfl ?_
  refine O.val (v := .slice (B) (b.length) (d)) rfl (Ru.move rfl) rfl ?_
  refine O.val (v := I (((b.length : Nat) : Int))) rfl (Ru.blenSlice Try.underlying35 rfl) rfl ?_
  refine O.val (v := .bool (decide (((a.length : Nat) : Int) ≠ ((b.length : Nat) : Int)))) rfl (Ru.neq rfl rfl) rfl ?_
  refine O.nil ?_
  refine C.cond (p := ((a.length : Nat) : Int) ≠ ((b.length : Nat) : Int)) rfl (fun c10 => ?_) (fun c10 => ?_)
  · refine C.seq ?_
    refine C.region ?_
    refine O.val (v := .bool (false)) rfl (Ru.assign rfl) rfl ?_
    refine O.nil ?_
    refine C.ret ?_
    refine P1 (v := .bool (false)) rfl ?_
    exact ⟨by rw [ne_len (by omega)], (krefl w none)⟩
  · refine C.skip ?_
    refine C.seq ?_
    refine C.seq ?_
    refine C.region ?_
    refine O.val (v := I (0)) rfl (Ru.assign rfl) rfl ?_
    refine O.nil ?_
    refine C.block ?_
    refine C.loop (ι := Nat) (fun k => ([(0, .slice (A) (a.length) (c)), (1, .slice (B) (b.length) (d)), (5, I ((k : Int)))] : List (Nat × Value))) (fun k w_ => k ≤ a.length ∧ a.take k = b.take k ∧ w.grownBy w_ none) (fun k => a.length - k) (0) (Has.cons rfl (Has.cons rfl (Has.cons rfl Has.nil))) ⟨Nat.zero_le _, by simp, krefl _ _⟩ (fun k σ w_l4 hI => ?_)
    obtain ⟨hk, he, hK⟩ := hI
    refine C.seq ?_
    refine C.seq ?_
    refine C.region ?_
    refine O.val (v := I ((k : Int))) rfl (Ru.move rfl) rfl ?_
    refine O.val (v := .slice (A) (a.length) (c)) rfl (Ru.move rfl) rfl ?_
    refine O.val (v := I (((a.length : Nat) : Int))) rfl (Ru.blenSlice Try.underlying35 rfl) rfl ?_
    refine O.val (v := .bool (decide ((k : Int) < ((a.length : Nat) : Int)))) rfl (Ru.lss rfl rfl) rfl ?_
    refine O.nil ?_
    refine C.cond (p := (k : Int) < ((a.length : Nat) : Int)) rfl (fun c14 => ?_) (fun c14 => ?_)
    · have hk1 : k < a.length := by omega
      have hk2 : k < b.length := by omega
      refine C.skip ?_
      refine C.seq ?_
      refine C.block ?_
      refine C.seq ?_
      refine C.draws (fun w2 => w_l4.grownBy w2 none) mixed (by kernel_rfl) (kdrawn _) ?_
      refine QO.val (v := .slice (A) (a.length) (c)) rfl (fun w2 hw2 => Ru.move rfl) rfl ?_
      refine QO.val (v := I ((k : Int))) rfl (fun w2 hw2 => Ru.move rfl) rfl ?_
      refine QO.val (v := .pointer (ofs (A) (k * 2))) rfl (fun w2 hw2 => Ru.indexA (j := k) Try.underlying35 el39 rfl rfl (smf encR_len (hA.ext (kext hK hw2)) hk1 rfl) (by omega) (by omega)) rfl ?_
      refine QO.val rfl (fun w2 hw2 => Ru.loadN (vs := [I (((a)[k]'hk1).same), S (((a)[k]'hk1).tail)]) el39 rfl rfl (smf encR_len (hA.ext (kext hK hw2)) hk1 rfl) (ldn encR_len (hA.ext (kext hK hw2)) hk1)) rfl ?_
      refine QO.val (v := .slice (B) (b.length) (d)) rfl (fun w2 hw2 => Ru.move rfl) rfl ?_
      refine QO.val (v := I ((k : Int))) rfl (fun w2 hw2 => Ru.move rfl) rfl ?_
      refine QO.val (v := .pointer (ofs (B) (k * 2))) rfl (fun w2 hw2 => Ru.indexA (j := k) Try.underlying35 el39 rfl rfl (smf encR_len (hB.ext (kext hK hw2)) hk2 rfl) (by omega) (by omega)) rfl ?_
      refine QO.val rfl (fun w2 hw2 => Ru.loadN (vs := [I (((b)[k]'hk2).same), S (((b)[k]'hk2).tail)]) el39 rfl rfl (smf encR_len (hB.ext (kext hK hw2)) hk2 rfl) (ldn encR_len (hB.ext (kext hK hw2)) hk2)) rfl ?_
      refine QO.val (v := .bool (decide (a[k] ≠ b[k]))) rfl (fun w2 hw2 => Ru.congr (v := .bool (!([decide (((a)[k]'hk1).same = ((b)[k]'hk2).same), decide (((a)[k]'hk1).tail = ((b)[k]'hk2).tail)].all id))) (v' := .bool (decide (a[k] ≠ b[k]))) (Ru.neqT (xs0 := [I (((a)[k]'hk1).same), S (((a)[k]'hk1).tail)]) (bs := [I (((b)[k]'hk2).same), S (((b)[k]'hk2).tail)]) (rs := [decide (((a)[k]'hk1).same = ((b)[k]'hk2).same), decide (((a)[k]'hk1).tail = ((b)[k]'hk2).tail)]) eq39 rfl rfl ⟨ceq_int Try.underlying3, ⟨ceq_str Try.underlying9, trivial⟩⟩) (congrArg Value.bool (rest_ne _ _))) rfl ?_
      refine QO.nil ?_
      intro w6d hE6d
      have hK6d := kext hK hE6d
      refine C.cond (p := a[k] ≠ b[k]) rfl (fun c25 => ?_) (fun c25 => ?_)
      · refine C.seq ?_
        refine C.region ?_
        refine O.val (v := .bool (false)) rfl (Ru.assign rfl) rfl ?_
        refine O.nil ?_
        refine C.ret ?_
        refine P1 (v := .bool (false)) rfl ?_
        exact ⟨by rw [ne_at hk1 hk2 (by simpa using c25)], hK6d⟩
      · refine C.skip ?_
        refine C.region ?_
        refine O.val (v := I ((k : Int))) rfl (Ru.move rfl) rfl ?_
        refine O.val (v := I (((k : Int) + 1))) rfl (Ru.add rfl rfl (by omega)) rfl ?_
        refine O.val (v := I (((k : Int) + 1))) rfl (Ru.assign rfl) rfl ?_
        refine O.nil ?_
        refine loopEnd (k + 1) (by omega) (Has.cons rfl (Has.cons rfl (Has.cons rfl Has.nil))) ⟨by omega, eq_step hk1 hk2 he (by simpa using c25), hK6d⟩
    · refine C.exit ?_
      refine C.seq ?_
      refine C.region ?_
      refine O.val (v := .bool (true)) rfl (Ru.assign rfl) rfl ?_
      refine O.nil ?_
      refine C.ret ?_
      refine P1 (v := .bool (true)) rfl ?_
      exact ⟨by rw [eq_all (by omega) (by omega) he], hK⟩

theorem eqRestS_fn (A : Option Addr) (c : Nat) (a : List RestT) (B : Option Addr) (d : Nat) (b : List RestT) (w : World) (hA : Rd w A (a.flatMap encR)) (hB : Rd w B (b.flatMap encR)) (ha : a.length ≤ 1099511627776) :
    Does Try.prog 36 [.slice (A) (a.length) (c), .slice (B) (b.length) (d)] w (fun v w1 => v = .bool (decide (a = b)) ∧ w.grownBy w1 none) := by
  refine Does.enter1 Try.func36 rfl Try.results36 Try.ntmps36 rfl ?_
  refine C.seq ?_
  refine C.region ?_
  refine O.val (v := .bool (false)) rfl (Ru.assign rfl) rfl ?_
  refine O.nil ?_
  refine C.seq ?_
  refine C.seq ?_
  refine C.region ?_
  refine O.val (v := .slice (A) (a.length) (c)) rfl (Ru.move rfl) rfl ?_
  refine O.val (v := I (((a.length : Nat) : Int))) rfl (Ru.blenSlice Try.underlying35 rfl) rfl ?_
  refine O.val (v := .slice (B) (b.length) (d)) rfl (Ru.move rfl) rfl ?_
  refine O.val (v := I (((b.length : Nat) : Int))) rfl (Ru.blenSlice Try.underlying35 rfl) rfl ?_
  refine O.val (v := .bool (decide (((a.length : Nat) : Int) ≠ ((b.length : Nat) : Int)))) rfl (Ru.neq rfl rfl) rfl ?_
  refine O.nil ?_
  refine C.cond (p := ((a.length : Nat) : Int) ≠ ((b.length : Nat) : Int)) rfl (fun c10 => ?_) (fun c10 => ?_)
  · refine C.seq ?_
    refine C.region ?_
    refine O.val (v := .bool (false)) rfl (Ru.assign rfl) rfl ?_
    refine O.nil ?_
    refine C.ret ?_
    refine P1 (v := .bool (false)) rfl ?_
    exact ⟨by rw [ne_len (by omega)], (krefl w none)⟩
  · refine C.skip ?_
    refine C.seq ?_
    refine C.seq ?_
    refine C.region ?_
    refine O.val (v := I (0)) rfl (Ru.assign rfl) rfl ?_
    refine O.nil ?_
    refine C.block ?_
    refine C.loop (ι := Nat) (fun k => ([(0, .slice (A) (a.length) (c)), (1, .slice (B) (b.length) (d)), (5, I ((k : Int)))] : List (Nat × Value))) (fun k w_ => k ≤ a.length ∧ a.take k = b.take k ∧ w.grownBy w_ none) (fun k => a.length - k) (0) (Has.cons rfl (Has.cons rfl (Has.cons rfl Has.nil))) ⟨Nat.zero_le _, by simp, krefl _ _⟩ (fun k σ w_l4 hI => ?_)
    obtain ⟨hk, he, hK⟩ := hI
    refine C.seq ?_
    refine C.seq ?_
    refine C.region ?_
    refine O.val (v := I ((k : Int))) rfl (Ru.move rfl) rfl ?_
    refine O.val (v := .slice (A) (a.length) (c)) rfl (Ru.move rfl) rfl ?_
    refine O.val (v := I (((a.length : Nat) : Int))) rfl (Ru.blenSlice Try.underlying35 rfl) rfl ?_
    refine O.val (v := .bool (decide ((k : Int) < ((a.length : Nat) : Int)))) rfl (Ru.lss rfl rfl) rfl ?_
    refine O.nil ?_
    refine C.cond (p := (k : Int) < ((a.length : Nat) : Int)) rfl (fun c14 => ?_) (fun c14 => ?_)
    · have hk1 : k < a.length := by omega
      have hk2 : k < b.length := by omega
      refine C.skip ?_
      refine C.seq ?_
      refine C.block ?_
      refine C.seq ?_
      refine C.draws (fun w2 => w_l4.grownBy w2 none) mixed (by kernel_rfl) (kdrawn _) ?_
      refine QO.val (v := .slice (A) (a.length) (c)) rfl (fun w2 hw2 => Ru.move rfl) rfl ?_
      refine QO.val (v := I ((k : Int))) rfl (fun w2 hw2 => Ru.move rfl) rfl ?_
      refine QO.val (v := .pointer (ofs (A) (k * 2))) rfl (fun w2 hw2 => Ru.indexA (j := k) Try.underlying35 el39 rfl rfl (smf encR_len (hA.ext (kext hK hw2)) hk1 rfl) (by omega) (by omega)) rfl ?_
      refine QO.val rfl (fun w2 hw2 => Ru.loadN (vs := [I (((a)[k]'hk1).same), S (((a)[k]'hk1).tail)]) el39 rfl rfl (smf encR_len (hA.ext (kext hK hw2)) hk1 rfl) (ldn encR_len (hA.ext (kext hK hw2)) hk1)) rfl ?_
      refine QO.val (v := .slice (B) (b.length) (d)) rfl (fun w2 hw2 => Ru.move rfl) rfl ?_
      refine QO.val (v := I ((k : Int))) rfl (fun w2 hw2 => Ru.move rfl) rfl ?_
      refine QO.val (v := .pointer (ofs (B) (k * 2))) rfl (fun w2 hw2 => Ru.indexA (j := k) Try.underlying35 el39 rfl rfl (smf encR_len (hB.ext (kext hK hw2)) hk2 rfl) (by omega) (by omega)) rfl ?_
      refine QO.val rfl (fun w2 hw2 => Ru.loadN (vs := [I (((b)[k]'hk2).same), S (((b)[k]'hk2).tail)]) el39 rfl rfl (smf encR_len (hB.ext (kext hK hw2)) hk2 rfl) (ldn encR_len (hB.ext (kext hK hw2)) hk2)) rfl ?_
      refine QO.callg [.agg #[I (((a)[k]'hk1).same), S (((a)[k]'hk1).tail)], .agg #[I (((b)[k]'hk2).same), S (((b)[k]'hk2).tail)]] rfl en57 rfl rfl (fun w2 hw2 => (eqRest_fn (a[k]) (b[k]) w2).mono (fun _ _ h => ⟨h.1, kext hw2 h.2⟩)) ?_
      refine QO.val (v := .bool (!(decide (a[k] = b[k])))) rfl (fun w2 hw2 => Ru.not rfl) rfl ?_
      refine QO.nil ?_
      intro w6d hE6d
      have hK6d := kext hK hE6d
      refine C.condn (b := (decide (a[k] = b[k]))) rfl (fun c26 => ?_) (fun c26 => ?_)
      · refine C.seq ?_
        refine C.region ?_
        refine O.val (v := .bool (false)) rfl (Ru.assign rfl) rfl ?_
        refine O.nil ?_
        refine C.ret ?_
        refine P1 (v := .bool (false)) rfl ?_
        exact ⟨by rw [ne_at hk1 hk2 (by simpa using c26)], hK6d⟩
      · refine C.skip ?_
        refine C.region ?_
        refine O.val (v := I ((k : Int))) rfl (Ru.move rfl) rfl ?_
        refine O.val (v := I (((k : Int) + 1))) rfl (Ru.add rfl rfl (by omega)) rfl ?_
        refine O.val (v := I (((k : Int) + 1))) rfl (Ru.assign rfl) rfl ?_
        refine O.nil ?_
        refine loopEnd (k + 1) (by omega) (Has.cons rfl (Has.cons rfl (Has.cons rfl Has.nil))) ⟨by omega, eq_step hk1 hk2 he (by simpa using c26), hK6d⟩
    · refine C.exit ?_
      refine C.seq ?_
      refine C.region ?_
      refine O.val (v := .bool (true)) rfl (Ru.assign rfl) rfl ?_
      refine O.nil ?_
      refine C.ret ?_
      refine P1 (v := .bool (true)) rfl ?_
      exact ⟨by rw [eq_all (by omega) (by omega) he], hK⟩

theorem sEqualRest_fn (A : Option Addr) (c : Nat) (a : List RestT) (B : Option Addr) (d : Nat) (b : List RestT) (w : World) (hA : Rd w A (a.flatMap encR)) (hB : Rd w B (b.flatMap encR)) (ha : a.length ≤ 1099511627776) :
    Does Try.prog 59 [.slice (A) (a.length) (c), .slice (B) (b.length) (d)] w (fun v w1 => v = .bool (decide (a = b)) ∧ w.grownBy w1 none) := by
  refine Does.enter1 Try.func59 rfl Try.results59 Try.ntmps59 rfl ?_
  refine C.seq ?_
  refine C.region ?_
  refine O.val (v := .bool (false)) rfl (Ru.assign rfl) rfl ?_
  refine O.nil ?_
  refine C.seq ?_
  refine C.seq ?_
  refine C.region ?_
  refine O.val (v := .slice (A) (a.length) (c)) rfl (Ru.move rfl) rfl ?_
  refine O.val (v := I (((a.length : Nat) : Int))) rfl (Ru.blenSlice Try.underlying35 rfl) rfl ?_
  refine O.val (v := .slice (B) (b.length) (d)) rfl (Ru.move rfl) rfl ?_
  refine O.val (v := I (((b.length : Nat) : Int))) rfl (Ru.blenSlice Try.underlying35 rfl) rfl ?_
  refine O.val (v := .bool (decide (((a.length : Nat) : Int) ≠ ((b.length : Nat) : Int)))) rfl (Ru.neq rfl rfl) rfl ?_
  refine O.nil ?_
  refine C.cond (p := ((a.length : Nat) : Int) ≠ ((b.length : Nat) : Int)) rfl (fun c10 => ?_) (fun c10 => ?_)
  · refine C.seq ?_
    refine C.region ?_
    refine O.val (v := .bool (false)) rfl (Ru.assign rfl) rfl ?_
    refine O.nil ?_
    refine C.ret ?_
    refine P1 (v := .bool (false)) rfl ?_
    exact ⟨by rw [ne_len (by omega)], (krefl w none)⟩
  · refine C.skip ?_
    refine C.seq ?_
    refine C.seq ?_
    refine C.region ?_
    refine O.val (v := .slice (A) (a.length) (c)) rfl (Ru.move rfl) rfl ?_
    refine O.val (v := I (((a.length : Nat) : Int))) rfl (Ru.blenSlice Try.underlying35 rfl) rfl ?_
    refine O.val (v := I (0)) rfl (Ru.move rfl) rfl ?_
    refine O.nil ?_
    refine C.block ?_
    refine C.loop (ι := Nat) (fun k => ([(0, .slice (A) (a.length) (c)), (1, .slice (B) (b.length) (d)), (12, I (((a.length : Nat) : Int))), (13, I ((k : Int)))] : List (Nat × Value))) (fun k w_ => k ≤ a.length ∧ a.take k = b.take k ∧ w.grownBy w_ none) (fun k => a.length - k) (0) (Has.cons rfl (Has.cons rfl (Has.cons rfl (Has.cons rfl Has.nil)))) ⟨Nat.zero_le _, by simp, krefl _ _⟩ (fun k σ w_l4 hI => ?_)
    obtain ⟨hk, he, hK⟩ := hI
    refine C.seq ?_
    refine C.region ?_
    refine O.val (v := .bool (decide ((k : Int) < ((a.length : Nat) : Int)))) rfl (Ru.lss rfl rfl) rfl ?_
    refine O.nil ?_
    refine C.seq ?_
    refine C.cond (p := (k : Int) < ((a.length : Nat) : Int)) rfl (fun c14 => ?_) (fun c14 => ?_)
    · have hk1 : k < a.length := by omega
      have hk2 : k < b.length := by omega
      refine C.skip ?_
      refine C.seq ?_
      refine C.block ?_
      refine C.seq ?_
      refine C.region ?_
      refine O.val (v := I ((k : Int))) rfl (Ru.move rfl) rfl ?_
      refine O.val (v := I ((k : Int))) rfl (Ru.assign rfl) rfl ?_
      refine O.nil ?_
      refine C.seq ?_
      refine C.draws (fun w2 => w_l4.grownBy w2 none) mixed (by kernel_rfl) (kdrawn _) ?_
      refine QO.val (v := .slice (A) (a.length) (c)) rfl (fun w2 hw2 => Ru.move rfl) rfl ?_
      refine QO.val (v := I ((k : Int))) rfl (fun w2 hw2 => Ru.move rfl) rfl ?_
      refine QO.val (v := .pointer (ofs (A) (k * 2))) rfl (fun w2 hw2 => Ru.indexA (j := k) Try.underlying35 el39 rfl rfl (smf encR_len (hA.ext (kext hK hw2)) hk1 rfl) (by omega) (by omega)) rfl ?_
      refine QO.val rfl (fun w2 hw2 => Ru.loadN (vs := [I (((a)[k]'hk1).same), S (((a)[k]'hk1).tail)]) el39 rfl rfl (smf encR_len (hA.ext (kext hK hw2)) hk1 rfl) (ldn encR_len (hA.ext (kext hK hw2)) hk1)) rfl ?_
      refine QO.val (v := .slice (B) (b.length) (d)) rfl (fun w2 hw2 => Ru.move rfl) rfl ?_
      refine QO.val (v := I ((k : Int))) rfl (fun w2 hw2 => Ru.move rfl) rfl ?_
      refine QO.val (v := .pointer (ofs (B) (k * 2))) rfl (fun w2 hw2 => Ru.indexA (j := k) Try.underlying35 el39 rfl rfl (smf encR_len (hB.ext (kext hK hw2)) hk2 rfl) (by omega) (by omega)) rfl ?_
      refine QO.val rfl (fun w2 hw2 => Ru.loadN (vs := [I (((b)[k]'hk2).same), S (((b)[k]'hk2).tail)]) el39 rfl rfl (smf encR_len (hB.ext (kext hK hw2)) hk2 rfl) (ldn encR_len (hB.ext (kext hK hw2)) hk2)) rfl ?_
      refine QO.val (v := .bool (decide (a[k] ≠ b[k]))) rfl (fun w2 hw2 => Ru.congr (v := .bool (!([decide (((a)[k]'hk1).same = ((b)[k]'hk2).same), decide (((a)[k]'hk1).tail = ((b)[k]'hk2).tail)].all id))) (v' := .bool (decide (a[k] ≠ b[k]))) (Ru.neqT (xs0 := [I (((a)[k]'hk1).same), S (((a)[k]'hk1).tail)]) (bs := [I (((b)[k]'hk2).same), S (((b)[k]'hk2).tail)]) (rs := [decide (((a)[k]'hk1).same = ((b)[k]'hk2).same), decide (((a)[k]'hk1).tail = ((b)[k]'hk2).tail)]) eq39 rfl rfl ⟨ceq_int Try.underlying3, ⟨ceq_str Try.underlying9, trivial⟩⟩) (congrArg Value.bool (rest_ne _ _))) rfl ?_
      refine QO.nil ?_
      intro w6d hE6d
      have hK6d := kext hK hE6d
      refine C.cond (p := a[k] ≠ b[k]) rfl (fun c24 => ?_) (fun c24 => ?_)
      · refine C.seq ?_
        refine C.region ?_
        refine O.val (v := .bool (false)) rfl (Ru.assign rfl) rfl ?_
        refine O.nil ?_
        refine C.ret ?_
        refine P1 (v := .bool (false)) rfl ?_
        exact ⟨by rw [ne_at hk1 hk2 (by simpa using c24)], hK6d⟩
      · refine C.skip ?_
        refine C.region ?_
        refine O.val (v := I (((k : Int) + 1))) rfl (Ru.add rfl rfl (by omega)) rfl ?_
        refine O.val (v := I (((k : Int) + 1))) rfl (Ru.move rfl) rfl ?_
        refine O.nil ?_
        refine loopEnd (k + 1) (by omega) (Has.cons rfl (Has.cons rfl (Has.cons rfl (Has.cons rfl Has.nil)))) ⟨by omega, eq_step hk1 hk2 he (by simpa using c24), hK6d⟩
    · refine C.exit ?_
      refine C.seq ?_
      refine C.region ?_
      refine O.val (v := .bool (true)) rfl (Ru.assign rfl) rfl ?_
      refine O.nil ?_
      refine C.ret ?_
      refine P1 (v := .bool (true)) rfl ?_
      exact ⟨by rw [eq_all (by omega) (by omega) he], hK⟩

theorem PackWords_fn (A : Option Addr) (c : Nat) (l : List Str) (w : World) (hA : Rd w A (l.map S)) (hl : l.length ≤ 1099511627776) (hs : ∀ s ∈ l, s.length ≤ 9223372036854775807) :
    Does Try.prog 32 [.slice (A) (l.length) (c)] w (fun v w1 => own w1 w.heap.size 39 2 v (packF l).length ((packF l).flatMap encR) ∧ w.grownBy w1 none) := by
  refine Does.enter1 Try.func32 rfl Try.results32 Try.ntmps32 rfl ?_
  refine C.seq ?_
  refine C.region ?_
  refine O.val (v := .slice (none) (0) (0)) rfl (Ru.assign rfl) rfl ?_
  refine O.nil ?_
  refine C.seq ?_
  refine C.seq ?_
  refine C.region ?_
  refine O.val (v := .slice (A) (l.length) (c)) rfl (Ru.move rfl) rfl ?_
  refine O.callg [.slice (A) (l.length) (c)] rfl en25 rfl rfl (ValidWords_fn (A) (c) (l) w (hA.ext (krefl w none)) (hl) (hs)) ?_
  rintro _ w1_1 ⟨rfl, hE1_1⟩
  have hK1_1 := kext (krefl w none) hE1_1
  refine O.val (v := .bool (!(validW (l)))) rfl (Ru.not rfl) rfl ?_
  refine O.nil ?_
  refine C.condn (b := (validW (l))) rfl (fun c10 => ?_) (fun c10 => ?_)
  · refine C.seq ?_
    refine C.region ?_
    refine O.val (v := .slice (none) (0) (0)) rfl (Ru.assign rfl) rfl ?_
    refine O.nil ?_
    refine C.ret ?_
    refine P1 (v := .slice (none) (0) (0)) rfl ?_
    rw [packF_no (by simpa using c10)]
    exact ⟨own_nil, hK1_1⟩
  · have hv : validW l = true := by simpa using c10
    have h8 := valid_len hv
    refine C.skip ?_
    refine C.seq ?_
    refine C.region ?_
    refine O.val (v := .slice (A) (l.length) (c)) rfl (Ru.move rfl) rfl ?_
    refine O.val (v := I (((l.length : Nat) : Int))) rfl (Ru.blenSlice Try.underlying24 rfl) rfl ?_
    refine O.make (k := l.length) rfl Try.underlying35 el39 rfl rfl rfl (by omega) (by omega) (fun w3_2 b3_2 hb3_2 hE3_2 hB3_2 => ?_)
    have hs3_2 := hK1_1.size
    have hK3_2 := kext hK1_1 hE3_2
    have hlt3_2 := hB3_2.lt
    refine O.val (v := .slice (bl b3_2) (l.length) (l.length)) rfl (Ru.assign rfl) rfl ?_
    refine O.nil ?_
    refine C.seq ?_
    refine C.region ?_
    refine O.val (v := S ([])) rfl (Ru.assign rfl) rfl ?_
    refine O.nil ?_
    refine C.seq ?_
    refine C.seq ?_
    refine C.region ?_
    refine O.val (v := .slice (A) (l.length) (c)) rfl (Ru.move rfl) rfl ?_
    refine O.val (v := I (((l.length : Nat) : Int))) rfl (Ru.blenSlice Try.underlying24 rfl) rfl ?_
    refine O.val (v := I (0)) rfl (Ru.move rfl) rfl ?_
    refine O.nil ?_
    refine C.block ?_
    refine C.loop (ι := Nat) (fun k => ([(3, .slice (bl b3_2) (l.length) (l.length)), (4, S (prevW l k)), (14, .slice (A) (l.length) (c)), (15, I (((l.length : Nat) : Int))), (16, I ((k : Int)))] : List (Nat × Value))) (fun k w_ => k ≤ l.length ∧ Blk w_ b3_2 39 (nf encR [I 0, S []] (packW l) k) ∧ w.grownBy w_ none) (fun k => l.length - k) (0) (Has.cons rfl (Has.cons (S_congr prevW_zero.symm) (Has.cons rfl (Has.cons rfl (Has.cons rfl Has.nil))))) ⟨Nat.zero_le _, hB3_2.cast (by rw [← packW_length l]; exact nf_zero), hK3_2⟩ (fun k σ w_l6 hI => ?_)
    obtain ⟨hk, hB, hK⟩ := hI
    refine C.seq ?_
    refine C.region ?_
    refine O.val (v := .bool (decide ((k : Int) < ((l.length : Nat) : Int)))) rfl (Ru.lss rfl rfl) rfl ?_
    refine O.nil ?_
    refine C.seq ?_
    refine C.cond (p := (k : Int) < ((l.length : Nat) : Int)) rfl (fun c17 => ?_) (fun c17 => ?_)
    · have hk1 : k < l.length := by omega
      have hml := nf_len (zs := [I 0, S []]) encR_len (show k ≤ (packW l).length by rw [packW_length]; omega)
      simp only [packW_length] at hml
      have hwl := valid_word hv (List.getElem_mem hk1)
      have hcm := comm_le (prevW l k) l[k]
      have hpw : (prevW l k).length ≤ 9223372036854775807 := by unfold prevW; split; (have := valid_word hv (w := l.getD (k - 1) []) (by simp [List.getD, show k - 1 < l.length by omega]); omega); simp
      refine C.skip ?_
      refine C.seq ?_
      refine C.block ?_
      refine C.seq ?_
      refine C.region ?_
      refine O.val (v := I ((k : Int))) rfl (Ru.move rfl) rfl ?_
      refine O.val (v := .pointer (ofs (A) (k * 1))) rfl (Ru.indexA (j := k) Try.underlying24 el9 rfl rfl (smm (hA.ext hK) hk1) (by omega) (by omega)) rfl ?_
      refine O.val rfl (Ru.load1 el9 rfl (ldm (hA.ext hK) hk1)) rfl ?_
      refine O.val (v := I ((k : Int))) rfl (Ru.assign rfl) rfl ?_
      refine O.val (v := S ((l)[k]'hk1)) rfl (Ru.assign rfl) rfl ?_
      refine O.nil ?_
      refine C.seq ?_
      refine C.region ?_
      refine O.val (v := S (prevW l k)) rfl (Ru.move rfl) rfl ?_
      refine O.val (v := S ((l)[k]'hk1)) rfl (Ru.move rfl) rfl ?_
      refine O.callg [S (prevW l k), S ((l)[k]'hk1)] rfl en51 rfl rfl (sameLetters_fn (prevW l k) ((l)[k]'hk1) (hpw) w_l6) ?_
      rintro _ w8_2 ⟨rfl, hE8_2⟩
      have hK8_2 := kext hK hE8_2
      replace hB := hB.ext hE8_2
      refine O.val (v := I ((comm (prevW l k) ((l)[k]'hk1) : Int))) rfl (Ru.assign rfl) rfl ?_
      refine O.nil ?_
      refine C.seq ?_
      refine C.region ?_
      refine O.val (v := .slice (bl b3_2) (l.length) (l.length)) rfl (Ru.move rfl) rfl ?_
      refine O.val (v := I ((k : Int))) rfl (Ru.move rfl) rfl ?_
      refine O.val (v := I ((comm (prevW l k) ((l)[k]'hk1) : Int))) rfl (Ru.move rfl) rfl ?_
      refine O.val (v := S ((l)[k]'hk1)) rfl (Ru.move rfl) rfl ?_
      refine O.val (v := I ((comm (prevW l k) ((l)[k]'hk1) : Int))) rfl (Ru.move rfl) rfl ?_
      refine O.val (v := S (((l)[k]'hk1).drop (comm (prevW l k) l[k]))) rfl (Ru.ssliceFrom (l := comm (prevW l k) l[k]) Try.underlying9 rfl rfl (by omega) (by omega)) rfl ?_
      refine O.callg [S (((l)[k]'hk1).drop (comm (prevW l k) l[k]))] rfl en50 rfl rfl (Clone_fn (((l)[k]'hk1).drop (comm (prevW l k) l[k])) ((by simp; omega)) w8_2) ?_
      rintro _ w9_6 ⟨rfl, hE9_6⟩
      have hK9_6 := kext hK8_2 hE9_6
      replace hB := hB.ext hE9_6
      refine O.val (v := .agg #[I ((comm (prevW l k) ((l)[k]'hk1) : Int)), S (((l)[k]'hk1).drop (comm (prevW l k) l[k]))]) rfl (Ru.build of39 rfl rfl rfl) rfl ?_
      refine O.val (v := .pointer (ofs (bl b3_2) (k * 2))) rfl (Ru.indexA (j := k) Try.underlying35 el39 rfl rfl rfl (by omega) (by omega)) rfl ?_
      refine O.store (vs := [I ((comm (prevW l k) ((l)[k]'hk1) : Int)), S (((l)[k]'hk1).drop (comm (prevW l k) l[k]))]) rfl el39 rfl rfl rfl rfl rfl hB (by simp at hml ⊢; omega) (fun w9_9 hE9_9 hs9_9 hn9_9 => ?_)
      have hK9_9 := kown hK9_6 hE9_9 (by omega)
      replace hB := hn9_9.cast ((congrArg (spl _ _) (congrArg encR (packW_get hk1)).symm).trans (nf_step encR_len (zs := [I 0, S []]) (by rw [packW_length]; omega)))
      refine O.nil ?_
      refine C.region ?_
      refine O.val (v := S ((l)[k]'hk1)) rfl (Ru.move rfl) rfl ?_
      refine O.val (v := S ((l)[k]'hk1)) rfl (Ru.assign rfl) rfl ?_
      refine O.nil ?_
      refine C.region ?_
      refine O.val (v := I (((k : Int) + 1))) rfl (Ru.add rfl rfl (by omega)) rfl ?_
      refine O.val (v := I (((k : Int) + 1))) rfl (Ru.move rfl) rfl ?_
      refine O.nil ?_
      refine loopEnd (k + 1) (by omega) (Has.cons rfl (Has.cons (S_congr (prevW_succ hk1).symm) (Has.cons rfl (Has.cons rfl (Has.cons rfl Has.nil))))) ⟨by omega, hB, hK9_9⟩
    · refine C.exit ?_
      refine C.seq ?_
      refine C.region ?_
      refine O.val (v := .slice (bl b3_2) (l.length) (l.length)) rfl (Ru.move rfl) rfl ?_
      refine O.val (v := .slice (bl b3_2) (l.length) (l.length)) rfl (Ru.assign rfl) rfl ?_
      refine O.nil ?_
      refine C.ret ?_
      refine P1 (v := .slice (bl b3_2) (l.length) (l.length)) rfl ?_
      rw [packF_yes hv]
      exact ⟨own_cast (own_new hB (by omega) (by rw [nf_len encR_len (by rw [packW_length]; omega), packW_length]; rfl) (by simp only [maxLen]; omega)) (packW_length l).symm (nf_all (by rw [packW_length]; omega)), hK⟩

theorem SPackWords_fn (A : Option Addr) (c : Nat) (l : List Str) (w : World) (hA : Rd w A (l.map S)) (hl : l.length ≤ 1099511627776) (hs : ∀ s ∈ l, s.length ≤ 9223372036854775807) :
    Does Try.prog 34 [.slice (A) (l.length) (c)] w (fun v w1 => own w1 w.heap.size 39 2 v (packF l).length ((packF l).flatMap encR) ∧ w.grownBy w1 none) := by
  refine Does.enter1 Try.func34 rfl Try.results34 Try.ntmps34 rfl ?_
  refine C.seq ?_
  refine C.region ?_
  refine O.val (v := .slice (none) (0) (0)) rfl (Ru.assign rfl) rfl ?_
  refine O.nil ?_
  refine C.seq ?_
  refine C.region ?_
  refine O.lit (cs := []) rfl Try.underlying35 el39 rfl rfl rfl (by kernel_rfl) (fun w1_0 b1_0 hb1_0 hE1_0 hB1_0 => ?_)
  have hs1_0 := (krefl w none).size
  have hK1_0 := kext (krefl w none) hE1_0
  have hlt1_0 := hB1_0.lt
  refine O.val (v := .slice (bl b1_0) (0) (0)) rfl (Ru.assign rfl) rfl ?_
  refine O.nil ?_
  refine C.seq ?_
  refine C.seq ?_
  refine C.region ?_
  refine O.val (v := .slice (A) (l.length) (c)) rfl (Ru.move rfl) rfl ?_
  refine O.callg [.slice (A) (l.length) (c)] rfl en52 rfl rfl (validWords_fn (A) (c) (l) w1_0 (hA.ext hK1_0) (hl) (hs)) ?_
  rintro _ w2_1 ⟨rfl, hE2_1⟩
  have hK2_1 := kext hK1_0 hE2_1
  replace hB1_0 := hB1_0.ext hE2_1
  refine O.val (v := .bool (!(validW (l)))) rfl (Ru.not rfl) rfl ?_
  refine O.nil ?_
  refine C.condn (b := (validW (l))) rfl (fun c9 => ?_) (fun c9 => ?_)
  · refine C.seq ?_
    refine C.region ?_
    refine O.val (v := .slice (none) (0) (0)) rfl (Ru.assign rfl) rfl ?_
    refine O.nil ?_
    refine C.ret ?_
    refine P1 (v := .slice (none) (0) (0)) rfl ?_
    rw [packF_no (by simpa using c9)]
    exact ⟨own_nil, hK2_1⟩
  · have hv : validW l = true := by simpa using c9
    have h8 := valid_len hv
    refine C.skip ?_
    refine C.seq ?_
    refine C.seq ?_
    refine C.region ?_
    refine O.val (v := I (0)) rfl (Ru.assign rfl) rfl ?_
    refine O.nil ?_
    refine C.block ?_
    refine C.loop (ι := Nat × Option Addr × Nat) (fun x_ => ([(0, .slice (A) (l.length) (c)), (3, .slice (x_.2.1) ((packW (l.take x_.1)).length) (x_.2.2)), (4, I ((x_.1 : Int)))] : List (Nat × Value))) (fun x_ w_ => x_.1 ≤ l.length ∧ own w_ w.heap.size 39 2 (.slice x_.2.1 (packW (l.take x_.1)).length x_.2.2) (packW (l.take x_.1)).length ((packW (l.take x_.1)).flatMap encR) ∧ w.grownBy w_ none) (fun x_ => l.length - x_.1) ((0, bl b1_0, 0)) (Has.cons rfl (Has.cons rfl (Has.cons rfl Has.nil))) ⟨Nat.zero_le _, own_new (m := 0) (xs := []) hB1_0 (by omega) rfl (by decide), hK2_1⟩ (fun ⟨k, A2, c2⟩ σ w_l5 hI => ?_)
    try dsimp only at hI
    obtain ⟨hk, ho, hK⟩ := hI
    refine C.seq ?_
    refine C.seq ?_
    refine C.region ?_
    refine O.val (v := I ((k : Int))) rfl (Ru.move rfl) rfl ?_
    refine O.val (v := .slice (A) (l.length) (c)) rfl (Ru.move rfl) rfl ?_
    refine O.val (v := I (((l.length : Nat) : Int))) rfl (Ru.blenSlice Try.underlying24 rfl) rfl ?_
    refine O.val (v := .bool (decide ((k : Int) < ((l.length : Nat) : Int)))) rfl (Ru.lss rfl rfl) rfl ?_
    refine O.nil ?_
    refine C.cond (p := (k : Int) < ((l.length : Nat) : Int)) rfl (fun c13 => ?_) (fun c13 => ?_)
    · have hk1 : k < l.length := by omega
      have hwl := valid_word hv (List.getElem_mem hk1)
      have hcm := comm_le (prevW l k) l[k]
      refine C.skip ?_
      refine C.seq ?_
      refine C.block ?_
      refine C.seq ?_
      refine C.region ?_
      refine O.val (v := I (0)) rfl (Ru.assign rfl) rfl ?_
      refine O.nil ?_
      refine C.cut (ι := Unit) (fun u => ([(0, .slice (A) (l.length) (c)), (3, .slice (A2) ((packW (l.take k)).length) (c2)), (4, I ((k : Int))), (5, I ((comm (prevW l k) (l[k]) : Int)))] : List (Nat × Value))) (fun u w_ => own w_ w.heap.size 39 2 (.slice A2 (packW (l.take k)).length c2) (packW (l.take k)).length ((packW (l.take k)).flatMap encR) ∧ w.grownBy w_ none) ?_ (fun u σ w_c17 hI => ?_)
      · refine C.seq ?_
        refine C.region ?_
        refine O.val (v := I ((k : Int))) rfl (Ru.move rfl) rfl ?_
        refine O.val (v := .bool (decide ((k : Int) > 0))) rfl (Ru.gtr rfl rfl) rfl ?_
        refine O.nil ?_
        refine C.cond (p := (k : Int) > 0) rfl (fun c17 => ?_) (fun c17 => ?_)
        · have hk0 : k - 1 < l.length := by omega
          have hpe := prevW_pos (l := l) (k := k) (by omega) hk0
          refine C.draws (fun w2 => w_l5.grownBy w2 none) mixed (by kernel_rfl) (kdrawn _) ?_
          refine QO.val (v := .slice (A) (l.length) (c)) rfl (fun w2 hw2 => Ru.move rfl) rfl ?_
          refine QO.val (v := I ((k : Int))) rfl (fun w2 hw2 => Ru.move rfl) rfl ?_
          refine QO.val (v := I (((k - 1 : Nat) : Int))) rfl (fun w2 hw2 => Ru.congr (v := I (((k : Int) - 1))) (v' := I (((k - 1 : Nat) : Int))) (Ru.sub rfl rfl (by omega)) (I_congr (by omega))) rfl ?_
          refine QO.val (v := .pointer (ofs (A) ((k - 1) * 1))) rfl (fun w2 hw2 => Ru.indexA (j := k - 1) Try.underlying24 el9 rfl rfl (smm (hA.ext (kext hK hw2)) hk0) (by omega) (by omega)) rfl ?_
          refine QO.val rfl (fun w2 hw2 => Ru.load1 el9 rfl (ldm (hA.ext (kext hK hw2)) hk0)) rfl ?_
          refine QO.val (v := .slice (A) (l.length) (c)) rfl (fun w2 hw2 => Ru.move rfl) rfl ?_
          refine QO.val (v := I ((k : Int))) rfl (fun w2 hw2 => Ru.move rfl) rfl ?_
          refine QO.val (v := .pointer (ofs (A) (k * 1))) rfl (fun w2 hw2 => Ru.indexA (j := k) Try.underlying24 el9 rfl rfl (smm (hA.ext (kext hK hw2)) hk1) (by omega) (by omega)) rfl ?_
          refine QO.val rfl (fun w2 hw2 => Ru.load1 el9 rfl (ldm (hA.ext (kext hK hw2)) hk1)) rfl ?_
          refine QO.callg [S ((l)[k - 1]'hk0), S ((l)[k]'hk1)] rfl en48 rfl rfl (fun w2 hw2 => (common_fn ((l)[k - 1]'hk0) ((l)[k]'hk1) ((by have := valid_word hv (List.getElem_mem hk0); omega)) w2).mono (fun _ _ h => ⟨h.1, kext hw2 h.2⟩)) ?_
          refine QO.val (v := I ((comm (prevW l k) (l[k]) : Int))) rfl (fun w2 hw2 => Ru.congr (v := I ((comm ((l)[k - 1]'hk0) ((l)[k]'hk1) : Int))) (v' := I ((comm (prevW l k) (l[k]) : Int))) (Ru.assign rfl) (I_congr (by rw [hpe]))) rfl ?_
          refine QO.nil ?_
          intro w9d hE9d
          have hK9d := kext hK hE9d
          replace ho := own_ext ho hE9d
          refine cutEnd () (Has.cons rfl (Has.cons rfl (Has.cons rfl (Has.cons rfl Has.nil)))) ⟨ho, hK9d⟩
        · have hpe : k = 0 := by omega
          refine C.skip ?_
          refine cutEnd () (Has.cons rfl (Has.cons rfl (Has.cons rfl (Has.cons (I_congr (by subst hpe; rw [prevW_zero, comm_nil]; rfl)) Has.nil)))) ⟨ho, hK⟩
      · obtain ⟨ho, hK⟩ := hI
        refine C.region ?_
        refine O.val (v := .slice (A2) ((packW (l.take k)).length) (c2)) rfl (Ru.move rfl) rfl ?_
        refine O.val (v := I ((comm (prevW l k) (l[k]) : Int))) rfl (Ru.move rfl) rfl ?_
        refine O.val (v := .slice (A) (l.length) (c)) rfl (Ru.move rfl) rfl ?_
        refine O.val (v := I ((k : Int))) rfl (Ru.move rfl) rfl ?_
        refine O.val (v := .pointer (ofs (A) (k * 1))) rfl (Ru.indexA (j := k) Try.underlying24 el9 rfl rfl (smm (hA.ext hK) hk1) (by omega) (by omega)) rfl ?_
        refine O.val rfl (Ru.load1 el9 rfl (ldm (hA.ext hK) hk1)) rfl ?_
        refine O.val (v := I ((comm (prevW l k) (l[k]) : Int))) rfl (Ru.move rfl) rfl ?_
        refine O.val (v := S (((l)[k]'hk1).drop (comm (prevW l k) l[k]))) rfl (Ru.ssliceFrom (l := comm (prevW l k) l[k]) Try.underlying9 rfl rfl (by omega) (by omega)) rfl ?_
        refine O.val (v := .agg #[I ((comm (prevW l k) (l[k]) : Int)), S (((l)[k]'hk1).drop (comm (prevW l k) l[k]))]) rfl (Ru.build of39 rfl rfl rfl) rfl ?_
        refine O.lit (cs := [I ((comm (prevW l k) (l[k]) : Int)), S (((l)[k]'hk1).drop (comm (prevW l k) l[k]))]) rfl Try.underlying35 el39 rfl rfl rfl (by kernel_rfl) (fun w10_9 b10_9 hb10_9 hE10_9 hB10_9 => ?_)
        have hs10_9 := hK.size
        have dj_ho_b10_9 := dj_bl (n := 1) (c := 1) ho (Nat.le_of_eq hb10_9.symm)
        have hK10_9 := kext hK hE10_9
        replace ho := own_ext ho hE10_9
        have hlt10_9 := hB10_9.lt
        refine O.append (B := w.heap.size) (m := (packW (l.take k)).length) (k := 1) (xs := (packW (l.take k)).flatMap encR) (news := [I ((comm (prevW l k) (l[k]) : Int)), S (((l)[k]'hk1).drop (comm (prevW l k) l[k]))]) rfl Try.underlying35 el39 (by decide) rfl rfl rfl ho hB10_9.rd rfl rfl (by rw [packW_length]; simp; omega) (by rw [packW_length]; simp; omega) hK10_9.size (fun w10_10 v10_10 ho10_10 hE10_10 hat10_10 => ?_)
        replace ho10_10 := own_cast (m' := (packW (l.take (k + 1))).length) (xs' := (packW (l.take (k + 1))).flatMap encR) ho10_10 (by rw [packW_length, packW_length]; simp; omega) (by rw [packW_take hk1]; simp [encR, restOf])
        obtain ⟨A10_10, c10_10, rfl, hc10_10, hm10_10, -, hF10_10, -⟩ := own_form ho10_10
        have hK10_10 := kownr hK10_9 hE10_10 ho
        have hz_ho10_10 := Nat.le_refl w.heap.size
        refine O.val (v := .slice (A10_10) ((packW (l.take (k + 1))).length) (c10_10)) rfl (Ru.assign rfl) rfl ?_
        refine O.nil ?_
        refine C.region ?_
        refine O.val (v := I ((k : Int))) rfl (Ru.move rfl) rfl ?_
        refine O.val (v := I (((k : Int) + 1))) rfl (Ru.add rfl rfl (by omega)) rfl ?_
        refine O.val (v := I (((k : Int) + 1))) rfl (Ru.assign rfl) rfl ?_
        refine O.nil ?_
        refine loopEnd ((k + 1, A10_10, c10_10)) (by omega) (Has.cons rfl (Has.cons rfl (Has.cons rfl Has.nil))) ⟨by omega, ho10_10, hK10_10⟩
    · refine C.exit ?_
      refine C.seq ?_
      refine C.region ?_
      refine O.val (v := .slice (A2) ((packW (l.take k)).length) (c2)) rfl (Ru.move rfl) rfl ?_
      refine O.val (v := .slice (A2) ((packW (l.take k)).length) (c2)) rfl (Ru.assign rfl) rfl ?_
      refine O.nil ?_
      refine C.ret ?_
      refine P1 (v := .slice (A2) ((packW (l.take k)).length) (c2)) rfl ?_
      rw [packF_yes hv]
      rw [List.take_of_length_le (by omega)] at ho
      rw [List.take_of_length_le (by omega)]
      exact ⟨ho, hK⟩

theorem PackedSize_fn (A : Option Addr) (c : Nat) (l : List Str) (w : World) (hA : Rd w A (l.map S)) (hl : l.length ≤ 1099511627776) (hs : ∀ s ∈ l, s.length ≤ 9223372036854775807) :
    Does Try.prog 30 [.slice (A) (l.length) (c)] w (fun v w1 => v = I (pszF l) ∧ w.grownBy w1 none) := by
  refine Does.enter1 Try.func30 rfl Try.results30 Try.ntmps30 rfl ?_
  refine C.seq ?_
  refine C.region ?_
  refine O.val (v := I (0)) rfl (Ru.assign rfl) rfl ?_
  refine O.nil ?_
  refine C.seq ?_
  refine C.seq ?_
  refine C.region ?_
  refine O.val (v := .slice (A) (l.length) (c)) rfl (Ru.move rfl) rfl ?_
  refine O.callg [.slice (A) (l.length) (c)] rfl en25 rfl rfl (ValidWords_fn (A) (c) (l) w (hA.ext (krefl w none)) (hl) (hs)) ?_
  rintro _ w1_1 ⟨rfl, hE1_1⟩
  have hK1_1 := kext (krefl w none) hE1_1
  refine O.val (v := .bool (!(validW (l)))) rfl (Ru.not rfl) rfl ?_
  refine O.nil ?_
  refine C.condn (b := (validW (l))) rfl (fun c8 => ?_) (fun c8 => ?_)
  · refine C.seq ?_
    refine C.region ?_
    refine O.val (v := I ((-1))) rfl (Ru.assign rfl) rfl ?_
    refine O.nil ?_
    refine C.ret ?_
    refine P1 (v := I ((-1))) rfl ?_
    exact ⟨by rw [pszF_no (by simpa using c8)], hK1_1⟩
  · have hv : validW l = true := by simpa using c8
    have h8 := valid_len hv
    have h64 := valid_sum hv
    have hpl : (packF l).length = l.length := by rw [packF_yes hv, packW_length]
    have hps : sumT (packF l) ≤ 64 := by rw [packF_yes hv]; exact h64
    refine C.skip ?_
    refine C.seq ?_
    refine C.region ?_
    refine O.val (v := I (0)) rfl (Ru.assign rfl) rfl ?_
    refine O.nil ?_
    refine C.seq ?_
    refine C.seq ?_
    refine C.region ?_
    refine O.val (v := .slice (A) (l.length) (c)) rfl (Ru.move rfl) rfl ?_
    refine O.callg [.slice (A) (l.length) (c)] rfl en32 rfl rfl (PackWords_fn (A) (c) (l) w1_1 (hA.ext hK1_1) (hl) (hs)) ?_
    rintro _ w4_1 ⟨ho4_1, hE4_1⟩
    obtain ⟨A4_1, c4_1, rfl, hc4_1, hm4_1, -, hF4_1, -⟩ := own_form ho4_1
    have hz_ho4_1 := hK1_1.size
    have hK4_1 := kext hK1_1 hE4_1
    refine O.val (v := I ((((packF (l)).length : Nat) : Int))) rfl (Ru.blenSlice Try.underlying35 rfl) rfl ?_
    refine O.val (v := I (0)) rfl (Ru.move rfl) rfl ?_
    refine O.nil ?_
    refine C.block ?_
    refine C.loop (ι := Nat) (fun k => ([(3, I (((k + sumT ((packF l).take k) : Nat) : Int))), (10, .slice (A4_1) ((packF (l)).length) (c4_1)), (11, I ((((packF (l)).length : Nat) : Int))), (12, I ((k : Int)))] : List (Nat × Value))) (fun k w_ => k ≤ (packF l).length ∧ own w_ w1_1.heap.size 39 2 (.slice A4_1 (packF l).length c4_1) (packF l).length ((packF l).flatMap encR) ∧ w.grownBy w_ none) (fun k => (packF l).length - k) (0) (Has.cons (I_congr (by simp [sumT])) (Has.cons rfl (Has.cons rfl (Has.cons rfl Has.nil)))) ⟨Nat.zero_le _, ho4_1, hK4_1⟩ (fun k σ w_l5 hI => ?_)
    obtain ⟨hk, ho, hK⟩ := hI
    refine C.seq ?_
    refine C.region ?_
    refine O.val (v := .bool (decide ((k : Int) < (((packF (l)).length : Nat) : Int)))) rfl (Ru.lss rfl rfl) rfl ?_
    refine O.nil ?_
    refine C.seq ?_
    refine C.cond (p := (k : Int) < (((packF (l)).length : Nat) : Int)) rfl (fun c13 => ?_) (fun c13 => ?_)
    · have hk1 : k < (packF l).length := by omega
      have hst := sumT_take hk1
      have hsl := sumT_take_le (packF l) (k + 1)
      refine C.skip ?_
      refine C.seq ?_
      refine C.block ?_
      refine C.seq ?_
      refine C.region ?_
      refine O.val (v := .pointer (ofs (A4_1) (k * 2))) rfl (Ru.indexA (j := k) Try.underlying35 el39 rfl rfl (smf encR_len (own_rd ho) hk1 rfl) (by omega) (by omega)) rfl ?_
      refine O.val rfl (Ru.loadN (vs := [I (((packF l)[k]'hk1).same), S (((packF l)[k]'hk1).tail)]) el39 rfl rfl (smf encR_len (own_rd ho) hk1 rfl) (ldn encR_len (own_rd ho) hk1)) rfl ?_
      refine O.alloc rfl rfl el39 (fun w6_2 b6_2 hb6_2 hE6_2 hB6_2 => ?_)
      have hs6_2 := hK.size
      have dj_ho_b6_2 := dj_bl (n := 0) (c := 0) ho (Nat.le_of_eq hb6_2.symm)
      have hK6_2 := kext hK hE6_2
      replace ho := own_ext ho hE6_2
      have hlt6_2 := hB6_2.lt
      refine O.store (vs := [I (((packF l)[k]'hk1).same), S (((packF l)[k]'hk1).tail)]) rfl el39 rfl rfl rfl rfl rfl hB6_2 (by simp) (fun w6_3 hE6_3 hs6_3 hn6_3 => ?_)
      have hK6_3 := kown hK6_2 hE6_3 (by omega)
      replace ho := own_dj ho hE6_3 dj_ho_b6_2
      replace hB6_2 := hn6_3.cast (l' := [I (((packF l)[k]'hk1).same), S (((packF l)[k]'hk1).tail)]) rfl
      refine O.nil ?_
      refine C.region ?_
      refine O.val (v := I (((k + sumT ((packF l).take k) : Nat) : Int))) rfl (Ru.move rfl) rfl ?_
      refine O.val (v := .pointer (ofs (bl b6_2) (1))) rfl (Ru.fieldA fl39_1 rfl rfl) rfl ?_
      refine O.val rfl (Ru.load1 el9 rfl (hB6_2.ld rfl)) rfl ?_
      refine O.val (v := I (((((packF l)[k]'hk1).tail).length : Int))) rfl (Ru.slen Try.underlying9 rfl) rfl ?_
      refine O.val (v := I ((((((packF l)[k]'hk1).tail).length : Int) + 1))) rfl (Ru.add rfl rfl (by omega)) rfl ?_
      refine O.val (v := I ((((k + sumT ((packF l).take k) : Nat) : Int) + (((((packF l)[k]'hk1).tail).length : Int) + 1)))) rfl (Ru.add rfl rfl (by omega)) rfl ?_
      refine O.val (v := I ((((k + sumT ((packF l).take k) : Nat) : Int) + (((((packF l)[k]'hk1).tail).length : Int) + 1)))) rfl (Ru.assign rfl) rfl ?_
      refine O.nil ?_
      refine C.region ?_
      refine O.val (v := I (((k : Int) + 1))) rfl (Ru.add rfl rfl (by omega)) rfl ?_
      refine O.val (v := I (((k : Int) + 1))) rfl (Ru.move rfl) rfl ?_
      refine O.nil ?_
      refine loopEnd (k + 1) (by omega) (Has.cons (I_congr (by omega)) (Has.cons rfl (Has.cons rfl (Has.cons rfl Has.nil)))) ⟨by omega, ho, hK6_3⟩
    · refine C.exit ?_
      refine C.seq ?_
      refine C.region ?_
      refine O.val (v := I (((k + sumT ((packF l).take k) : Nat) : Int))) rfl (Ru.move rfl) rfl ?_
      refine O.val (v := I (((k + sumT ((packF l).take k) : Nat) : Int))) rfl (Ru.assign rfl) rfl ?_
      refine O.nil ?_
      refine C.ret ?_
      refine P1 (v := I (((k + sumT ((packF l).take k) : Nat) : Int))) rfl ?_
      exact ⟨by rw [List.take_of_length_le (by omega), pszF_yes hv, packF_yes hv]; congr 2; rw [packF_yes hv, packW_length] at hk c13; omega, hK⟩

theorem SPackedSize_fn (A : Option Addr) (c : Nat) (l : List Str) (w : World) (hA : Rd w A (l.map S)) (hl : l.length ≤ 1099511627776) (hs : ∀ s ∈ l, s.length ≤ 9223372036854775807) :
    Does Try.prog 29 [.slice (A) (l.length) (c)] w (fun v w1 => v = I (pszF l) ∧ w.grownBy w1 none) := by
  refine Does.enter1 Try.func29 rfl Try.results29 Try.ntmps29 rfl ?_
  refine C.seq ?_
  refine C.region ?_
  refine O.val (v := I (0)) rfl (Ru.assign rfl) rfl ?_
  refine O.nil ?_
  refine C.seq ?_
  refine C.region ?_
  refine O.val (v := I (0)) rfl (Ru.assign rfl) rfl ?_
  refine O.nil ?_
  refine C.seq ?_
  refine C.seq ?_
  refine C.region ?_
  refine O.val (v := .slice (A) (l.length) (c)) rfl (Ru.move rfl) rfl ?_
  refine O.callg [.slice (A) (l.length) (c)] rfl en52 rfl rfl (validWords_fn (A) (c) (l) w (hA.ext (krefl w none)) (hl) (hs)) ?_
  rintro _ w2_1 ⟨rfl, hE2_1⟩
  have hK2_1 := kext (krefl w none) hE2_1
  refine O.val (v := .bool (!(validW (l)))) rfl (Ru.not rfl) rfl ?_
  refine O.nil ?_
  refine C.condn (b := (validW (l))) rfl (fun c8 => ?_) (fun c8 => ?_)
  · refine C.seq ?_
    refine C.region ?_
    refine O.val (v := I ((-1))) rfl (Ru.assign rfl) rfl ?_
    refine O.nil ?_
    refine C.ret ?_
    refine P1 (v := I ((-1))) rfl ?_
    exact ⟨by rw [pszF_no (by simpa using c8)], hK2_1⟩
  · have hv : validW l = true := by simpa using c8
    have h8 := valid_len hv
    have h64 := valid_sum hv
    have hpl : (packF l).length = l.length := by rw [packF_yes hv, packW_length]
    have hps : sumT (packF l) ≤ 64 := by rw [packF_yes hv]; exact h64
    refine C.skip ?_
    refine C.seq ?_
    refine C.region ?_
    refine O.val (v := .slice (A) (l.length) (c)) rfl (Ru.move rfl) rfl ?_
    refine O.callg [.slice (A) (l.length) (c)] rfl en34 rfl rfl (SPackWords_fn (A) (c) (l) w2_1 (hA.ext hK2_1) (hl) (hs)) ?_
    rintro _ w4_1 ⟨ho4_1, hE4_1⟩
    obtain ⟨A4_1, c4_1, rfl, hc4_1, hm4_1, -, hF4_1, -⟩ := own_form ho4_1
    have hz_ho4_1 := hK2_1.size
    have hK4_1 := kext hK2_1 hE4_1
    refine O.val (v := .slice (A4_1) ((packF (l)).length) (c4_1)) rfl (Ru.assign rfl) rfl ?_
    refine O.nil ?_
    refine C.seq ?_
    refine C.seq ?_
    refine C.region ?_
    refine O.val (v := I (0)) rfl (Ru.assign rfl) rfl ?_
    refine O.nil ?_
    refine C.block ?_
    refine C.loop (ι := Nat) (fun k => ([(3, I (((k + sumT ((packF l).take k) : Nat) : Int))), (4, .slice (A4_1) ((packF (l)).length) (c4_1)), (5, I ((k : Int)))] : List (Nat × Value))) (fun k w_ => k ≤ (packF l).length ∧ own w_ w2_1.heap.size 39 2 (.slice A4_1 (packF l).length c4_1) (packF l).length ((packF l).flatMap encR) ∧ w.grownBy w_ none) (fun k => (packF l).length - k) (0) (Has.cons (I_congr (by simp [sumT])) (Has.cons rfl (Has.cons rfl Has.nil))) ⟨Nat.zero_le _, ho4_1, hK4_1⟩ (fun k σ w_l6 hI => ?_)
    obtain ⟨hk, ho, hK⟩ := hI
    refine C.seq ?_
    refine C.seq ?_
    refine C.region ?_
    refine O.val (v := I ((k : Int))) rfl (Ru.move rfl) rfl ?_
    refine O.val (v := .slice (A4_1) ((packF (l)).length) (c4_1)) rfl (Ru.move rfl) rfl ?_
    refine O.val (v := I ((((packF (l)).length : Nat) : Int))) rfl (Ru.blenSlice Try.underlying35 rfl) rfl ?_
    refine O.val (v := .bool (decide ((k : Int) < (((packF (l)).length : Nat) : Int)))) rfl (Ru.lss rfl rfl) rfl ?_
    refine O.nil ?_
    refine C.cond (p := (k : Int) < (((packF (l)).length : Nat) : Int)) rfl (fun c14 => ?_) (fun c14 => ?_)
    · have hk1 : k < (packF l).length := by omega
      have hst := sumT_take hk1
      have hsl := sumT_take_le (packF l) (k + 1)
      refine C.skip ?_
      refine C.seq ?_
      refine C.block ?_
      refine C.region ?_
      refine O.val (v := I (((k + sumT ((packF l).take k) : Nat) : Int))) rfl (Ru.move rfl) rfl ?_
      refine O.val (v := I ((((k + sumT ((packF l).take k) : Nat) : Int) + 1))) rfl (Ru.add rfl rfl (by omega)) rfl ?_
      refine O.val (v := .slice (A4_1) ((packF (l)).length) (c4_1)) rfl (Ru.move rfl) rfl ?_
      refine O.val (v := I ((k : Int))) rfl (Ru.move rfl) rfl ?_
      refine O.val (v := .pointer (ofs (A4_1) (k * 2))) rfl (Ru.indexA (j := k) Try.underlying35 el39 rfl rfl (smf encR_len (own_rd ho) hk1 rfl) (by omega) (by omega)) rfl ?_
      refine O.val (v := .pointer (ofs (A4_1) (k * 2 + 1))) rfl (Ru.fieldA fl39_1 rfl (smf encR_len (own_rd ho) hk1 rfl)) rfl ?_
      refine O.val rfl (Ru.load1 el9 rfl (ldf encR_len (own_rd ho) hk1 rfl)) rfl ?_
      refine O.val (v := I (((((packF l)[k]'hk1).tail).length : Int))) rfl (Ru.slen Try.underlying9 rfl) rfl ?_
      refine O.val (v := I (((((k + sumT ((packF l).take k) : Nat) : Int) + 1) + ((((packF l)[k]'hk1).tail).length : Int)))) rfl (Ru.add rfl rfl (by omega)) rfl ?_
      refine O.val (v := I (((((k + sumT ((packF l).take k) : Nat) : Int) + 1) + ((((packF l)[k]'hk1).tail).length : Int)))) rfl (Ru.assign rfl) rfl ?_
      refine O.nil ?_
      refine C.region ?_
      refine O.val (v := I ((k : Int))) rfl (Ru.move rfl) rfl ?_
      refine O.val (v := I (((k : Int) + 1))) rfl (Ru.add rfl rfl (by omega)) rfl ?_
      refine O.val (v := I (((k : Int) + 1))) rfl (Ru.assign rfl) rfl ?_
      refine O.nil ?_
      refine loopEnd (k + 1) (by omega) (Has.cons (I_congr (by omega)) (Has.cons rfl (Has.cons rfl Has.nil))) ⟨by omega, ho, hK⟩
    · refine C.exit ?_
      refine C.seq ?_
      refine C.region ?_
      refine O.val (v := I (((k + sumT ((packF l).take k) : Nat) : Int))) rfl (Ru.move rfl) rfl ?_
      refine O.val (v := I (((k + sumT ((packF l).take k) : Nat) : Int))) rfl (Ru.assign rfl) rfl ?_
      refine O.nil ?_
      refine C.ret ?_
      refine P1 (v := I (((k + sumT ((packF l).take k) : Nat) : Int))) rfl ?_
      exact ⟨by rw [List.take_of_length_le (by omega), pszF_yes hv, packF_yes hv]; congr 2; rw [packF_yes hv, packW_length] at hk c14; omega, hK⟩

theorem markText_fn (k : Nat) (hk0 : k ≤ 1000000000000000000) (w : World) :
    Does Try.prog 58 [I ((k : Int))] w (fun v w1 => v = S (markT k) ∧ w.grownBy w1 none) := by
  refine Does.enter1 Try.func58 rfl Try.results58 Try.ntmps58 rfl ?_
  refine C.seq ?_
  refine C.region ?_
  refine O.val (v := S ([])) rfl (Ru.assign rfl) rfl ?_
  refine O.nil ?_
  refine C.seq ?_
  refine C.seq ?_
  refine C.region ?_
  refine O.val (v := I ((k : Int))) rfl (Ru.move rfl) rfl ?_
  refine O.val (v := .bool (decide ((k : Int) ≤ 0))) rfl (Ru.leq rfl rfl) rfl ?_
  refine O.nil ?_
  refine C.cond (p := (k : Int) ≤ 0) rfl (fun c5 => ?_) (fun c5 => ?_)
  · refine C.seq ?_
    refine C.region ?_
    refine O.val (v := S ([109, 48])) rfl (Ru.assign rfl) rfl ?_
    refine O.nil ?_
    refine C.ret ?_
    refine P1 (v := S ([109, 48])) rfl ?_
    exact ⟨by rw [markT, if_pos (by omega)], (krefl w none)⟩
  · have hk1 : 0 < k := by omega
    refine C.skip ?_
    refine C.seq ?_
    refine C.region ?_
    refine O.val (v := S ([])) rfl (Ru.assign rfl) rfl ?_
    refine O.nil ?_
    refine C.seq ?_
    refine C.block ?_
    refine C.loop (ι := Nat × Str) (fun x_ => ([(0, I ((x_.1 : Int))), (3, S (x_.2))] : List (Nat × Value))) (fun x_ w_ => x_.1 ≤ k ∧ dgF x_.1 x_.1 x_.2 = digs k ∧ x_.2.length + x_.1 ≤ k ∧ w.grownBy w_ none) (fun x_ => x_.1) ((k, [])) (Has.cons rfl (Has.cons rfl Has.nil)) ⟨Nat.le_refl _, rfl, by simp, krefl _ _⟩ (fun ⟨i, d⟩ σ w_l4 hI => ?_)
    try dsimp only at hI
    obtain ⟨hi, hd, dgl, hK⟩ := hI
    refine C.seq ?_
    refine C.seq ?_
    refine C.region ?_
    refine O.val (v := I ((i : Int))) rfl (Ru.move rfl) rfl ?_
    refine O.val (v := .bool (decide ((i : Int) > 0))) rfl (Ru.gtr rfl rfl) rfl ?_
    refine O.nil ?_
    refine C.cond (p := (i : Int) > 0) rfl (fun c7 => ?_) (fun c7 => ?_)
    · refine C.skip ?_
      refine C.block ?_
      refine C.seq ?_
      refine C.region ?_
      refine O.val (v := I ((i : Int))) rfl (Ru.move rfl) rfl ?_
      refine O.val (v := I (((i % 10 : Nat) : Int))) rfl (Ru.congr (v := I (((i : Int) % 10))) (v' := I (((i % 10 : Nat) : Int))) (Ru.rem rfl rfl (by omega)) (I_congr (by omega))) rfl ?_
      refine O.val (v := I ((48 + ((i % 10 : Nat) : Int)))) rfl (Ru.add rfl rfl (by omega)) rfl ?_
      refine O.val (v := .int .u8 (((48 + i % 10 : Nat) : Int))) rfl (Ru.conv (c := ((48 + i % 10 : Nat) : Int)) Try.underlying3 Try.underlying5 rfl (by rw [IntKind.wrap_u8_of _ (by omega)]; omega)) rfl ?_
      refine O.lit (cs := [.int .u8 (((48 + i % 10 : Nat) : Int))]) rfl Try.underlying29 el5 rfl rfl rfl (by kernel_rfl) (fun w5_4 b5_4 hb5_4 hE5_4 hB5_4 => ?_)
      have hs5_4 := hK.size
      have hK5_4 := kext hK hE5_4
      have hlt5_4 := hB5_4.lt
      refine O.val rfl (Ru.b2s (l := [UInt8.ofNat (48 + i % 10)]) Try.underlying29 Try.underlying5 Try.underlying9 rfl (hB5_4.rd.cast (byte_one (by omega)))) rfl ?_
      refine O.val (v := S (d)) rfl (Ru.move rfl) rfl ?_
      refine O.val (v := S (([UInt8.ofNat (48 + i % 10)] ++ d))) rfl (Ru.sadd rfl rfl (by have := dgl; simp; omega)) rfl ?_
      refine O.val (v := S (([UInt8.ofNat (48 + i % 10)] ++ d))) rfl (Ru.assign rfl) rfl ?_
      refine O.nil ?_
      refine C.region ?_
      refine O.val (v := I ((i : Int))) rfl (Ru.move rfl) rfl ?_
      refine O.val (v := I (((i / 10 : Nat) : Int))) rfl (Ru.congr (v := I (((i : Int) / 10))) (v' := I (((i / 10 : Nat) : Int))) (Ru.quo rfl rfl (by omega)) (I_congr (by omega))) rfl ?_
      refine O.val (v := I (((i / 10 : Nat) : Int))) rfl (Ru.assign rfl) rfl ?_
      refine O.nil ?_
      refine loopEnd ((i / 10, UInt8.ofNat (48 + i % 10) :: d)) (by omega) (Has.cons rfl (Has.cons rfl Has.nil)) ⟨by omega, by rw [← hd]; exact (dg_step (by omega)).symm, by simp; omega, hK5_4⟩
    · refine C.exit ?_
      refine C.seq ?_
      refine C.region ?_
      refine O.val (v := S (d)) rfl (Ru.move rfl) rfl ?_
      refine O.val (v := S (([109] ++ d))) rfl (Ru.sadd rfl rfl (by have := dgl; simp; omega)) rfl ?_
      refine O.val (v := S (([109] ++ d))) rfl (Ru.assign rfl) rfl ?_
      refine O.nil ?_
      refine C.ret ?_
      refine P1 (v := S (([109] ++ d))) rfl ?_
      exact ⟨by rw [markT, if_neg (by omega), ← hd, show i = 0 by omega]; rfl, hK⟩

theorem markStringS_fn (A : Option Addr) (c : Nat) (l : List Str) (k B : Nat) (w : World) (ho : own w B 9 1 (.slice A l.length c) l.length ((l).map S)) (hl : l.length ≤ 1073741824) (hk0 : k ≤ 1099511627776) :
    Does Try.prog 37 [.slice (A) (l.length) (c), I ((k : Int))] w (fun v w1 => v = I ((k + l.length : Nat) : Int) ∧ own w1 B 9 1 (.slice A l.length c) l.length ((mkS k l.length).map S) ∧ w.grownBy w1 (Value.slice A l.length c).ownBlock) := by
  refine Does.enter1 Try.func37 rfl Try.results37 Try.ntmps37 rfl ?_
  refine C.seq ?_
  refine C.region ?_
  refine O.val (v := I (0)) rfl (Ru.assign rfl) rfl ?_
  refine O.nil ?_
  refine C.seq ?_
  refine C.seq ?_
  refine C.region ?_
  refine O.val (v := I (0)) rfl (Ru.assign rfl) rfl ?_
  refine O.nil ?_
  refine C.block ?_
  refine C.loop (ι := Nat) (fun i => ([(0, .slice (A) (l.length) (c)), (1, I (((k + i : Nat) : Int))), (5, I ((i : Int)))] : List (Nat × Value))) (fun i w_ => i ≤ l.length ∧ own w_ B 9 1 (.slice A l.length c) l.length ((mS k l i).map S) ∧ w.grownBy w_ (Value.slice A l.length c).ownBlock) (fun i => l.length - i) (0) (Has.cons rfl (Has.cons rfl (Has.cons rfl Has.nil))) ⟨Nat.zero_le _, own_cast ho rfl (by rw [mS_zero]), krefl _ _⟩ (fun i σ w_l2 hI => ?_)
  obtain ⟨hk, ho, hK⟩ := hI
  refine C.seq ?_
  refine C.seq ?_
  refine C.region ?_
  refine O.val (v := I ((i : Int))) rfl (Ru.move rfl) rfl ?_
  refine O.val (v := .slice (A) (l.length) (c)) rfl (Ru.move rfl) rfl ?_
  refine O.val (v := I (((l.length : Nat) : Int))) rfl (Ru.blenSlice Try.underlying24 rfl) rfl ?_
  refine O.val (v := .bool (decide ((i : Int) < ((l.length : Nat) : Int)))) rfl (Ru.lss rfl rfl) rfl ?_
  refine O.nil ?_
  refine C.cond (p := (i : Int) < ((l.length : Nat) : Int)) rfl (fun c9 => ?_) (fun c9 => ?_)
  · have hk1 : i < l.length := by omega
    have hml := mS_len (k := k) hk
    refine C.skip ?_
    refine C.seq ?_
    refine C.block ?_
    refine C.seq ?_
    refine C.region ?_
    refine O.val (v := .slice (A) (l.length) (c)) rfl (Ru.move rfl) rfl ?_
    refine O.val (v := I ((i : Int))) rfl (Ru.move rfl) rfl ?_
    refine O.val (v := I (((k + i : Nat) : Int))) rfl (Ru.move rfl) rfl ?_
    refine O.callg [I (((k + i : Nat) : Int))] rfl en58 rfl rfl (markText_fn (k + i) (by omega) w_l2) ?_
    rintro _ w4_3 ⟨rfl, hE4_3⟩
    have hK4_3 := kext hK hE4_3
    replace ho := own_ext ho hE4_3
    refine O.val (v := .pointer (ofs (A) (i * 1))) rfl (Ru.indexA (j := i) Try.underlying24 el9 rfl rfl (smm (own_rd ho) (by rw [hml]; exact hk1)) (by omega) (by omega)) rfl ?_
    refine O.storeRow (vs := [S (markT (k + i))]) rfl el9 rfl rfl rfl rfl rfl ho (by simp only [List.length_map, List.length_cons, List.length_nil, hml]; omega) (by simp) (fun w4_5 hE4_5 hs4_5 ho4_5 => ?_)
    have hK4_5 := krow hK4_3 hE4_5 rfl
    replace ho := own_cast (xs' := (mS k l (i + 1)).map S) ho4_5 rfl ((mS_step hk1))
    refine O.nil ?_
    refine C.region ?_
    refine O.val (v := I (((k + i : Nat) : Int))) rfl (Ru.move rfl) rfl ?_
    refine O.val (v := I (((k + (i + 1) : Nat) : Int))) rfl (Ru.congr (v := I ((((k + i : Nat) : Int) + 1))) (v' := I (((k + (i + 1) : Nat) : Int))) (Ru.add rfl rfl (by omega)) (I_congr (by omega))) rfl ?_
    refine O.val (v := I (((k + (i + 1) : Nat) : Int))) rfl (Ru.assign rfl) rfl ?_
    refine O.nil ?_
    refine C.region ?_
    refine O.val (v := I ((i : Int))) rfl (Ru.move rfl) rfl ?_
    refine O.val (v := I (((i : Int) + 1))) rfl (Ru.add rfl rfl (by omega)) rfl ?_
    refine O.val (v := I (((i : Int) + 1))) rfl (Ru.assign rfl) rfl ?_
    refine O.nil ?_
    refine loopEnd (i + 1) (by omega) (Has.cons rfl (Has.cons rfl (Has.cons rfl Has.nil))) ⟨by omega, ho, hK4_5⟩
  · refine C.exit ?_
    refine C.seq ?_
    refine C.region ?_
    refine O.val (v := I (((k + i : Nat) : Int))) rfl (Ru.move rfl) rfl ?_
    refine O.val (v := I (((k + i : Nat) : Int))) rfl (Ru.assign rfl) rfl ?_
    refine O.nil ?_
    refine C.ret ?_
    refine P1 (v := I (((k + i : Nat) : Int))) rfl ?_
    have hil : i = l.length := by omega
    exact ⟨by rw [hil], own_cast ho rfl (by rw [mS_all (by omega) hk]), hK⟩

theorem markRestS_fn (A : Option Addr) (c : Nat) (l : List RestT) (k B : Nat) (w : World) (ho : own w B 39 2 (.slice A l.length c) l.length ((l).flatMap encR)) (hl : l.length ≤ 1073741824) (hk0 : k ≤ 1099511627776) :
    Does Try.prog 38 [.slice (A) (l.length) (c), I ((k : Int))] w (fun v w1 => v = I ((k + 2 * l.length : Nat) : Int) ∧ own w1 B 39 2 (.slice A l.length c) l.length ((mkR k l.length).flatMap encR) ∧ w.grownBy w1 (Value.slice A l.length c).ownBlock) := by
  refine Does.enter1 Try.func38 rfl Try.results38 Try.ntmps38 rfl ?_
  refine C.seq ?_
  refine C.region ?_
  refine O.val (v := I (0)) rfl (Ru.assign rfl) rfl ?_
  refine O.nil ?_
  refine C.seq ?_
  refine C.seq ?_
  refine C.region ?_
  refine O.val (v := I (0)) rfl (Ru.assign rfl) rfl ?_
  refine O.nil ?_
  refine C.block ?_
  refine C.loop (ι := Nat) (fun i => ([(0, .slice (A) (l.length) (c)), (1, I (((k + 2 * i : Nat) : Int))), (5, I ((i : Int)))] : List (Nat × Value))) (fun i w_ => i ≤ l.length ∧ own w_ B 39 2 (.slice A l.length c) l.length ((mR k l i).flatMap encR) ∧ w.grownBy w_ (Value.slice A l.length c).ownBlock) (fun i => l.length - i) (0) (Has.cons rfl (Has.cons rfl (Has.cons rfl Has.nil))) ⟨Nat.zero_le _, own_cast ho rfl (by rw [mR_zero]), krefl _ _⟩ (fun i σ w_l2 hI => ?_)
  obtain ⟨hk, ho, hK⟩ := hI
  refine C.seq ?_
  refine C.seq ?_
  refine C.region ?_
  refine O.val (v := I ((i : Int))) rfl (Ru.move rfl) rfl ?_
  refine O.val (v := .slice (A) (l.length) (c)) rfl (Ru.move rfl) rfl ?_
  refine O.val (v := I (((l.length : Nat) : Int))) rfl (Ru.blenSlice Try.underlying35 rfl) rfl ?_
  refine O.val (v := .bool (decide ((i : Int) < ((l.length : Nat) : Int)))) rfl (Ru.lss rfl rfl) rfl ?_
  refine O.nil ?_
  refine C.cond (p := (i : Int) < ((l.length : Nat) : Int)) rfl (fun c9 => ?_) (fun c9 => ?_)
  · have hk1 : i < l.length := by omega
    have hml := mR_len (k := k) hk
    have hmh := mRh_len (k := k) hk1
    refine C.skip ?_
    refine C.seq ?_
    refine C.block ?_
    refine C.seq ?_
    refine C.region ?_
    refine O.val (v := .slice (A) (l.length) (c)) rfl (Ru.move rfl) rfl ?_
    refine O.val (v := I ((i : Int))) rfl (Ru.move rfl) rfl ?_
    refine O.val (v := I (((k + 2 * i : Nat) : Int))) rfl (Ru.move rfl) rfl ?_
    refine O.val (v := .pointer (ofs (A) (i * 2))) rfl (Ru.indexA (j := i) Try.underlying35 el39 rfl rfl (smf encR_len (own_rd ho) (by rw [hml]; exact hk1) rfl) (by omega) (by omega)) rfl ?_
    refine O.val (v := .pointer (ofs (A) (i * 2 + 0))) rfl (Ru.fieldA fl39_0 rfl (smf encR_len (own_rd ho) (by rw [hml]; exact hk1) rfl)) rfl ?_
    refine O.storeRow (vs := [I (((k + 2 * i : Nat) : Int))]) rfl el3 rfl rfl rfl rfl rfl ho (by rw [flat_enc_len, hml]; simp only [List.length_cons, List.length_nil]; omega) (by simp) (fun w4_5 hE4_5 hs4_5 ho4_5 => ?_)
    have hK4_5 := krow hK hE4_5 rfl
    replace ho := own_cast (xs' := (mRh k l i).flatMap encR) ho4_5 rfl ((mR_step1 hk1))
    refine O.nil ?_
    refine C.seq ?_
    refine C.region ?_
    refine O.val (v := I (((k + 2 * i : Nat) : Int))) rfl (Ru.move rfl) rfl ?_
    refine O.val (v := I (((k + 2 * i + 1 : Nat) : Int))) rfl (Ru.congr (v := I ((((k + 2 * i : Nat) : Int) + 1))) (v' := I (((k + 2 * i + 1 : Nat) : Int))) (Ru.add rfl rfl (by omega)) (I_congr (by omega))) rfl ?_
    refine O.val (v := I (((k + 2 * i + 1 : Nat) : Int))) rfl (Ru.assign rfl) rfl ?_
    refine O.nil ?_
    refine C.seq ?_
    refine C.region ?_
    refine O.val (v := .slice (A) (l.length) (c)) rfl (Ru.move rfl) rfl ?_
    refine O.val (v := I ((i : Int))) rfl (Ru.move rfl) rfl ?_
    refine O.val (v := I (((k + 2 * i + 1 : Nat) : Int))) rfl (Ru.move rfl) rfl ?_
    refine O.callg [I (((k + 2 * i + 1 : Nat) : Int))] rfl en58 rfl rfl (markText_fn (k + 2 * i + 1) (by omega) w4_5) ?_
    rintro _ w6_3 ⟨rfl, hE6_3⟩
    have hK6_3 := kext hK4_5 hE6_3
    replace ho := own_ext ho hE6_3
    refine O.val (v := .pointer (ofs (A) (i * 2))) rfl (Ru.indexA (j := i) Try.underlying35 el39 rfl rfl (smf encR_len (own_rd ho) (by rw [hmh]; exact hk1) rfl) (by omega) (by omega)) rfl ?_
    refine O.val (v := .pointer (ofs (A) (i * 2 + 1))) rfl (Ru.fieldA fl39_1 rfl (smf encR_len (own_rd ho) (by rw [hmh]; exact hk1) rfl)) rfl ?_
    refine O.storeRow (vs := [S (markT (k + 2 * i + 1))]) rfl el9 rfl rfl rfl rfl rfl ho (by rw [flat_enc_len, hmh]; simp only [List.length_cons, List.length_nil]; omega) (by simp) (fun w6_6 hE6_6 hs6_6 ho6_6 => ?_)
    have hK6_6 := krow hK6_3 hE6_6 rfl
    replace ho := own_cast (xs' := (mR k l (i + 1)).flatMap encR) ho6_6 rfl ((mR_step2 hk1))
    refine O.nil ?_
    refine C.region ?_
    refine O.val (v := I (((k + 2 * i + 1 : Nat) : Int))) rfl (Ru.move rfl) rfl ?_
    refine O.val (v := I (((k + 2 * (i + 1) : Nat) : Int))) rfl (Ru.congr (v := I ((((k + 2 * i + 1 : Nat) : Int) + 1))) (v' := I (((k + 2 * (i + 1) : Nat) : Int))) (Ru.add rfl rfl (by omega)) (I_congr (by omega))) rfl ?_
    refine O.val (v := I (((k + 2 * (i + 1) : Nat) : Int))) rfl (Ru.assign rfl) rfl ?_
    refine O.nil ?_
    refine C.region ?_
    refine O.val (v := I ((i : Int))) rfl (Ru.move rfl) rfl ?_
    refine O.val (v := I (((i : Int) + 1))) rfl (Ru.add rfl rfl (by omega)) rfl ?_
    refine O.val (v := I (((i : Int) + 1))) rfl (Ru.assign rfl) rfl ?_
    refine O.nil ?_
    refine loopEnd (i + 1) (by omega) (Has.cons rfl (Has.cons rfl (Has.cons rfl Has.nil))) ⟨by omega, ho, hK6_6⟩
  · refine C.exit ?_
    refine C.seq ?_
    refine C.region ?_
    refine O.val (v := I (((k + 2 * i : Nat) : Int))) rfl (Ru.move rfl) rfl ?_
    refine O.val (v := I (((k + 2 * i : Nat) : Int))) rfl (Ru.assign rfl) rfl ?_
    refine O.nil ?_
    refine C.ret ?_
    refine P1 (v := I (((k + 2 * i : Nat) : Int))) rfl ?_
    have hil : i = l.length := by omega
    exact ⟨by rw [hil], own_cast ho rfl (by rw [mR_all (by omega) hk]), hK⟩

theorem heldStringS_fn (A : Option Addr) (c k n : Nat) (w : World) (hA : Rd w A ((mkS k n).map S)) (hn : n ≤ 1073741824) (hk0 : k ≤ 1099511627776) :
    Does Try.prog 46 [.slice (A) (n) (c), I ((k : Int))] w (fun v w1 => v = I ((k + n : Nat) : Int) ∧ w.grownBy w1 none) := by
  refine Does.enter1 Try.func46 rfl Try.results46 Try.ntmps46 rfl ?_
  refine C.seq ?_
  refine C.region ?_
  refine O.val (v := I (0)) rfl (Ru.assign rfl) rfl ?_
  refine O.nil ?_
  refine C.seq ?_
  refine C.seq ?_
  refine C.region ?_
  refine O.val (v := I (0)) rfl (Ru.assign rfl) rfl ?_
  refine O.nil ?_
  refine C.block ?_
  refine C.loop (ι := Nat) (fun i => ([(0, .slice (A) (n) (c)), (1, I (((k + i : Nat) : Int))), (5, I ((i : Int)))] : List (Nat × Value))) (fun i w_ => i ≤ n ∧ w.grownBy w_ none) (fun i => n - i) (0) (Has.cons rfl (Has.cons rfl (Has.cons rfl Has.nil))) ⟨Nat.zero_le _, krefl _ _⟩ (fun i σ w_l2 hI => ?_)
  obtain ⟨hk, hK⟩ := hI
  refine C.seq ?_
  refine C.seq ?_
  refine C.region ?_
  refine O.val (v := I ((i : Int))) rfl (Ru.move rfl) rfl ?_
  refine O.val (v := .slice (A) (n) (c)) rfl (Ru.move rfl) rfl ?_
  refine O.val (v := I (((n : Nat) : Int))) rfl (Ru.blenSlice Try.underlying24 rfl) rfl ?_
  refine O.val (v := .bool (decide ((i : Int) < ((n : Nat) : Int)))) rfl (Ru.lss rfl rfl) rfl ?_
  refine O.nil ?_
  refine C.cond (p := (i : Int) < ((n : Nat) : Int)) rfl (fun c9 => ?_) (fun c9 => ?_)
  · have hk1 : i < n := by omega
    have hk2 : i < (mkS k n).length := by rw [mkS_length]; exact hk1
    refine C.skip ?_
    refine C.seq ?_
    refine C.block ?_
    refine C.seq ?_
    refine C.seq ?_
    refine C.draws (fun w2 => w_l2.grownBy w2 none) mixed (by kernel_rfl) (kdrawn _) ?_
    refine QO.val (v := .slice (A) (n) (c)) rfl (fun w2 hw2 => Ru.move rfl) rfl ?_
    refine QO.val (v := I ((i : Int))) rfl (fun w2 hw2 => Ru.move rfl) rfl ?_
    refine QO.val (v := .pointer (ofs (A) (i * 1))) rfl (fun w2 hw2 => Ru.indexA (j := i) Try.underlying24 el9 rfl rfl (smm (hA.ext (kext hK hw2)) hk2) (by omega) (by omega)) rfl ?_
    refine QO.val rfl (fun w2 hw2 => Ru.load1 el9 rfl (ldm (hA.ext (kext hK hw2)) hk2)) rfl ?_
    refine QO.val (v := I (((k + i : Nat) : Int))) rfl (fun w2 hw2 => Ru.move rfl) rfl ?_
    refine QO.callg [I (((k + i : Nat) : Int))] rfl en58 rfl rfl (fun w2 hw2 => (markText_fn (k + i) (by omega) w2).mono (fun _ _ h => ⟨h.1, kext hw2 h.2⟩)) ?_
    refine QO.val (v := .bool (decide ((mkS k n)[i]'hk2 ≠ markT (k + i)))) rfl (fun w2 hw2 => Ru.sneq rfl rfl) rfl ?_
    refine QO.nil ?_
    intro w4d hE4d
    have hK4d := kext hK hE4d
    refine C.cond (p := (mkS k n)[i]'hk2 ≠ markT (k + i)) rfl (fun c18 => ?_) (fun c18 => ?_)
    · exact absurd (mkS_get hk1) c18
    · refine C.skip ?_
      refine C.region ?_
      refine O.val (v := I (((k + i : Nat) : Int))) rfl (Ru.move rfl) rfl ?_
      refine O.val (v := I (((k + (i + 1) : Nat) : Int))) rfl (Ru.congr (v := I ((((k + i : Nat) : Int) + 1))) (v' := I (((k + (i + 1) : Nat) : Int))) (Ru.add rfl rfl (by omega)) (I_congr (by omega))) rfl ?_
      refine O.val (v := I (((k + (i + 1) : Nat) : Int))) rfl (Ru.assign rfl) rfl ?_
      refine O.nil ?_
      refine C.region ?_
      refine O.val (v := I ((i : Int))) rfl (Ru.move rfl) rfl ?_
      refine O.val (v := I (((i : Int) + 1))) rfl (Ru.add rfl rfl (by omega)) rfl ?_
      refine O.val (v := I (((i : Int) + 1))) rfl (Ru.assign rfl) rfl ?_
      refine O.nil ?_
      refine loopEnd (i + 1) (by omega) (Has.cons rfl (Has.cons rfl (Has.cons rfl Has.nil))) ⟨by omega, hK4d⟩
  · refine C.exit ?_
    refine C.seq ?_
    refine C.region ?_
    refine O.val (v := I (((k + i : Nat) : Int))) rfl (Ru.move rfl) rfl ?_
    refine O.val (v := I (((k + i : Nat) : Int))) rfl (Ru.assign rfl) rfl ?_
    refine O.nil ?_
    refine C.ret ?_
    refine P1 (v := I (((k + i : Nat) : Int))) rfl ?_
    exact ⟨by rw [show i = n by omega], hK⟩

theorem heldRestS_fn (A : Option Addr) (c k n : Nat) (w : World) (hA : Rd w A ((mkR k n).flatMap encR)) (hn : n ≤ 1073741824) (hk0 : k ≤ 1099511627776) :
    Does Try.prog 39 [.slice (A) (n) (c), I ((k : Int))] w (fun v w1 => v = I ((k + 2 * n : Nat) : Int) ∧ w.grownBy w1 none) := by
  refine Does.enter1 Try.func39 rfl Try.results39 Try.ntmps39 rfl ?_
  refine C.seq ?_
  refine C.region ?_
  refine O.val (v := I (0)) rfl (Ru.assign rfl) rfl ?_
  refine O.nil ?_
  refine C.seq ?_
  refine C.seq ?_
  refine C.region ?_
  refine O.val (v := I (0)) rfl (Ru.assign rfl) rfl ?_
  refine O.nil ?_
  refine C.block ?_
  refine C.loop (ι := Nat) (fun i => ([(0, .slice (A) (n) (c)), (1, I (((k + 2 * i : Nat) : Int))), (5, I ((i : Int)))] : List (Nat × Value))) (fun i w_ => i ≤ n ∧ w.grownBy w_ none) (fun i => n - i) (0) (Has.cons rfl (Has.cons rfl (Has.cons rfl Has.nil))) ⟨Nat.zero_le _, krefl _ _⟩ (fun i σ w_l2 hI => ?_)
  obtain ⟨hk, hK⟩ := hI
  refine C.seq ?_
  refine C.seq ?_
  refine C.region ?_
  refine O.val (v := I ((i : Int))) rfl (Ru.move rfl) rfl ?_
  refine O.val (v := .slice (A) (n) (c)) rfl (Ru.move rfl) rfl ?_
  refine O.val (v := I (((n : Nat) : Int))) rfl (Ru.blenSlice Try.underlying35 rfl) rfl ?_
  refine O.val (v := .bool (decide ((i : Int) < ((n : Nat) : Int)))) rfl (Ru.lss rfl rfl) rfl ?_
  refine O.nil ?_
  refine C.cond (p := (i : Int) < ((n : Nat) : Int)) rfl (fun c9 => ?_) (fun c9 => ?_)
  · have hk1 : i < n := by omega
    have hk2 : i < (mkR k n).length := by rw [mkR_length]; exact hk1
    refine C.skip ?_
    refine C.seq ?_
    refine C.block ?_
    refine C.seq ?_
    refine C.seq ?_
    refine C.region ?_
    refine O.val (v := .slice (A) (n) (c)) rfl (Ru.move rfl) rfl ?_
    refine O.val (v := I ((i : Int))) rfl (Ru.move rfl) rfl ?_
    refine O.val (v := .pointer (ofs (A) (i * 2))) rfl (Ru.indexA (j := i) Try.underlying35 el39 rfl rfl (smf encR_len (hA.ext hK) hk2 rfl) (by omega) (by omega)) rfl ?_
    refine O.val (v := .pointer (ofs (A) (i * 2 + 0))) rfl (Ru.fieldA fl39_0 rfl (smf encR_len (hA.ext hK) hk2 rfl)) rfl ?_
    refine O.val rfl (Ru.load1 el3 rfl (ldf encR_len (hA.ext hK) hk2 rfl)) rfl ?_
    refine O.val (v := I (((k + 2 * i : Nat) : Int))) rfl (Ru.move rfl) rfl ?_
    refine O.val (v := .bool (decide (((mkR k n)[i]'hk2).same ≠ ((k + 2 * i : Nat) : Int)))) rfl (Ru.neq rfl rfl) rfl ?_
    refine O.nil ?_
    refine C.cond (p := ((mkR k n)[i]'hk2).same ≠ ((k + 2 * i : Nat) : Int)) rfl (fun c18 => ?_) (fun c18 => ?_)
    · exact absurd (by rw [mkR_get hk1]) c18
    · refine C.skip ?_
      refine C.seq ?_
      refine C.region ?_
      refine O.val (v := I (((k + 2 * i : Nat) : Int))) rfl (Ru.move rfl) rfl ?_
      refine O.val (v := I (((k + 2 * i + 1 : Nat) : Int))) rfl (Ru.congr (v := I ((((k + 2 * i : Nat) : Int) + 1))) (v' := I (((k + 2 * i + 1 : Nat) : Int))) (Ru.add rfl rfl (by omega)) (I_congr (by omega))) rfl ?_
      refine O.val (v := I (((k + 2 * i + 1 : Nat) : Int))) rfl (Ru.assign rfl) rfl ?_
      refine O.nil ?_
      refine C.seq ?_
      refine C.seq ?_
      refine C.draws (fun w2 => w_l2.grownBy w2 none) mixed (by kernel_rfl) (kdrawn _) ?_
      refine QO.val (v := .slice (A) (n) (c)) rfl (fun w2 hw2 => Ru.move rfl) rfl ?_
      refine QO.val (v := I ((i : Int))) rfl (fun w2 hw2 => Ru.move rfl) rfl ?_
      refine QO.val (v := .pointer (ofs (A) (i * 2))) rfl (fun w2 hw2 => Ru.indexA (j := i) Try.underlying35 el39 rfl rfl (smf encR_len (hA.ext (kext hK hw2)) hk2 rfl) (by omega) (by omega)) rfl ?_
      refine QO.val (v := .pointer (ofs (A) (i * 2 + 1))) rfl (fun w2 hw2 => Ru.fieldA fl39_1 rfl (smf encR_len (hA.ext (kext hK hw2)) hk2 rfl)) rfl ?_
      refine QO.val rfl (fun w2 hw2 => Ru.load1 el9 rfl (ldf encR_len (hA.ext (kext hK hw2)) hk2 rfl)) rfl ?_
      refine QO.val (v := I (((k + 2 * i + 1 : Nat) : Int))) rfl (fun w2 hw2 => Ru.move rfl) rfl ?_
      refine QO.callg [I (((k + 2 * i + 1 : Nat) : Int))] rfl en58 rfl rfl (fun w2 hw2 => (markText_fn (k + 2 * i + 1) (by omega) w2).mono (fun _ _ h => ⟨h.1, kext hw2 h.2⟩)) ?_
      refine QO.val (v := .bool (decide (((mkR k n)[i]'hk2).tail ≠ markT (k + 2 * i + 1)))) rfl (fun w2 hw2 => Ru.sneq rfl rfl) rfl ?_
      refine QO.nil ?_
      intro w7d hE7d
      have hK7d := kext hK hE7d
      refine C.cond (p := ((mkR k n)[i]'hk2).tail ≠ markT (k + 2 * i + 1)) rfl (fun c28 => ?_) (fun c28 => ?_)
      · exact absurd (by rw [mkR_get hk1]) c28
      · refine C.skip ?_
        refine C.region ?_
        refine O.val (v := I (((k + 2 * i + 1 : Nat) : Int))) rfl (Ru.move rfl) rfl ?_
        refine O.val (v := I (((k + 2 * (i + 1) : Nat) : Int))) rfl (Ru.congr (v := I ((((k + 2 * i + 1 : Nat) : Int) + 1))) (v' := I (((k + 2 * (i + 1) : Nat) : Int))) (Ru.add rfl rfl (by omega)) (I_congr (by omega))) rfl ?_
        refine O.val (v := I (((k + 2 * (i + 1) : Nat) : Int))) rfl (Ru.assign rfl) rfl ?_
        refine O.nil ?_
        refine C.region ?_
        refine O.val (v := I ((i : Int))) rfl (Ru.move rfl) rfl ?_
        refine O.val (v := I (((i : Int) + 1))) rfl (Ru.add rfl rfl (by omega)) rfl ?_
        refine O.val (v := I (((i : Int) + 1))) rfl (Ru.assign rfl) rfl ?_
        refine O.nil ?_
        refine loopEnd (i + 1) (by omega) (Has.cons rfl (Has.cons rfl (Has.cons rfl Has.nil))) ⟨by omega, hK7d⟩
  · refine C.exit ?_
    refine C.seq ?_
    refine C.region ?_
    refine O.val (v := I (((k + 2 * i : Nat) : Int))) rfl (Ru.move rfl) rfl ?_
    refine O.val (v := I (((k + 2 * i : Nat) : Int))) rfl (Ru.assign rfl) rfl ?_
    refine O.nil ?_
    refine C.ret ?_
    refine P1 (v := I (((k + 2 * i : Nat) : Int))) rfl ?_
    exact ⟨by rw [show i = n by omega], hK⟩

theorem szRest_fn (r : RestT) (left : Int) (h0 : 0 ≤ left) (h1 : left ≤ 1048576) (hs : r.tail.length ≤ 9223372036854775807) (w : World) :
    Does Try.prog 63 [.agg #[I ((r).same), S ((r).tail)], I (left)] w (fun v w1 => v = I (szF left r.tail.length) ∧ w.grownBy w1 none) := by
  refine Does.enter1 Try.func63 rfl Try.results63 Try.ntmps63 rfl ?_
  refine C.seq ?_
  refine C.region ?_
  refine O.box (vs := [I ((r).same), S ((r).tail)]) rfl rfl rfl rfl (fun w0_0 b0_0 hb0_0 hE0_0 hB0_0 => ?_)
  have hs0_0 := (krefl w none).size
  have hK0_0 := kext (krefl w none) hE0_0
  have hlt0_0 := hB0_0.lt
  refine O.val (v := I (0)) rfl (Ru.assign rfl) rfl ?_
  refine O.nil ?_
  refine C.seq ?_
  refine C.region ?_
  refine O.val (v := I (left)) rfl (Ru.move rfl) rfl ?_
  refine O.val (v := .pointer (ofs (bl b0_0) (1))) rfl (Ru.fieldA fl63_1 rfl rfl) rfl ?_
  refine O.val rfl (Ru.load1 el9 rfl (hB0_0.ld rfl)) rfl ?_
  refine O.val (v := I ((((r).tail).length : Int))) rfl (Ru.slen Try.underlying9 rfl) rfl ?_
  refine O.val (v := I ((left - (((r).tail).length : Int)))) rfl (Ru.sub rfl rfl (by omega)) rfl ?_
  refine O.val (v := I ((left - (((r).tail).length : Int)))) rfl (Ru.assign rfl) rfl ?_
  refine O.nil ?_
  refine C.seq ?_
  refine C.seq ?_
  refine C.region ?_
  refine O.val (v := I ((left - (((r).tail).length : Int)))) rfl (Ru.move rfl) rfl ?_
  refine O.val (v := .bool (decide ((left - (((r).tail).length : Int)) < 0))) rfl (Ru.lss rfl rfl) rfl ?_
  refine O.nil ?_
  refine C.cond (p := (left - (((r).tail).length : Int)) < 0) rfl (fun c11 => ?_) (fun c11 => ?_)
  · refine C.seq ?_
    refine C.region ?_
    refine O.val (v := I ((-1))) rfl (Ru.assign rfl) rfl ?_
    refine O.nil ?_
    refine C.ret ?_
    refine P1 (v := I ((-1))) rfl ?_
    exact ⟨by rw [szF, if_pos (by omega)], hK0_0⟩
  · refine C.skip ?_
    refine C.seq ?_
    refine C.region ?_
    refine O.val (v := I ((left - (((r).tail).length : Int)))) rfl (Ru.move rfl) rfl ?_
    refine O.val (v := I ((left - (((r).tail).length : Int)))) rfl (Ru.assign rfl) rfl ?_
    refine O.nil ?_
    refine C.ret ?_
    refine P1 (v := I ((left - (((r).tail).length : Int)))) rfl ?_
    exact ⟨by rw [szF, if_neg (by omega)], hK0_0⟩

theorem szRestS_fn (A : Option Addr) (c : Nat) (l : List RestT) (w : World) (hA : Rd w A (l.flatMap encR)) (hl : l.length ≤ 9223372036854775807) (hs : ∀ r ∈ l, r.tail.length ≤ 9223372036854775807) (left : Int) (h0 : 0 ≤ left) (h1 : left ≤ 1048576) :
    Does Try.prog 44 [.slice (A) (l.length) (c), I (left)] w (fun v w1 => v = I (szF left (l.length + sumT l)) ∧ w.grownBy w1 none) := by
  refine Does.enter1 Try.func44 rfl Try.results44 Try.ntmps44 rfl ?_
  refine C.seq ?_
  refine C.region ?_
  refine O.val (v := I (0)) rfl (Ru.assign rfl) rfl ?_
  refine O.nil ?_
  refine C.seq ?_
  refine C.region ?_
  refine O.val (v := I (left)) rfl (Ru.move rfl) rfl ?_
  refine O.val (v := .slice (A) (l.length) (c)) rfl (Ru.move rfl) rfl ?_
  refine O.val (v := I (((l.length : Nat) : Int))) rfl (Ru.blenSlice Try.underlying44 rfl) rfl ?_
  refine O.val (v := I ((left - ((l.length : Nat) : Int)))) rfl (Ru.sub rfl rfl (by omega)) rfl ?_
  refine O.val (v := I ((left - ((l.length : Nat) : Int)))) rfl (Ru.assign rfl) rfl ?_
  refine O.nil ?_
  refine C.seq ?_
  refine C.seq ?_
  refine C.region ?_
  refine O.val (v := I ((left - ((l.length : Nat) : Int)))) rfl (Ru.move rfl) rfl ?_
  refine O.val (v := .bool (decide ((left - ((l.length : Nat) : Int)) < 0))) rfl (Ru.lss rfl rfl) rfl ?_
  refine O.nil ?_
  refine C.cond (p := (left - ((l.length : Nat) : Int)) < 0) rfl (fun c11 => ?_) (fun c11 => ?_)
  · refine C.seq ?_
    refine C.region ?_
    refine O.val (v := I ((-1))) rfl (Ru.assign rfl) rfl ?_
    refine O.nil ?_
    refine C.ret ?_
    refine P1 (v := I ((-1))) rfl ?_
    exact ⟨by rw [szF, if_pos (by omega)], (krefl w none)⟩
  · refine C.skip ?_
    refine C.seq ?_
    refine C.seq ?_
    refine C.region ?_
    refine O.val (v := I (0)) rfl (Ru.assign rfl) rfl ?_
    refine O.nil ?_
    refine C.block ?_
    refine C.loop (ι := Nat) (fun k => ([(0, .slice (A) (l.length) (c)), (1, I (left - (l.length : Int) - (sumT (l.take k) : Int))), (5, I ((k : Int)))] : List (Nat × Value))) (fun k w_ => k ≤ l.length ∧ (l.length + sumT (l.take k) : Int) ≤ left ∧ w.grownBy w_ none) (fun k => l.length - k) (0) (Has.cons rfl (Has.cons (I_congr (by simp [sumT])) (Has.cons rfl Has.nil))) ⟨Nat.zero_le _, by simp [sumT]; omega, krefl _ _⟩ (fun k σ w_l5 hI => ?_)
    obtain ⟨hk, hb, hK⟩ := hI
    refine C.seq ?_
    refine C.seq ?_
    refine C.region ?_
    refine O.val (v := I ((k : Int))) rfl (Ru.move rfl) rfl ?_
    refine O.val (v := .slice (A) (l.length) (c)) rfl (Ru.move rfl) rfl ?_
    refine O.val (v := I (((l.length : Nat) : Int))) rfl (Ru.blenSlice Try.underlying44 rfl) rfl ?_
    refine O.val (v := .bool (decide ((k : Int) < ((l.length : Nat) : Int)))) rfl (Ru.lss rfl rfl) rfl ?_
    refine O.nil ?_
    refine C.cond (p := (k : Int) < ((l.length : Nat) : Int)) rfl (fun c15 => ?_) (fun c15 => ?_)
    · have hk1 : k < l.length := by omega
      have hsk := hs _ (List.getElem_mem hk1)
      have hst := sumT_take hk1
      have hsl := sumT_take_le l (k + 1)
      refine C.skip ?_
      refine C.seq ?_
      refine C.block ?_
      refine C.seq ?_
      refine C.region ?_
      refine O.val (v := .slice (A) (l.length) (c)) rfl (Ru.move rfl) rfl ?_
      refine O.val (v := I ((k : Int))) rfl (Ru.move rfl) rfl ?_
      refine O.val (v := .pointer (ofs (A) (k * 2))) rfl (Ru.indexA (j := k) Try.underlying44 el63 rfl rfl (smf encR_len (hA.ext hK) hk1 rfl) (by omega) (by omega)) rfl ?_
      refine O.val rfl (Ru.loadN (vs := [I (((l)[k]'hk1).same), S (((l)[k]'hk1).tail)]) el63 rfl rfl (smf encR_len (hA.ext hK) hk1 rfl) (ldn encR_len (hA.ext hK) hk1)) rfl ?_
      refine O.val (v := I (left - (l.length : Int) - (sumT (l.take k) : Int))) rfl (Ru.move rfl) rfl ?_
      refine O.callg [.agg #[I (((l)[k]'hk1).same), S (((l)[k]'hk1).tail)], I (left - (l.length : Int) - (sumT (l.take k) : Int))] rfl en63 rfl rfl (szRest_fn (l[k]) (left - (l.length : Int) - (sumT (l.take k) : Int)) (by omega) (by omega) hsk w_l5) ?_
      rintro _ w7_5 ⟨rfl, hE7_5⟩
      have hK7_5 := kext hK hE7_5
      refine O.val (v := I (szF (left - (l.length : Int) - (sumT (l.take k) : Int)) (l[k]).tail.length)) rfl (Ru.assign rfl) rfl ?_
      refine O.nil ?_
      refine C.seq ?_
      refine C.region ?_
      refine O.val (v := I (szF (left - (l.length : Int) - (sumT (l.take k) : Int)) (l[k]).tail.length)) rfl (Ru.move rfl) rfl ?_
      refine O.val (v := .bool (decide (szF (left - (l.length : Int) - (sumT (l.take k) : Int)) (l[k]).tail.length < 0))) rfl (Ru.lss rfl rfl) rfl ?_
      refine O.nil ?_
      refine C.cond (p := szF (left - (l.length : Int) - (sumT (l.take k) : Int)) (l[k]).tail.length < 0) rfl (fun c25 => ?_) (fun c25 => ?_)
      · have hz : left < ((l.length + sumT l : Nat) : Int) := by rcases szF_neg c25 with h | h <;> omega
        refine C.seq ?_
        refine C.region ?_
        refine O.val (v := I ((-1))) rfl (Ru.assign rfl) rfl ?_
        refine O.nil ?_
        refine C.ret ?_
        refine P1 (v := I ((-1))) rfl ?_
        exact ⟨by rw [szF, if_pos (by omega)], hK7_5⟩
      · have hz := szF_val c25
        refine C.skip ?_
        refine C.region ?_
        refine O.val (v := I ((k : Int))) rfl (Ru.move rfl) rfl ?_
        refine O.val (v := I (((k : Int) + 1))) rfl (Ru.add rfl rfl (by omega)) rfl ?_
        refine O.val (v := I (((k : Int) + 1))) rfl (Ru.assign rfl) rfl ?_
        refine O.nil ?_
        refine loopEnd (k + 1) (by omega) (Has.cons rfl (Has.cons (I_congr (by omega)) (Has.cons rfl Has.nil))) ⟨by omega, by omega, hK7_5⟩
    · refine C.exit ?_
      refine C.seq ?_
      refine C.region ?_
      refine O.val (v := I (left - (l.length : Int) - (sumT (l.take k) : Int))) rfl (Ru.move rfl) rfl ?_
      refine O.val (v := I (left - (l.length : Int) - (sumT (l.take k) : Int))) rfl (Ru.assign rfl) rfl ?_
      refine O.nil ?_
      refine C.ret ?_
      refine P1 (v := I (left - (l.length : Int) - (sumT (l.take k) : Int))) rfl ?_
      exact ⟨by rw [List.take_of_length_le (by omega)] at hb ⊢; rw [szF, if_neg (by omega)]; congr 1; omega, hK⟩

theorem toRest_fn (r : RestT) (w : World) :
    Does Try.prog 64 [.agg #[I ((r).same), S ((r).tail)]] w (fun v w1 => v = .agg #[I r.same, S r.tail] ∧ w.grownBy w1 none) := by
  refine Does.enterG (rs := [.cell 2 39]) Try.func64 rfl Try.results64 Try.ntmps64 rfl ?_
  refine C.seq ?_
  refine C.region ?_
  refine O.box (vs := [I ((r).same), S ((r).tail)]) rfl rfl rfl rfl (fun w0_0 b0_0 hb0_0 hE0_0 hB0_0 => ?_)
  have hs0_0 := (krefl w none).size
  have hK0_0 := kext (krefl w none) hE0_0
  have hlt0_0 := hB0_0.lt
  refine O.alloc rfl rfl el39 (fun w0_1 b0_1 hb0_1 hE0_1 hB0_1 => ?_)
  have hs0_1 := hK0_0.size
  have hK0_1 := kext hK0_0 hE0_1
  replace hB0_0 := hB0_0.ext hE0_1
  have hlt0_1 := hB0_1.lt
  refine O.nil ?_
  refine C.seq ?_
  refine C.region ?_
  refine O.alloc rfl rfl el39 (fun w1_0 b1_0 hb1_0 hE1_0 hB1_0 => ?_)
  have hs1_0 := hK0_1.size
  have hK1_0 := kext hK0_1 hE1_0
  replace hB0_0 := hB0_0.ext hE1_0
  replace hB0_1 := hB0_1.ext hE1_0
  have hlt1_0 := hB1_0.lt
  refine O.nil ?_
  refine C.seq ?_
  refine C.region ?_
  refine O.val (v := .pointer (ofs (bl b0_0) (0))) rfl (Ru.fieldA fl63_0 rfl rfl) rfl ?_
  refine O.val rfl (Ru.load1 el3 rfl (hB0_0.ld rfl)) rfl ?_
  refine O.val (v := .pointer (ofs (bl b1_0) (0))) rfl (Ru.fieldA fl39_0 rfl rfl) rfl ?_
  refine O.store (vs := [I ((r).same)]) rfl el3 rfl rfl rfl rfl rfl hB1_0 (by simp) (fun w2_3 hE2_3 hs2_3 hn2_3 => ?_)
  have hK2_3 := kown hK1_0 hE2_3 (by omega)
  replace hB0_0 := hB0_0.kpn hE2_3 (by omega)
  replace hB0_1 := hB0_1.kpn hE2_3 (by omega)
  replace hB1_0 := hn2_3.cast (l' := [I ((r).same), S ([])]) rfl
  refine O.nil ?_
  refine C.seq ?_
  refine C.region ?_
  refine O.val (v := .pointer (ofs (bl b0_0) (1))) rfl (Ru.fieldA fl63_1 rfl rfl) rfl ?_
  refine O.val rfl (Ru.load1 el9 rfl (hB0_0.ld rfl)) rfl ?_
  refine O.val (v := .pointer (ofs (bl b1_0) (1))) rfl (Ru.fieldA fl39_1 rfl rfl) rfl ?_
  refine O.store (vs := [S ((r).tail)]) rfl el9 rfl rfl rfl rfl rfl hB1_0 (by simp) (fun w3_3 hE3_3 hs3_3 hn3_3 => ?_)
  have hK3_3 := kown hK2_3 hE3_3 (by omega)
  replace hB0_0 := hB0_0.kpn hE3_3 (by omega)
  replace hB0_1 := hB0_1.kpn hE3_3 (by omega)
  replace hB1_0 := hn3_3.cast (l' := [I ((r).same), S ((r).tail)]) rfl
  refine O.nil ?_
  refine C.seq ?_
  refine C.region ?_
  refine O.val rfl (Ru.loadN (vs := [I ((r).same), S ((r).tail)]) el39 rfl rfl rfl (hB1_0.lds (k := 0) rfl)) rfl ?_
  refine O.store (vs := [I ((r).same), S ((r).tail)]) rfl el39 rfl rfl rfl rfl rfl hB0_1 (by simp) (fun w4_1 hE4_1 hs4_1 hn4_1 => ?_)
  have hK4_1 := kown hK3_3 hE4_1 (by omega)
  replace hB0_0 := hB0_0.kpn hE4_1 (by omega)
  replace hB1_0 := hB1_0.kpn hE4_1 (by omega)
  replace hB0_1 := hn4_1.cast (l' := [I ((r).same), S ((r).tail)]) rfl
  refine O.nil ?_
  refine C.ret ?_
  refine PG (vs := [.agg #[I ((r).same), S ((r).tail)]]) (ResV.cell (l := [I ((r).same), S ((r).tail)]) rfl hB0_1 el39 rfl ResV.nil) ?_
  exact ⟨rfl, hK4_1⟩

theorem toRestS_fn (A : Option Addr) (c : Nat) (l : List RestT) (w : World) (hA : Rd w A (l.flatMap encR)) (hl : l.length ≤ 1048576) :
    Does Try.prog 45 [.slice (A) (l.length) (c)] w (fun v w1 => own w1 w.heap.size 39 2 v l.length (l.flatMap encR) ∧ w.grownBy w1 none) := by
  refine Does.enter1 Try.func45 rfl Try.results45 Try.ntmps45 rfl ?_
  refine C.seq ?_
  refine C.region ?_
  refine O.val (v := .slice (none) (0) (0)) rfl (Ru.assign rfl) rfl ?_
  refine O.nil ?_
  refine C.seq ?_
  refine C.region ?_
  refine O.val (v := .slice (A) (l.length) (c)) rfl (Ru.move rfl) rfl ?_
  refine O.val (v := I (((l.length : Nat) : Int))) rfl (Ru.blenSlice Try.underlying44 rfl) rfl ?_
  refine O.make (k := l.length) rfl Try.underlying35 el39 rfl rfl rfl (by omega) (by omega) (fun w1_2 b1_2 hb1_2 hE1_2 hB1_2 => ?_)
  have hs1_2 := (krefl w none).size
  have hK1_2 := kext (krefl w none) hE1_2
  have hlt1_2 := hB1_2.lt
  refine O.val (v := .slice (bl b1_2) (l.length) (l.length)) rfl (Ru.assign rfl) rfl ?_
  refine O.nil ?_
  refine C.seq ?_
  refine C.seq ?_
  refine C.region ?_
  refine O.val (v := I (0)) rfl (Ru.assign rfl) rfl ?_
  refine O.nil ?_
  refine C.block ?_
  refine C.loop (ι := Nat) (fun k => ([(0, .slice (A) (l.length) (c)), (3, .slice (bl b1_2) (l.length) (l.length)), (4, I ((k : Int)))] : List (Nat × Value))) (fun k w_ => k ≤ l.length ∧ Blk w_ b1_2 39 (nf encR [I 0, S []] l k) ∧ w.grownBy w_ none) (fun k => l.length - k) (0) (Has.cons rfl (Has.cons rfl (Has.cons rfl Has.nil))) ⟨Nat.zero_le _, hB1_2.cast nf_zero, hK1_2⟩ (fun k σ w_l3 hI => ?_)
  obtain ⟨hk, hB, hK⟩ := hI
  refine C.seq ?_
  refine C.seq ?_
  refine C.region ?_
  refine O.val (v := I ((k : Int))) rfl (Ru.move rfl) rfl ?_
  refine O.val (v := .slice (A) (l.length) (c)) rfl (Ru.move rfl) rfl ?_
  refine O.val (v := I (((l.length : Nat) : Int))) rfl (Ru.blenSlice Try.underlying44 rfl) rfl ?_
  refine O.val (v := .bool (decide ((k : Int) < ((l.length : Nat) : Int)))) rfl (Ru.lss rfl rfl) rfl ?_
  refine O.nil ?_
  refine C.cond (p := (k : Int) < ((l.length : Nat) : Int)) rfl (fun c11 => ?_) (fun c11 => ?_)
  · have hk1 : k < l.length := by omega
    have hml := nf_len (zs := [I 0, S []]) encR_len hk
    refine C.skip ?_
    refine C.seq ?_
    refine C.block ?_
    refine C.region ?_
    refine O.val (v := .slice (bl b1_2) (l.length) (l.length)) rfl (Ru.move rfl) rfl ?_
    refine O.val (v := I ((k : Int))) rfl (Ru.move rfl) rfl ?_
    refine O.val (v := .slice (A) (l.length) (c)) rfl (Ru.move rfl) rfl ?_
    refine O.val (v := I ((k : Int))) rfl (Ru.move rfl) rfl ?_
    refine O.val (v := .pointer (ofs (A) (k * 2))) rfl (Ru.indexA (j := k) Try.underlying44 el63 rfl rfl (smf encR_len (hA.ext hK) hk1 rfl) (by omega) (by omega)) rfl ?_
    refine O.val rfl (Ru.loadN (vs := [I (((l)[k]'hk1).same), S (((l)[k]'hk1).tail)]) el63 rfl rfl (smf encR_len (hA.ext hK) hk1 rfl) (ldn encR_len (hA.ext hK) hk1)) rfl ?_
    refine O.callg [.agg #[I (((l)[k]'hk1).same), S (((l)[k]'hk1).tail)]] rfl en64 rfl rfl (toRest_fn (l[k]) w_l3) ?_
    rintro _ w5_6 ⟨rfl, hE5_6⟩
    have hK5_6 := kext hK hE5_6
    replace hB := hB.ext hE5_6
    refine O.val (v := .pointer (ofs (bl b1_2) (k * 2))) rfl (Ru.indexA (j := k) Try.underlying35 el39 rfl rfl rfl (by omega) (by omega)) rfl ?_
    refine O.store (vs := [I ((l[k]).same), S ((l[k]).tail)]) rfl el39 rfl rfl rfl rfl rfl hB (by simp at hml ⊢; omega) (fun w5_8 hE5_8 hs5_8 hn5_8 => ?_)
    have hK5_8 := kown hK5_6 hE5_8 (by omega)
    replace hB := hn5_8.cast ((nf_step encR_len (zs := [I 0, S []]) hk1))
    refine O.nil ?_
    refine C.region ?_
    refine O.val (v := I ((k : Int))) rfl (Ru.move rfl) rfl ?_
    refine O.val (v := I (((k : Int) + 1))) rfl (Ru.add rfl rfl (by omega)) rfl ?_
    refine O.val (v := I (((k : Int) + 1))) rfl (Ru.assign rfl) rfl ?_
    refine O.nil ?_
    refine loopEnd (k + 1) (by omega) (Has.cons rfl (Has.cons rfl (Has.cons rfl Has.nil))) ⟨by omega, hB, hK5_8⟩
  · refine C.exit ?_
    refine C.seq ?_
    refine C.region ?_
    refine O.val (v := .slice (bl b1_2) (l.length) (l.length)) rfl (Ru.move rfl) rfl ?_
    refine O.val (v := .slice (bl b1_2) (l.length) (l.length)) rfl (Ru.assign rfl) rfl ?_
    refine O.nil ?_
    refine C.ret ?_
    refine P1 (v := .slice (bl b1_2) (l.length) (l.length)) rfl ?_
    exact ⟨own_cast (own_new hB (by omega) (by rw [nf_len encR_len hk]; rfl) (by simp only [maxLen]; omega)) rfl (nf_all (by omega)), hK⟩
end Go.Proofs.Ytekfncmhinbghaa
