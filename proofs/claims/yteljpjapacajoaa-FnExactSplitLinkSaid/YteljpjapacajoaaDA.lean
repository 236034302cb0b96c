/- Own layer: part of this seat (DA). Plain theorems; no conditions. -/
import Derived.Test.YteljpjapacajoaaDK
set_option linter.unusedVariables false
set_option linter.unusedSimpArgs false
namespace Go.Proofs.Yteljpjapacajoaa
open Go.Px
theorem pick_fn (gr : Nat) (rA : Option Addr) (rc : Nat) (rl : List UInt8) (rq : Nat) (n : Int) (w : World) (hrA : Rd w rA (rl.map byteV)) (hro : Off rA (rl.map byteV) [some gr]) (hrl : rl.length ≤ 2000) (hM : Mem w w [some gr] [[⟨.slice (bl gr) 1 1, 67, 2, 1, [.slice (rA) ((rl).length) (rc), I (((rq : Nat) : Int))]⟩]]) (hrq : rq ≤ 1000000000) :
    Does Try.prog 46 [.pointer (ofs (bl gr) (0)), I (n)] w (fun v w1 => ∃ (k : Int), v = I (k) ∧ (0 ≤ k ∧ (k < n ∨ k = 0)) ∧ Mem w w1 [some gr] [[⟨.slice (bl gr) 1 1, 67, 2, 1, [.slice (rA) ((rl).length) (rc), I (((rq + 1 : Nat) : Int))]⟩]]) := by
  refine Does.enter1 Try.func46 rfl Try.results46 Try.ntmps46 rfl ?_
  refine C.seq ?_
  refine C.region ?_
  refine O.val (v := I (0)) rfl (Ru.assign rfl) rfl ?_
  refine O.nil ?_
  refine C.seq ?_
  refine C.region ?_
  refine O.val (v := .pointer (ofs (bl gr) (0))) rfl (Ru.move rfl) rfl ?_
  refine O.val (v := .pointer (ofs (bl gr) (0))) rfl (Ru.move rfl) rfl ?_
  refine O.val (v := .pointer (ofs (bl gr) (0))) rfl (Ru.nilc rfl rfl) rfl ?_
  refine O.val (v := .pointer (ofs (bl gr) (1))) rfl (Ru.fieldA fl67_1 rfl rfl) rfl ?_
  refine O.val rfl (Ru.load1 el3 rfl ((hM.rd 0 rfl).ld rfl)) rfl ?_
  refine O.val (v := I ((((rq + 1) : Nat) : Int))) rfl (Ru.congr (v := I ((((rq : Nat) : Int) + 1))) (v' := I ((((rq + 1) : Nat) : Int))) (Ru.add rfl rfl (by omega)) (I_congr (by first | omega | simp))) rfl ?_
  refine O.val (v := .pointer (ofs (bl gr) (0))) rfl (Ru.nilc rfl rfl) rfl ?_
  refine O.val (v := .pointer (ofs (bl gr) (1))) rfl (Ru.fieldA fl67_1 rfl rfl) rfl ?_
  refine O.mstore (vs := [I ((((rq + 1) : Nat) : Int))]) (xs' := [.slice (rA) ((rl).length) (rc), I ((((rq + 1) : Nat) : Int))]) 0 0 hM rfl rfl rfl el3 rfl rfl rfl rfl rfl (by simp) (by simp) rfl rfl (fun w1_8 (hM1_8 : Mem w w1_8 [some gr] [[⟨.slice (bl gr) 1 1, 67, 2, 1, [.slice (rA) ((rl).length) (rc), I ((((rq + 1) : Nat) : Int))]⟩]]) => ?_)
  refine O.nil ?_
  refine C.seq ?_
  refine C.seq ?_
  refine C.region ?_
  refine O.val (v := I (n)) rfl (Ru.move rfl) rfl ?_
  refine O.val (v := .bool (decide (n < 1))) rfl (Ru.lss rfl rfl) rfl ?_
  refine O.val (v := .bool (decide (n < 1))) rfl (Ru.move rfl) rfl ?_
  refine O.partp 17 (n < 1) rfl (fun g17 => ?_) (fun g17 => ?_)
  · refine O.pass rfl rfl rfl rfl rfl ?_
    refine O.pass rfl rfl rfl rfl rfl ?_
    refine O.pass rfl rfl rfl rfl rfl ?_
    refine O.pass rfl rfl rfl rfl rfl ?_
    refine O.pass rfl rfl rfl rfl rfl ?_
    refine O.pass rfl rfl rfl rfl rfl ?_
    refine O.val (v := .bool (true)) rfl (Ru.pickT rfl rfl) rfl ?_
    refine O.nil ?_
    refine C.condT rfl ?_
    refine C.seq ?_
    refine C.region ?_
    refine O.val (v := I (0)) rfl (Ru.assign rfl) rfl ?_
    refine O.nil ?_
    refine C.ret ?_
    refine P1 (v := I (0)) rfl ?_
    exact ⟨0, (by first | rfl | exact sl_congr (by first | omega | (simp; done) | (simp; omega)) | (simp; done)), ⟨by decide, .inr rfl⟩, (hM1_8.pick [0] (by decide) rfl)⟩
  · refine O.val (v := .pointer (ofs (bl gr) (0))) rfl (Ru.move rfl) rfl ?_
    refine O.val (v := .pointer (ofs (bl gr) (0))) rfl (Ru.nilc rfl rfl) rfl ?_
    refine O.val (v := .pointer (ofs (bl gr) (0))) rfl (Ru.fieldA fl67_0 rfl rfl) rfl ?_
    refine O.val rfl (Ru.load1 el22 rfl ((hM1_8.rd 0 rfl).ld rfl)) rfl ?_
    refine O.val (v := I ((((rl).length : Nat) : Int))) rfl (Ru.blenSlice Try.underlying22 rfl) rfl ?_
    refine O.val (v := .bool (decide ((((rl).length : Nat) : Int) = 0))) rfl (Ru.eql rfl rfl) rfl ?_
    refine O.val (v := .bool (decide ((((rl).length : Nat) : Int) = 0))) rfl (Ru.pickF rfl rfl) rfl ?_
    refine O.nil ?_
    refine C.cond (p := (((rl).length : Nat) : Int) = 0) rfl (fun c24 => ?_) (fun c24 => ?_)
    · refine C.seq ?_
      refine C.region ?_
      refine O.val (v := I (0)) rfl (Ru.assign rfl) rfl ?_
      refine O.nil ?_
      refine C.ret ?_
      refine P1 (v := I (0)) rfl ?_
      exact ⟨0, (by first | rfl | exact sl_congr (by first | omega | (simp; done) | (simp; omega)) | (simp; done)), ⟨by decide, .inr rfl⟩, (hM1_8.pick [0] (by decide) rfl)⟩
    · refine C.skip ?_
      refine C.seq ?_
      refine C.region ?_
      refine O.val (v := .pointer (ofs (bl gr) (0))) rfl (Ru.move rfl) rfl ?_
      refine O.val (v := .pointer (ofs (bl gr) (0))) rfl (Ru.nilc rfl rfl) rfl ?_
      refine O.val (v := .pointer (ofs (bl gr) (1))) rfl (Ru.fieldA fl67_1 rfl rfl) rfl ?_
      refine O.val rfl (Ru.load1 el3 rfl ((hM1_8.rd 0 rfl).ld rfl)) rfl ?_
      refine O.val (v := I (((rq : Nat) : Int))) rfl (Ru.congr (v := I (((((rq + 1) : Nat) : Int) - 1))) (v' := I (((rq : Nat) : Int))) (Ru.sub rfl rfl (by omega)) (I_congr (by omega))) rfl ?_
      refine O.val (v := I (((rq : Nat) : Int))) rfl (Ru.assign rfl) rfl ?_
      refine O.nil ?_
      refine C.seq ?_
      refine C.seq ?_
      refine C.region ?_
      refine O.val (v := I (((rq : Nat) : Int))) rfl (Ru.move rfl) rfl ?_
      refine O.val (v := .pointer (ofs (bl gr) (0))) rfl (Ru.move rfl) rfl ?_
      refine O.val (v := .pointer (ofs (bl gr) (0))) rfl (Ru.nilc rfl rfl) rfl ?_
      refine O.val (v := .pointer (ofs (bl gr) (0))) rfl (Ru.fieldA fl67_0 rfl rfl) rfl ?_
      refine O.val rfl (Ru.load1 el22 rfl ((hM1_8.rd 0 rfl).ld rfl)) rfl ?_
      refine O.val (v := I ((((rl).length : Nat) : Int))) rfl (Ru.blenSlice Try.underlying22 rfl) rfl ?_
      refine O.val (v := .bool (decide (((rq : Nat) : Int) < (((rl).length : Nat) : Int)))) rfl (Ru.lss rfl rfl) rfl ?_
      refine O.nil ?_
      refine C.cond (p := ((rq : Nat) : Int) < (((rl).length : Nat) : Int)) rfl (fun c36 => ?_) (fun c36 => ?_)
      · have hu2 := u8_le (rl[rq])
        refine C.seq ?_
        refine C.region ?_
        refine O.val (v := .pointer (ofs (bl gr) (0))) rfl (Ru.move rfl) rfl ?_
        refine O.val (v := .pointer (ofs (bl gr) (0))) rfl (Ru.nilc rfl rfl) rfl ?_
        refine O.val (v := .pointer (ofs (bl gr) (0))) rfl (Ru.fieldA fl67_0 rfl rfl) rfl ?_
        refine O.val rfl (Ru.load1 el22 rfl ((hM1_8.rd 0 rfl).ld rfl)) rfl ?_
        refine O.val (v := I (((rq : Nat) : Int))) rfl (Ru.move rfl) rfl ?_
        have hx6_5 : rq < (rl).length := (by first | omega | (simp; omega))
        refine O.val (v := .pointer (ofs (rA) (rq * 1))) rfl (Ru.indexA (j := rq) Try.underlying22 el5 rfl rfl (smm (hrA.atR hM1_8 hro) hx6_5) (by omega) (by first | omega | (simp; omega))) rfl ?_
        refine O.val rfl (Ru.load1 el5 rfl (ldm (hrA.atR hM1_8 hro) hx6_5)) rfl ?_
        refine O.val (v := I ((((rl)[rq]'hx6_5).toNat : Int))) rfl (Ru.conv (c := (((rl)[rq]'hx6_5).toNat : Int)) Try.underlying5 Try.underlying3 rfl (wrap_u8 _ (by omega))) rfl ?_
        refine O.val (v := I (n)) rfl (Ru.move rfl) rfl ?_
        refine O.val (v := I (((((rl)[rq]'hx6_5).toNat : Int) % n))) rfl (Ru.rem rfl rfl (by omega)) rfl ?_
        refine O.val (v := I (((((rl)[rq]'hx6_5).toNat : Int) % n))) rfl (Ru.assign rfl) rfl ?_
        refine O.nil ?_
        refine C.ret ?_
        refine P1 (v := I (((((rl)[rq]'hx6_5).toNat : Int) % n))) rfl ?_
        exact ⟨_, (by first | rfl | exact sl_congr (by first | omega | (simp; done) | (simp; omega)) | (simp; done)), ⟨Int.emod_nonneg _ (by omega), .inl (Int.emod_lt_of_pos _ (by omega))⟩, (hM1_8.pick [0] (by decide) rfl)⟩
      · have hq0 := Nat.mod_lt rq (show 0 < rl.length by omega)
        have hq1 := Nat.mod_lt (rq * 7 + 3) (show 0 < rl.length by omega)
        have hu0 := u8_le (rl[rq % rl.length])
        have hu1 := u8_le (rl[(rq * 7 + 3) % rl.length])
        obtain ⟨dv, hdq, hdv⟩ : ∃ dv : Nat, dv = rq / rl.length ∧ dv ≤ rq := ⟨_, rfl, Nat.div_le_self _ _⟩
        refine C.skip ?_
        refine C.seq ?_
        refine C.draws (fun w2 => Mem w w2 [some gr] [[⟨.slice (bl gr) 1 1, 67, 2, 1, [.slice (rA) ((rl).length) (rc), I ((((rq + 1) : Nat) : Int))]⟩]]) mixed (by kernel_rfl) (hM1_8.ext (kdrawn _)) ?_
        refine QO.val (v := .pointer (ofs (bl gr) (0))) rfl (fun w2 hw2 => Ru.move rfl) rfl ?_
        refine QO.val (v := .pointer (ofs (bl gr) (0))) rfl (fun w2 hw2 => Ru.nilc rfl rfl) rfl ?_
        refine QO.val (v := .pointer (ofs (bl gr) (0))) rfl (fun w2 hw2 => Ru.fieldA fl67_0 rfl rfl) rfl ?_
        refine QO.val rfl (fun w2 hw2 => Ru.load1 el22 rfl ((hw2.rd 0 rfl).ld rfl)) rfl ?_
        refine QO.val (v := I (((rq : Nat) : Int))) rfl (fun w2 hw2 => Ru.move rfl) rfl ?_
        refine QO.val (v := .pointer (ofs (bl gr) (0))) rfl (fun w2 hw2 => Ru.move rfl) rfl ?_
        refine QO.val (v := .pointer (ofs (bl gr) (0))) rfl (fun w2 hw2 => Ru.nilc rfl rfl) rfl ?_
        refine QO.val (v := .pointer (ofs (bl gr) (0))) rfl (fun w2 hw2 => Ru.fieldA fl67_0 rfl rfl) rfl ?_
        refine QO.val rfl (fun w2 hw2 => Ru.load1 el22 rfl ((hw2.rd 0 rfl).ld rfl)) rfl ?_
        refine QO.val (v := I ((((rl).length : Nat) : Int))) rfl (fun w2 hw2 => Ru.blenSlice Try.underlying22 rfl) rfl ?_
        refine QO.val (v := I ((((rq % (rl).length) : Nat) : Int))) rfl (fun w2 hw2 => Ru.congr (v := I ((((rq : Nat) : Int) % (((rl).length : Nat) : Int)))) (v' := I ((((rq % (rl).length) : Nat) : Int))) (Ru.rem rfl rfl (by omega)) (I_congr (by first | omega | simp))) rfl ?_
        have hx7_11 : (rq % (rl).length) < (rl).length := (by first | omega | (simp; omega))
        refine QO.val (v := .pointer (ofs (rA) ((rq % (rl).length) * 1))) rfl (fun w2 hw2 => Ru.indexA (j := (rq % (rl).length)) Try.underlying22 el5 rfl rfl (smm (hrA.atR hw2 hro) hx7_11) (by omega) (by first | omega | (simp; omega))) rfl ?_
        refine QO.val rfl (fun w2 hw2 => Ru.load1 el5 rfl (ldm (hrA.atR hw2 hro) hx7_11)) rfl ?_
        refine QO.val (v := I ((((rl)[(rq % (rl).length)]'hx7_11).toNat : Int))) rfl (fun w2 hw2 => Ru.conv (c := (((rl)[(rq % (rl).length)]'hx7_11).toNat : Int)) Try.underlying5 Try.underlying3 rfl (wrap_u8 _ (by omega))) rfl ?_
        refine QO.val (v := I ((((((rl)[(rq % (rl).length)]'hx7_11).toNat * 131) : Nat) : Int))) rfl (fun w2 hw2 => Ru.congr (v := I (((((rl)[(rq % (rl).length)]'hx7_11).toNat : Int) * 131))) (v' := I ((((((rl)[(rq % (rl).length)]'hx7_11).toNat * 131) : Nat) : Int))) (Ru.mul rfl rfl (by omega)) (I_congr (by first | omega | simp))) rfl ?_
        refine QO.val (v := .pointer (ofs (bl gr) (0))) rfl (fun w2 hw2 => Ru.move rfl) rfl ?_
        refine QO.val (v := .pointer (ofs (bl gr) (0))) rfl (fun w2 hw2 => Ru.nilc rfl rfl) rfl ?_
        refine QO.val (v := .pointer (ofs (bl gr) (0))) rfl (fun w2 hw2 => Ru.fieldA fl67_0 rfl rfl) rfl ?_
        refine QO.val rfl (fun w2 hw2 => Ru.load1 el22 rfl ((hw2.rd 0 rfl).ld rfl)) rfl ?_
        refine QO.val (v := I (((rq : Nat) : Int))) rfl (fun w2 hw2 => Ru.move rfl) rfl ?_
        refine QO.val (v := I ((((rq * 7) : Nat) : Int))) rfl (fun w2 hw2 => Ru.congr (v := I ((((rq : Nat) : Int) * 7))) (v' := I ((((rq * 7) : Nat) : Int))) (Ru.mul rfl rfl (by omega)) (I_congr (by first | omega | simp))) rfl ?_
        refine QO.val (v := I (((((rq * 7) + 3) : Nat) : Int))) rfl (fun w2 hw2 => Ru.congr (v := I (((((rq * 7) : Nat) : Int) + 3))) (v' := I (((((rq * 7) + 3) : Nat) : Int))) (Ru.add rfl rfl (by omega)) (I_congr (by first | omega | simp))) rfl ?_
        refine QO.val (v := .pointer (ofs (bl gr) (0))) rfl (fun w2 hw2 => Ru.move rfl) rfl ?_
        refine QO.val (v := .pointer (ofs (bl gr) (0))) rfl (fun w2 hw2 => Ru.nilc rfl rfl) rfl ?_
        refine QO.val (v := .pointer (ofs (bl gr) (0))) rfl (fun w2 hw2 => Ru.fieldA fl67_0 rfl rfl) rfl ?_
        refine QO.val rfl (fun w2 hw2 => Ru.load1 el22 rfl ((hw2.rd 0 rfl).ld rfl)) rfl ?_
        refine QO.val (v := I ((((rl).length : Nat) : Int))) rfl (fun w2 hw2 => Ru.blenSlice Try.underlying22 rfl) rfl ?_
        refine QO.val (v := I ((((((rq * 7) + 3) % (rl).length) : Nat) : Int))) rfl (fun w2 hw2 => Ru.congr (v := I ((((((rq * 7) + 3) : Nat) : Int) % (((rl).length : Nat) : Int)))) (v' := I ((((((rq * 7) + 3) % (rl).length) : Nat) : Int))) (Ru.rem rfl rfl (by omega)) (I_congr (by first | omega | simp))) rfl ?_
        have hx7_28 : (((rq * 7) + 3) % (rl).length) < (rl).length := (by first | omega | (simp; omega))
        refine QO.val (v := .pointer (ofs (rA) ((((rq * 7) + 3) % (rl).length) * 1))) rfl (fun w2 hw2 => Ru.indexA (j := (((rq * 7) + 3) % (rl).length)) Try.underlying22 el5 rfl rfl (smm (hrA.atR hw2 hro) hx7_28) (by omega) (by first | omega | (simp; omega))) rfl ?_
        refine QO.val rfl (fun w2 hw2 => Ru.load1 el5 rfl (ldm (hrA.atR hw2 hro) hx7_28)) rfl ?_
        refine QO.val (v := I ((((rl)[(((rq * 7) + 3) % (rl).length)]'hx7_28).toNat : Int))) rfl (fun w2 hw2 => Ru.conv (c := (((rl)[(((rq * 7) + 3) % (rl).length)]'hx7_28).toNat : Int)) Try.underlying5 Try.underlying3 rfl (wrap_u8 _ (by omega))) rfl ?_
        refine QO.val (v := I ((((((rl)[(((rq * 7) + 3) % (rl).length)]'hx7_28).toNat * 1117) : Nat) : Int))) rfl (fun w2 hw2 => Ru.congr (v := I (((((rl)[(((rq * 7) + 3) % (rl).length)]'hx7_28).toNat : Int) * 1117))) (v' := I ((((((rl)[(((rq * 7) + 3) % (rl).length)]'hx7_28).toNat * 1117) : Nat) : Int))) (Ru.mul rfl rfl (by omega)) (I_congr (by first | omega | simp))) rfl ?_
        refine QO.val (v := I (((((((rl)[(rq % (rl).length)]'hx7_11).toNat * 131) + (((rl)[(((rq * 7) + 3) % (rl).length)]'hx7_28).toNat * 1117)) : Nat) : Int))) rfl (fun w2 hw2 => Ru.congr (v := I (((((((rl)[(rq % (rl).length)]'hx7_11).toNat * 131) : Nat) : Int) + (((((rl)[(((rq * 7) + 3) % (rl).length)]'hx7_28).toNat * 1117) : Nat) : Int)))) (v' := I (((((((rl)[(rq % (rl).length)]'hx7_11).toNat * 131) + (((rl)[(((rq * 7) + 3) % (rl).length)]'hx7_28).toNat * 1117)) : Nat) : Int))) (Ru.add rfl rfl (by omega)) (I_congr (by first | omega | simp))) rfl ?_
        refine QO.val (v := I (((rq : Nat) : Int))) rfl (fun w2 hw2 => Ru.move rfl) rfl ?_
        refine QO.val (v := I ((((rq * 29) : Nat) : Int))) rfl (fun w2 hw2 => Ru.congr (v := I ((((rq : Nat) : Int) * 29))) (v' := I ((((rq * 29) : Nat) : Int))) (Ru.mul rfl rfl (by omega)) (I_congr (by first | omega | simp))) rfl ?_
        refine QO.val (v := I ((((((((rl)[(rq % (rl).length)]'hx7_11).toNat * 131) + (((rl)[(((rq * 7) + 3) % (rl).length)]'hx7_28).toNat * 1117)) + (rq * 29)) : Nat) : Int))) rfl (fun w2 hw2 => Ru.congr (v := I ((((((((rl)[(rq % (rl).length)]'hx7_11).toNat * 131) + (((rl)[(((rq * 7) + 3) % (rl).length)]'hx7_28).toNat * 1117)) : Nat) : Int) + (((rq * 29) : Nat) : Int)))) (v' := I ((((((((rl)[(rq % (rl).length)]'hx7_11).toNat * 131) + (((rl)[(((rq * 7) + 3) % (rl).length)]'hx7_28).toNat * 1117)) + (rq * 29)) : Nat) : Int))) (Ru.add rfl rfl (by omega)) (I_congr (by first | omega | simp))) rfl ?_
        refine QO.val (v := I (((rq : Nat) : Int))) rfl (fun w2 hw2 => Ru.move rfl) rfl ?_
        refine QO.val (v := .pointer (ofs (bl gr) (0))) rfl (fun w2 hw2 => Ru.move rfl) rfl ?_
        refine QO.val (v := .pointer (ofs (bl gr) (0))) rfl (fun w2 hw2 => Ru.nilc rfl rfl) rfl ?_
        refine QO.val (v := .pointer (ofs (bl gr) (0))) rfl (fun w2 hw2 => Ru.fieldA fl67_0 rfl rfl) rfl ?_
        refine QO.val rfl (fun w2 hw2 => Ru.load1 el22 rfl ((hw2.rd 0 rfl).ld rfl)) rfl ?_
        refine QO.val (v := I ((((rl).length : Nat) : Int))) rfl (fun w2 hw2 => Ru.blenSlice Try.underlying22 rfl) rfl ?_
        refine QO.val (v := I (((dv : Nat) : Int))) rfl (fun w2 hw2 => Ru.congr (v := I ((((rq : Nat) : Int) / (((rl).length : Nat) : Int)))) (v' := I (((dv : Nat) : Int))) (Ru.quo rfl rfl (by omega)) (I_congr (by rw [hdq]; simp))) rfl ?_
        refine QO.val (v := I ((((dv * 53) : Nat) : Int))) rfl (fun w2 hw2 => Ru.congr (v := I ((((dv : Nat) : Int) * 53))) (v' := I ((((dv * 53) : Nat) : Int))) (Ru.mul rfl rfl (by omega)) (I_congr (by first | omega | simp))) rfl ?_
        refine QO.val (v := I (((((((((rl)[(rq % (rl).length)]'hx7_11).toNat * 131) + (((rl)[(((rq * 7) + 3) % (rl).length)]'hx7_28).toNat * 1117)) + (rq * 29)) + (dv * 53)) : Nat) : Int))) rfl (fun w2 hw2 => Ru.congr (v := I (((((((((rl)[(rq % (rl).length)]'hx7_11).toNat * 131) + (((rl)[(((rq * 7) + 3) % (rl).length)]'hx7_28).toNat * 1117)) + (rq * 29)) : Nat) : Int) + (((dv * 53) : Nat) : Int)))) (v' := I (((((((((rl)[(rq % (rl).length)]'hx7_11).toNat * 131) + (((rl)[(((rq * 7) + 3) % (rl).length)]'hx7_28).toNat * 1117)) + (rq * 29)) + (dv * 53)) : Nat) : Int))) (Ru.add rfl rfl (by omega)) (I_congr (by first | omega | simp))) rfl ?_
        refine QO.val (v := I (((((((((rl)[(rq % (rl).length)]'hx7_11).toNat * 131) + (((rl)[(((rq * 7) + 3) % (rl).length)]'hx7_28).toNat * 1117)) + (rq * 29)) + (dv * 53)) : Nat) : Int))) rfl (fun w2 hw2 => Ru.assign rfl) rfl ?_
        refine QO.nil ?_
        intro w7d hM7d
        refine C.seq ?_
        refine C.region ?_
        refine O.val (v := I (((((((((rl)[(rq % (rl).length)]'hx7_11).toNat * 131) + (((rl)[(((rq * 7) + 3) % (rl).length)]'hx7_28).toNat * 1117)) + (rq * 29)) + (dv * 53)) : Nat) : Int))) rfl (Ru.move rfl) rfl ?_
        refine O.val (v := I (((((((((rl)[(rq % (rl).length)]'hx7_11).toNat * 131) + (((rl)[(((rq * 7) + 3) % (rl).length)]'hx7_28).toNat * 1117)) + (rq * 29)) + (dv * 53)) : Nat) : Int))) rfl (Ru.move rfl) rfl ?_
        refine O.val (v := I ((((((((((rl)[(rq % (rl).length)]'hx7_11).toNat * 131) + (((rl)[(((rq * 7) + 3) % (rl).length)]'hx7_28).toNat * 1117)) + (rq * 29)) + (dv * 53)) / 64) : Nat) : Int))) rfl (Ru.congr (v := I ((((((((((rl)[(rq % (rl).length)]'hx7_11).toNat * 131) + (((rl)[(((rq * 7) + 3) % (rl).length)]'hx7_28).toNat * 1117)) + (rq * 29)) + (dv * 53)) : Nat) : Int) / 64))) (v' := I ((((((((((rl)[(rq % (rl).length)]'hx7_11).toNat * 131) + (((rl)[(((rq * 7) + 3) % (rl).length)]'hx7_28).toNat * 1117)) + (rq * 29)) + (dv * 53)) / 64) : Nat) : Int))) (Ru.quo rfl rfl (by omega)) (I_congr (by first | omega | simp))) rfl ?_
        refine O.val (v := I ((((((((((((rl)[(rq % (rl).length)]'hx7_11).toNat * 131) + (((rl)[(((rq * 7) + 3) % (rl).length)]'hx7_28).toNat * 1117)) + (rq * 29)) + (dv * 53)) : Nat) : Int)).toNat ^^^ ((((((((((rl)[(rq % (rl).length)]'hx7_11).toNat * 131) + (((rl)[(((rq * 7) + 3) % (rl).length)]'hx7_28).toNat * 1117)) + (rq * 29)) + (dv * 53)) / 64) : Nat) : Int)).toNat : Nat) : Int))) rfl (Ru.xor rfl rfl (by omega) (by omega)) rfl ?_
        refine O.val (v := I ((((((((((((rl)[(rq % (rl).length)]'hx7_11).toNat * 131) + (((rl)[(((rq * 7) + 3) % (rl).length)]'hx7_28).toNat * 1117)) + (rq * 29)) + (dv * 53)) : Nat) : Int)).toNat ^^^ ((((((((((rl)[(rq % (rl).length)]'hx7_11).toNat * 131) + (((rl)[(((rq * 7) + 3) % (rl).length)]'hx7_28).toNat * 1117)) + (rq * 29)) + (dv * 53)) / 64) : Nat) : Int)).toNat : Nat) : Int))) rfl (Ru.assign rfl) rfl ?_
        refine O.nil ?_
        refine C.seq ?_
        refine C.region ?_
        refine O.val (v := I ((((((((((((rl)[(rq % (rl).length)]'hx7_11).toNat * 131) + (((rl)[(((rq * 7) + 3) % (rl).length)]'hx7_28).toNat * 1117)) + (rq * 29)) + (dv * 53)) : Nat) : Int)).toNat ^^^ ((((((((((rl)[(rq % (rl).length)]'hx7_11).toNat * 131) + (((rl)[(((rq * 7) + 3) % (rl).length)]'hx7_28).toNat * 1117)) + (rq * 29)) + (dv * 53)) / 64) : Nat) : Int)).toNat : Nat) : Int))) rfl (Ru.move rfl) rfl ?_
        refine O.val (v := I (n)) rfl (Ru.move rfl) rfl ?_
        refine O.val (v := I (((((((((((((rl)[(rq % (rl).length)]'hx7_11).toNat * 131) + (((rl)[(((rq * 7) + 3) % (rl).length)]'hx7_28).toNat * 1117)) + (rq * 29)) + (dv * 53)) : Nat) : Int)).toNat ^^^ ((((((((((rl)[(rq % (rl).length)]'hx7_11).toNat * 131) + (((rl)[(((rq * 7) + 3) % (rl).length)]'hx7_28).toNat * 1117)) + (rq * 29)) + (dv * 53)) / 64) : Nat) : Int)).toNat : Nat) : Int) % n))) rfl (Ru.rem rfl rfl (by omega)) rfl ?_
        refine O.val (v := I (((((((((((((rl)[(rq % (rl).length)]'hx7_11).toNat * 131) + (((rl)[(((rq * 7) + 3) % (rl).length)]'hx7_28).toNat * 1117)) + (rq * 29)) + (dv * 53)) : Nat) : Int)).toNat ^^^ ((((((((((rl)[(rq % (rl).length)]'hx7_11).toNat * 131) + (((rl)[(((rq * 7) + 3) % (rl).length)]'hx7_28).toNat * 1117)) + (rq * 29)) + (dv * 53)) / 64) : Nat) : Int)).toNat : Nat) : Int) % n))) rfl (Ru.assign rfl) rfl ?_
        refine O.nil ?_
        refine C.ret ?_
        refine P1 (v := I (((((((((((((rl)[(rq % (rl).length)]'hx7_11).toNat * 131) + (((rl)[(((rq * 7) + 3) % (rl).length)]'hx7_28).toNat * 1117)) + (rq * 29)) + (dv * 53)) : Nat) : Int)).toNat ^^^ ((((((((((rl)[(rq % (rl).length)]'hx7_11).toNat * 131) + (((rl)[(((rq * 7) + 3) % (rl).length)]'hx7_28).toNat * 1117)) + (rq * 29)) + (dv * 53)) / 64) : Nat) : Int)).toNat : Nat) : Int) % n))) rfl ?_
        exact ⟨_, (by first | rfl | exact sl_congr (by first | omega | (simp; done) | (simp; omega)) | (simp; done)), ⟨Int.emod_nonneg _ (by omega), .inl (Int.emod_lt_of_pos _ (by omega))⟩, (hM7d.pick [0] (by decide) rfl)⟩

theorem one_fn (gr : Nat) (rA : Option Addr) (rc : Nat) (rl : List UInt8) (rq : Nat) (A : Option Addr) (c : Nat) (l : List Int) (w : World) (hrA : Rd w rA (rl.map byteV)) (hro : Off rA (rl.map byteV) [some gr]) (hrl : rl.length ≤ 2000) (hA : Rd w A ((l).map I)) (hoA : Off A ((l).map I) [some gr]) (hM : Mem w w [some gr] [[⟨.slice (bl gr) 1 1, 67, 2, 1, [.slice (rA) ((rl).length) (rc), I (((rq : Nat) : Int))]⟩]]) (hrq : rq ≤ 999999990) (hl : 0 < l.length) (hm : l.length ≤ 1000) :
    Does Try.prog 45 [.pointer (ofs (bl gr) (0)), .slice (A) ((l).length) (c)] w (fun v w1 => ∃ (k : Int), v = I (k) ∧ (k ∈ l) ∧ Mem w w1 [some gr] [[⟨.slice (bl gr) 1 1, 67, 2, 1, [.slice (rA) ((rl).length) (rc), I (((rq + 1 : Nat) : Int))]⟩]]) := by
  refine Does.enter1 Try.func45 rfl Try.results45 Try.ntmps45 rfl ?_
  refine C.seq ?_
  refine C.region ?_
  refine O.val (v := I (0)) rfl (Ru.assign rfl) rfl ?_
  refine O.nil ?_
  refine C.seq ?_
  refine C.region ?_
  refine O.val (v := .slice (A) ((l).length) (c)) rfl (Ru.move rfl) rfl ?_
  refine O.val (v := .pointer (ofs (bl gr) (0))) rfl (Ru.move rfl) rfl ?_
  refine O.val (v := .slice (A) ((l).length) (c)) rfl (Ru.move rfl) rfl ?_
  refine O.val (v := I ((((l).length : Nat) : Int))) rfl (Ru.blenSlice Try.underlying26 rfl) rfl ?_
  refine O.callg [.pointer (ofs (bl gr) (0)), I ((((l).length : Nat) : Int))] rfl en46 rfl rfl (pick_fn gr rA rc rl rq (((l).length : Nat) : Int) w (hrA.atR hM hro) hro hrl (Mem.focus (Ma := [[⟨.slice (bl gr) 1 1, 67, 2, 1, [.slice (rA) ((rl).length) (rc), I (((rq : Nat) : Int))]⟩]]) (rest := []) hM rfl) (by first | omega | assumption | (simp; omega) | simp | (intros; omega))) ?_
  rintro _ w1_4 ⟨k1_4, rfl, hk1_4, hR1_4⟩
  have hM1_4 : Mem w w1_4 [some gr] [[⟨.slice (bl gr) 1 1, 67, 2, 1, [.slice (rA) ((rl).length) (rc), I (((rq + 1 : Nat) : Int))]⟩]] := Mem.call (Ma := [[⟨.slice (bl gr) 1 1, 67, 2, 1, [.slice (rA) ((rl).length) (rc), I (((rq : Nat) : Int))]⟩]]) hM hR1_4 rfl
  have hkk := hk1_4
  have hx1_5 : (k1_4).toNat < (l).length := (by first | omega | (simp; omega))
  refine O.val (v := .pointer (ofs (A) (((k1_4).toNat) * 1))) rfl (Ru.indexA (j := (k1_4).toNat) Try.underlying26 el3 rfl rfl (smm (hA.atR hM1_4 hoA) hx1_5) (by omega) (by first | omega | (simp; omega))) rfl ?_
  refine O.val rfl (Ru.load1 el3 rfl (ldm (hA.atR hM1_4 hoA) hx1_5)) rfl ?_
  refine O.val (v := I ((l)[(k1_4).toNat]'hx1_5)) rfl (Ru.assign rfl) rfl ?_
  refine O.nil ?_
  refine C.ret ?_
  refine P1 (v := I ((l)[(k1_4).toNat]'hx1_5)) rfl ?_
  exact ⟨_, (by first | rfl | exact sl_congr (by first | omega | (simp; done) | (simp; omega)) | (simp; done)), List.getElem_mem _, (hM1_4.pick [0] (by decide) rfl)⟩

theorem newReader_fn (A : Option Addr) (c : Nat) (l : List UInt8) (w : World) (hA : Rd w A ((l).map byteV)) (hl : l.length ≤ 1048576) (hc : l.length ≤ c) :
    Does Try.prog 43 [.slice (A) ((l).length) (c)] w (fun v w1 => ∃ (gr : Nat) (l1 : List UInt8), v = .pointer (ofs (bl gr) (0)) ∧ (l1 = l ∨ l1 = l.take 2000) ∧ (l1.length ≤ 2000) ∧ Mem w w1 [] [[⟨.slice (bl gr) 1 1, 67, 2, 1, [.slice (A) ((l1).length) (c), I (((0 : Nat) : Int))]⟩]]) := by
  have hM : Mem w w [] [] := Mem.refl
  refine Does.enter1 Try.func43 rfl Try.results43 Try.ntmps43 rfl ?_
  refine C.seq ?_
  refine C.region ?_
  refine O.val rfl (Ru.assign rfl) rfl ?_
  refine O.nil ?_
  refine C.seq ?_
  refine C.seq ?_
  refine C.region ?_
  refine O.val (v := .slice (A) ((l).length) (c)) rfl (Ru.move rfl) rfl ?_
  refine O.val (v := I ((((l).length : Nat) : Int))) rfl (Ru.blenSlice Try.underlying22 rfl) rfl ?_
  refine O.val (v := .bool (decide ((((l).length : Nat) : Int) > 2000))) rfl (Ru.gtr rfl rfl) rfl ?_
  refine O.nil ?_
  refine C.cond (p := (((l).length : Nat) : Int) > 2000) rfl (fun c5 => ?_) (fun c5 => ?_)
  · refine C.region ?_
    refine O.val (v := .slice (A) ((l).length) (c)) rfl (Ru.move rfl) rfl ?_
    refine O.val (v := .slice (A) ((l.take 2000).length) (c)) rfl (Ru.congr (v := .slice (A) (2000) (c)) (v' := .slice (A) ((l.take 2000).length) (c)) (Ru.lsliceTo (h := 2000) Try.underlying22 el5 rfl rfl (by omega) (by omega)) (sl_congr (by simp; omega))) rfl ?_
    refine O.val (v := .slice (A) ((l.take 2000).length) (c)) rfl (Ru.assign rfl) rfl ?_
    refine O.nil ?_
    refine C.seq ?_
    refine C.region ?_
    refine O.val (v := .slice (A) ((l.take 2000).length) (c)) rfl (Ru.move rfl) rfl ?_
    refine O.val (v := .agg #[.slice (A) ((l.take 2000).length) (c), I (0)]) rfl (Ru.build of67 rfl rfl rfl) rfl ?_
    refine O.mbox (k := 2) (vs := [.slice (A) ((l.take 2000).length) (c), I (0)]) hM rfl rfl rfl rfl rfl (fun w3_2 b3_2 hb3_2 (hM3_2 : Mem w w3_2 [] [[⟨.slice (bl b3_2) 1 1, 67, 2, 1, [.slice (A) ((l.take 2000).length) (c), I (0)]⟩]]) => ?_)
    refine O.val (v := .pointer (ofs (bl b3_2) (0))) rfl (Ru.assign rfl) rfl ?_
    refine O.nil ?_
    refine C.ret ?_
    refine P1 (v := .pointer (ofs (bl b3_2) (0))) rfl ?_
    exact ⟨b3_2, l.take 2000, (by first | rfl | exact sl_congr (by first | omega | (simp; done) | (simp; omega)) | (simp; done)), (by first | exact .inl rfl | exact .inr rfl), (by simp; omega), (hM3_2.pick [0] (by decide) rfl)⟩
  · refine C.skip ?_
    refine C.seq ?_
    refine C.region ?_
    refine O.val (v := .slice (A) ((l).length) (c)) rfl (Ru.move rfl) rfl ?_
    refine O.val (v := .agg #[.slice (A) ((l).length) (c), I (0)]) rfl (Ru.build of67 rfl rfl rfl) rfl ?_
    refine O.mbox (k := 2) (vs := [.slice (A) ((l).length) (c), I (0)]) hM rfl rfl rfl rfl rfl (fun w3_2 b3_2 hb3_2 (hM3_2 : Mem w w3_2 [] [[⟨.slice (bl b3_2) 1 1, 67, 2, 1, [.slice (A) ((l).length) (c), I (0)]⟩]]) => ?_)
    refine O.val (v := .pointer (ofs (bl b3_2) (0))) rfl (Ru.assign rfl) rfl ?_
    refine O.nil ?_
    refine C.ret ?_
    refine P1 (v := .pointer (ofs (bl b3_2) (0))) rfl ?_
    exact ⟨b3_2, l, (by first | rfl | exact sl_congr (by first | omega | (simp; done) | (simp; omega)) | (simp; done)), (.inl rfl), (by omega), (hM3_2.pick [0] (by decide) rfl)⟩

theorem inRange_fn (a : Int) (b : Int) (c : Int) (w : World) :
    Does Try.prog 48 [I (a), I (b), I (c)] w (fun v w1 => v = .bool (decide (b ≤ a) && decide (a ≤ c)) ∧ Mem w w1 [] []) := by
  have hM : Mem w w [] [] := Mem.refl
  refine Does.enter1 Try.func48 rfl Try.results48 Try.ntmps48 rfl ?_
  refine C.seq ?_
  refine C.region ?_
  refine O.val (v := .bool (false)) rfl (Ru.assign rfl) rfl ?_
  refine O.nil ?_
  refine C.seq ?_
  refine C.region ?_
  refine O.val (v := I (b)) rfl (Ru.move rfl) rfl ?_
  refine O.val (v := I (a)) rfl (Ru.move rfl) rfl ?_
  refine O.val (v := .bool (decide (b ≤ a))) rfl (Ru.leq rfl rfl) rfl ?_
  refine O.val (v := .bool (decide (b ≤ a))) rfl (Ru.move rfl) rfl ?_
  refine O.partp 10 (b ≤ a) rfl (fun g10 => ?_) (fun g10 => ?_)
  · refine O.val (v := I (a)) rfl (Ru.move rfl) rfl ?_
    refine O.val (v := I (c)) rfl (Ru.move rfl) rfl ?_
    refine O.val (v := .bool (decide (a ≤ c))) rfl (Ru.leq rfl rfl) rfl ?_
    refine O.val (v := .bool (decide (a ≤ c))) rfl (Ru.pickT rfl rfl) rfl ?_
    refine O.val (v := .bool (decide (a ≤ c))) rfl (Ru.assign rfl) rfl ?_
    refine O.nil ?_
    refine C.ret ?_
    refine P1 (v := .bool (decide (a ≤ c))) rfl ?_
    exact ⟨(by simp [g10]), (Mem.none hM)⟩
  · refine O.pass rfl rfl rfl rfl rfl ?_
    refine O.pass rfl rfl rfl rfl rfl ?_
    refine O.pass rfl rfl rfl rfl rfl ?_
    refine O.val (v := .bool (false)) rfl (Ru.pickF rfl rfl) rfl ?_
    refine O.val (v := .bool (false)) rfl (Ru.assign rfl) rfl ?_
    refine O.nil ?_
    refine C.ret ?_
    refine P1 (v := .bool (false)) rfl ?_
    exact ⟨(by simp [g10]), (Mem.none hM)⟩

theorem isKey_fn (k : Int) (w : World) :
    Does Try.prog 47 [I (k)] w (fun v w1 => v = .bool (isKeyB k) ∧ Mem w w1 [] []) := by
  have hM : Mem w w [] [] := Mem.refl
  refine Does.enter1 Try.func47 rfl Try.results47 Try.ntmps47 rfl ?_
  refine C.seq ?_
  refine C.region ?_
  refine O.val (v := .bool (false)) rfl (Ru.assign rfl) rfl ?_
  refine O.nil ?_
  refine C.seq ?_
  refine C.region ?_
  refine O.val (v := I (k)) rfl (Ru.move rfl) rfl ?_
  refine O.val (v := .bool (decide (k ≥ 0))) rfl (Ru.geq rfl rfl) rfl ?_
  refine O.val (v := .bool (decide (k ≥ 0))) rfl (Ru.move rfl) rfl ?_
  refine O.partp 5 (k ≥ 0) rfl (fun g5 => ?_) (fun g5 => ?_)
  · refine O.val (v := I (k)) rfl (Ru.move rfl) rfl ?_
    refine O.val (v := .bool (decide (k ≤ 99))) rfl (Ru.leq rfl rfl) rfl ?_
    refine O.val (v := .bool (decide (k ≤ 99))) rfl (Ru.pickT rfl rfl) rfl ?_
    refine O.val (v := .bool (decide (k ≤ 99))) rfl (Ru.assign rfl) rfl ?_
    refine O.nil ?_
    refine C.ret ?_
    refine P1 (v := .bool (decide (k ≤ 99))) rfl ?_
    exact ⟨(by simp [isKeyB, g5]), (Mem.none hM)⟩
  · refine O.pass rfl rfl rfl rfl rfl ?_
    refine O.pass rfl rfl rfl rfl rfl ?_
    refine O.val (v := .bool (false)) rfl (Ru.pickF rfl rfl) rfl ?_
    refine O.val (v := .bool (false)) rfl (Ru.assign rfl) rfl ?_
    refine O.nil ?_
    refine C.ret ?_
    refine P1 (v := .bool (false)) rfl ?_
    exact ⟨(by simp [isKeyB, g5]), (Mem.none hM)⟩

theorem ValidKeys_fn (A : Option Addr) (c : Nat) (l : List Int) (w : World) (hA : Rd w A ((l).map I)) (hl : l.length ≤ 1048576) :
    Does Try.prog 27 [.slice (A) ((l).length) (c)] w (fun v w1 => v = .bool (validK l) ∧ Mem w w1 [] []) := by
  have hM : Mem w w [] [] := Mem.refl
  refine Does.enter1 Try.func27 rfl Try.results27 Try.ntmps27 rfl ?_
  refine C.seq ?_
  refine C.region ?_
  refine O.val (v := .bool (false)) rfl (Ru.assign rfl) rfl ?_
  refine O.nil ?_
  refine C.seq ?_
  refine C.seq ?_
  refine C.region ?_
  refine O.val (v := .slice (A) ((l).length) (c)) rfl (Ru.move rfl) rfl ?_
  refine O.val (v := I ((((l).length : Nat) : Int))) rfl (Ru.blenSlice Try.underlying26 rfl) rfl ?_
  refine O.val (v := I (0)) rfl (Ru.move rfl) rfl ?_
  refine O.nil ?_
  refine C.block ?_
  refine C.loop (ι := Nat) (fun k => ([(0, .slice (A) ((l).length) (c)), (5, .slice (A) ((l).length) (c)), (6, I ((((l).length : Nat) : Int))), (7, I (((k : Nat) : Int)))] : List (Nat × Value))) (fun k w_ => (k ≤ l.length) ∧ ((l.take k).all isKeyB = true) ∧ (asc (l.take k) = true) ∧ (Mem w w_ [] [])) (fun k => l.length - k) (0) (Has.cons rfl (Has.cons rfl (Has.cons rfl (Has.cons (I_congr (by first | rfl | omega | (simp; omega) | simp)) Has.nil)))) ⟨(Nat.zero_le _), (by (try dsimp only); simp), (by (try dsimp only); simp [asc]), (hM.pick [] (by decide) rfl)⟩ (fun k σ w_l2 hI => ?_)
  try dsimp only at hI
  obtain ⟨hi0_l2, hi1_l2, hi2_l2, hM_l2⟩ := hI
  refine C.seq ?_
  refine C.region ?_
  refine O.val (v := .bool (decide (((k : Nat) : Int) < (((l).length : Nat) : Int)))) rfl (Ru.lss rfl rfl) rfl ?_
  refine O.nil ?_
  refine C.seq ?_
  refine C.cond (p := ((k : Nat) : Int) < (((l).length : Nat) : Int)) rfl (fun c8 => ?_) (fun c8 => ?_)
  · refine C.skip ?_
    refine C.seq ?_
    refine C.block ?_
    refine C.seq ?_
    refine C.region ?_
    refine O.val (v := I (((k : Nat) : Int))) rfl (Ru.move rfl) rfl ?_
    have hx3_1 : k < (l).length := (by first | omega | (simp; omega))
    refine O.val (v := .pointer (ofs (A) (k * 1))) rfl (Ru.indexA (j := k) Try.underlying26 el3 rfl rfl (smm (hA.at hM_l2) hx3_1) (by omega) (by first | omega | (simp; omega))) rfl ?_
    refine O.val rfl (Ru.load1 el3 rfl (ldm (hA.at hM_l2) hx3_1)) rfl ?_
    refine O.val (v := I (((k : Nat) : Int))) rfl (Ru.assign rfl) rfl ?_
    refine O.val (v := I ((l)[k]'hx3_1)) rfl (Ru.assign rfl) rfl ?_
    refine O.nil ?_
    refine C.seq ?_
    refine C.seq ?_
    refine C.region ?_
    refine O.val (v := I ((l)[k]'hx3_1)) rfl (Ru.move rfl) rfl ?_
    refine O.callg [I ((l)[k]'hx3_1)] rfl en47 rfl rfl (isKey_fn ((l)[k]'hx3_1) w_l2 ) ?_
    rintro _ w4_1 ⟨rfl, hR4_1⟩
    have hM4_1 : Mem w w4_1 [] [] := Mem.call (Ma := []) hM_l2 hR4_1 rfl
    refine O.val (v := .bool (!(isKeyB ((l)[k]'hx3_1)))) rfl (Ru.not rfl) rfl ?_
    refine O.nil ?_
    refine C.condn (b := (isKeyB ((l)[k]'hx3_1))) rfl (fun c14 => ?_) (fun c14 => ?_)
    · refine C.seq ?_
      refine C.region ?_
      refine O.val (v := .bool (false)) rfl (Ru.assign rfl) rfl ?_
      refine O.nil ?_
      refine C.ret ?_
      refine P1 (v := .bool (false)) rfl ?_
      exact ⟨(by rw [validK_no1 hx3_1 c14]), (Mem.none hM4_1)⟩
    · refine C.skip ?_
      refine C.seq ?_
      refine C.region ?_
      refine O.val (v := I (((k : Nat) : Int))) rfl (Ru.move rfl) rfl ?_
      refine O.val (v := .bool (decide (((k : Nat) : Int) > 0))) rfl (Ru.gtr rfl rfl) rfl ?_
      refine O.val (v := .bool (decide (((k : Nat) : Int) > 0))) rfl (Ru.move rfl) rfl ?_
      refine O.partp 17 (((k : Nat) : Int) > 0) rfl (fun g17 => ?_) (fun g17 => ?_)
      · refine O.val (v := .slice (A) ((l).length) (c)) rfl (Ru.move rfl) rfl ?_
        refine O.val (v := I (((k : Nat) : Int))) rfl (Ru.move rfl) rfl ?_
        refine O.val (v := I ((((k : Nat) : Int) - 1))) rfl (Ru.sub rfl rfl (by omega)) rfl ?_
        have hx6_6 : k - 1 < (l).length := (by first | omega | (simp; omega))
        refine O.val (v := .pointer (ofs (A) ((k - 1) * 1))) rfl (Ru.indexA (j := k - 1) Try.underlying26 el3 rfl rfl (smm (hA.at hM4_1) hx6_6) (by omega) (by first | omega | (simp; omega))) rfl ?_
        refine O.val rfl (Ru.load1 el3 rfl (ldm (hA.at hM4_1) hx6_6)) rfl ?_
        refine O.val (v := I ((l)[k]'hx3_1)) rfl (Ru.move rfl) rfl ?_
        refine O.val (v := .bool (decide ((l)[k - 1]'hx6_6 ≥ (l)[k]'hx3_1))) rfl (Ru.geq rfl rfl) rfl ?_
        refine O.val (v := .bool (decide ((l)[k - 1]'hx6_6 ≥ (l)[k]'hx3_1))) rfl (Ru.pickT rfl rfl) rfl ?_
        refine O.nil ?_
        refine C.cond (p := (l)[k - 1]'hx6_6 ≥ (l)[k]'hx3_1) rfl (fun c25 => ?_) (fun c25 => ?_)
        · refine C.seq ?_
          refine C.region ?_
          refine O.val (v := .bool (false)) rfl (Ru.assign rfl) rfl ?_
          refine O.nil ?_
          refine C.ret ?_
          refine P1 (v := .bool (false)) rfl ?_
          exact ⟨(by rw [validK_no2 (by omega) hx3_1 (by omega)]), (Mem.none hM4_1)⟩
        · refine C.skip ?_
          refine C.region ?_
          refine O.val (v := I ((((k + 1) : Nat) : Int))) rfl (Ru.congr (v := I ((((k : Nat) : Int) + 1))) (v' := I ((((k + 1) : Nat) : Int))) (Ru.add rfl rfl (by omega)) (I_congr (by first | omega | simp))) rfl ?_
          refine O.val (v := I ((((k + 1) : Nat) : Int))) rfl (Ru.move rfl) rfl ?_
          refine O.nil ?_
          exact loopEnd (k + 1) (by (try dsimp only); omega) (Has.cons rfl (Has.cons rfl (Has.cons rfl (Has.cons (I_congr (by first | rfl | omega | (simp; omega) | simp)) Has.nil)))) ⟨(by (try dsimp only); omega), (all_step hi1_l2 hx3_1 c14), (asc_take hi2_l2 hx3_1 (fun h0 => by omega)), (hM4_1.pick [] (by decide) rfl)⟩
      · refine O.pass rfl rfl rfl rfl rfl ?_
        refine O.pass rfl rfl rfl rfl rfl ?_
        refine O.pass rfl rfl rfl rfl rfl ?_
        refine O.pass rfl rfl rfl rfl rfl ?_
        refine O.pass rfl rfl rfl rfl rfl ?_
        refine O.pass rfl rfl rfl rfl rfl ?_
        refine O.pass rfl rfl rfl rfl rfl ?_
        refine O.val (v := .bool (false)) rfl (Ru.pickF rfl rfl) rfl ?_
        refine O.nil ?_
        refine C.condF rfl ?_
        refine C.skip ?_
        refine C.region ?_
        refine O.val (v := I ((((k + 1) : Nat) : Int))) rfl (Ru.congr (v := I ((((k : Nat) : Int) + 1))) (v' := I ((((k + 1) : Nat) : Int))) (Ru.add rfl rfl (by omega)) (I_congr (by first | omega | simp))) rfl ?_
        refine O.val (v := I ((((k + 1) : Nat) : Int))) rfl (Ru.move rfl) rfl ?_
        refine O.nil ?_
        exact loopEnd (k + 1) (by (try dsimp only); omega) (Has.cons rfl (Has.cons rfl (Has.cons rfl (Has.cons (I_congr (by first | rfl | omega | (simp; omega) | simp)) Has.nil)))) ⟨(by (try dsimp only); omega), (all_step hi1_l2 hx3_1 c14), (asc_take hi2_l2 hx3_1 (fun h0 => by omega)), (hM4_1.pick [] (by decide) rfl)⟩
  · refine C.exit ?_
    refine C.seq ?_
    refine C.region ?_
    refine O.val (v := .bool (true)) rfl (Ru.assign rfl) rfl ?_
    refine O.nil ?_
    refine C.ret ?_
    refine P1 (v := .bool (true)) rfl ?_
    exact ⟨(by rw [validK_yes hi1_l2 hi2_l2 (by omega)]), (Mem.none hM_l2)⟩

theorem allIn_fn (A : Option Addr) (c : Nat) (l : List Int) (lo : Int) (hi : Int) (w : World) (hA : Rd w A ((l).map I)) (hl : l.length ≤ 1048576) :
    Does Try.prog 66 [.slice (A) ((l).length) (c), I (lo), I (hi)] w (fun v w1 => v = .bool (l.all (fun a => decide (lo ≤ a) && decide (a ≤ hi))) ∧ Mem w w1 [] []) := by
  have hM : Mem w w [] [] := Mem.refl
  refine Does.enter1 Try.func66 rfl Try.results66 Try.ntmps66 rfl ?_
  refine C.seq ?_
  refine C.region ?_
  refine O.val (v := .bool (false)) rfl (Ru.assign rfl) rfl ?_
  refine O.nil ?_
  refine C.seq ?_
  refine C.seq ?_
  refine C.region ?_
  refine O.val (v := I (0)) rfl (Ru.assign rfl) rfl ?_
  refine O.nil ?_
  refine C.block ?_
  refine C.loop (ι := Nat) (fun k => ([(0, .slice (A) ((l).length) (c)), (1, I (lo)), (2, I (hi)), (7, I (((k : Nat) : Int)))] : List (Nat × Value))) (fun k w_ => (k ≤ l.length) ∧ ((l.take k).all (fun a => decide (lo ≤ a) && decide (a ≤ hi)) = true) ∧ (Mem w w_ [] [])) (fun k => l.length - k) (0) (Has.cons rfl (Has.cons rfl (Has.cons rfl (Has.cons (I_congr (by first | rfl | omega | (simp; omega) | simp)) Has.nil)))) ⟨(Nat.zero_le _), (by (try dsimp only); simp), (hM.pick [] (by decide) rfl)⟩ (fun k σ w_l2 hI => ?_)
  try dsimp only at hI
  obtain ⟨hi0_l2, hi1_l2, hM_l2⟩ := hI
  refine C.seq ?_
  refine C.seq ?_
  refine C.region ?_
  refine O.val (v := I (((k : Nat) : Int))) rfl (Ru.move rfl) rfl ?_
  refine O.val (v := .slice (A) ((l).length) (c)) rfl (Ru.move rfl) rfl ?_
  refine O.val (v := I ((((l).length : Nat) : Int))) rfl (Ru.blenSlice Try.underlying26 rfl) rfl ?_
  refine O.val (v := .bool (decide (((k : Nat) : Int) < (((l).length : Nat) : Int)))) rfl (Ru.lss rfl rfl) rfl ?_
  refine O.nil ?_
  refine C.cond (p := ((k : Nat) : Int) < (((l).length : Nat) : Int)) rfl (fun c11 => ?_) (fun c11 => ?_)
  · refine C.skip ?_
    refine C.seq ?_
    refine C.block ?_
    refine C.seq ?_
    refine C.region ?_
    refine O.val (v := .slice (A) ((l).length) (c)) rfl (Ru.move rfl) rfl ?_
    refine O.val (v := I (((k : Nat) : Int))) rfl (Ru.move rfl) rfl ?_
    have hx4_2 : k < (l).length := (by first | omega | (simp; omega))
    refine O.val (v := .pointer (ofs (A) (k * 1))) rfl (Ru.indexA (j := k) Try.underlying26 el3 rfl rfl (smm (hA.at hM_l2) hx4_2) (by omega) (by first | omega | (simp; omega))) rfl ?_
    refine O.val rfl (Ru.load1 el3 rfl (ldm (hA.at hM_l2) hx4_2)) rfl ?_
    refine O.val (v := I (lo)) rfl (Ru.move rfl) rfl ?_
    refine O.val (v := I (hi)) rfl (Ru.move rfl) rfl ?_
    refine O.callg [I ((l)[k]'hx4_2), I (lo), I (hi)] rfl en48 rfl rfl (inRange_fn ((l)[k]'hx4_2) lo hi w_l2 ) ?_
    rintro _ w4_6 ⟨rfl, hR4_6⟩
    have hM4_6 : Mem w w4_6 [] [] := Mem.call (Ma := []) hM_l2 hR4_6 rfl
    refine O.val (v := .bool (!(decide (lo ≤ ((l)[k]'hx4_2)) && decide (((l)[k]'hx4_2) ≤ hi)))) rfl (Ru.not rfl) rfl ?_
    refine O.nil ?_
    refine C.condn (b := (decide (lo ≤ ((l)[k]'hx4_2)) && decide (((l)[k]'hx4_2) ≤ hi))) rfl (fun c21 => ?_) (fun c21 => ?_)
    · refine C.seq ?_
      refine C.region ?_
      refine O.val (v := .bool (false)) rfl (Ru.assign rfl) rfl ?_
      refine O.nil ?_
      refine C.ret ?_
      refine P1 (v := .bool (false)) rfl ?_
      exact ⟨(by rw [all_fail (p := fun a => decide (lo ≤ a) && decide (a ≤ hi)) hx4_2 c21]), (Mem.none hM4_6)⟩
    · refine C.skip ?_
      refine C.region ?_
      refine O.val (v := I (((k : Nat) : Int))) rfl (Ru.move rfl) rfl ?_
      refine O.val (v := I ((((k + 1) : Nat) : Int))) rfl (Ru.congr (v := I ((((k : Nat) : Int) + 1))) (v' := I ((((k + 1) : Nat) : Int))) (Ru.add rfl rfl (by omega)) (I_congr (by first | omega | simp))) rfl ?_
      refine O.val (v := I ((((k + 1) : Nat) : Int))) rfl (Ru.assign rfl) rfl ?_
      refine O.nil ?_
      exact loopEnd (k + 1) (by (try dsimp only); omega) (Has.cons rfl (Has.cons rfl (Has.cons rfl (Has.cons (I_congr (by first | rfl | omega | (simp; omega) | simp)) Has.nil)))) ⟨(by (try dsimp only); omega), (all_step hi1_l2 hx4_2 c21), (hM4_6.pick [] (by decide) rfl)⟩
  · refine C.exit ?_
    refine C.seq ?_
    refine C.region ?_
    refine O.val (v := .bool (true)) rfl (Ru.assign rfl) rfl ?_
    refine O.nil ?_
    refine C.ret ?_
    refine P1 (v := .bool (true)) rfl ?_
    exact ⟨(by rw [all_end hi1_l2 (by omega)]), (Mem.none hM_l2)⟩

theorem validKeys_fn (A : Option Addr) (c : Nat) (l : List Int) (w : World) (hA : Rd w A ((l).map I)) (hl : l.length ≤ 1048576) :
    Does Try.prog 65 [.slice (A) ((l).length) (c)] w (fun v w1 => v = .bool (validK l) ∧ Mem w w1 [] []) := by
  have hM : Mem w w [] [] := Mem.refl
  refine Does.enter1 Try.func65 rfl Try.results65 Try.ntmps65 rfl ?_
  refine C.seq ?_
  refine C.region ?_
  refine O.val (v := .bool (false)) rfl (Ru.assign rfl) rfl ?_
  refine O.nil ?_
  refine C.seq ?_
  refine C.seq ?_
  refine C.region ?_
  refine O.val (v := I (1)) rfl (Ru.assign rfl) rfl ?_
  refine O.nil ?_
  refine C.block ?_
  refine C.loop (ι := Nat) (fun k => ([(0, .slice (A) ((l).length) (c)), (3, I (((k : Nat) : Int)))] : List (Nat × Value))) (fun k w_ => (1 ≤ k ∧ k ≤ l.length + 1) ∧ (asc (l.take k) = true) ∧ (Mem w w_ [] [])) (fun k => l.length + 1 - k) (1) (Has.cons rfl (Has.cons (I_congr (by first | rfl | omega | (simp; omega) | simp)) Has.nil)) ⟨(by (try dsimp only); omega), (by (try dsimp only); cases l with | nil => rfl | cons a l => simp [asc]), (hM.pick [] (by decide) rfl)⟩ (fun k σ w_l2 hI => ?_)
  try dsimp only at hI
  obtain ⟨hi0_l2, hi1_l2, hM_l2⟩ := hI
  refine C.seq ?_
  refine C.seq ?_
  refine C.region ?_
  refine O.val (v := I (((k : Nat) : Int))) rfl (Ru.move rfl) rfl ?_
  refine O.val (v := .slice (A) ((l).length) (c)) rfl (Ru.move rfl) rfl ?_
  refine O.val (v := I ((((l).length : Nat) : Int))) rfl (Ru.blenSlice Try.underlying26 rfl) rfl ?_
  refine O.val (v := .bool (decide (((k : Nat) : Int) < (((l).length : Nat) : Int)))) rfl (Ru.lss rfl rfl) rfl ?_
  refine O.nil ?_
  refine C.cond (p := ((k : Nat) : Int) < (((l).length : Nat) : Int)) rfl (fun c7 => ?_) (fun c7 => ?_)
  · refine C.skip ?_
    refine C.seq ?_
    refine C.block ?_
    refine C.seq ?_
    refine C.draws (fun w2 => Mem w w2 [] []) mixed (by kernel_rfl) (hM_l2.ext (kdrawn _)) ?_
    refine QO.val (v := .slice (A) ((l).length) (c)) rfl (fun w2 hw2 => Ru.move rfl) rfl ?_
    refine QO.val (v := I (((k : Nat) : Int))) rfl (fun w2 hw2 => Ru.move rfl) rfl ?_
    have hx4_2 : k < (l).length := (by first | omega | (simp; omega))
    refine QO.val (v := .pointer (ofs (A) (k * 1))) rfl (fun w2 hw2 => Ru.indexA (j := k) Try.underlying26 el3 rfl rfl (smm (hA.at hw2) hx4_2) (by omega) (by first | omega | (simp; omega))) rfl ?_
    refine QO.val rfl (fun w2 hw2 => Ru.load1 el3 rfl (ldm (hA.at hw2) hx4_2)) rfl ?_
    refine QO.val (v := .slice (A) ((l).length) (c)) rfl (fun w2 hw2 => Ru.move rfl) rfl ?_
    refine QO.val (v := I (((k : Nat) : Int))) rfl (fun w2 hw2 => Ru.move rfl) rfl ?_
    refine QO.val (v := I ((((k : Nat) : Int) - 1))) rfl (fun w2 hw2 => Ru.sub rfl rfl (by omega)) rfl ?_
    have hx4_7 : k - 1 < (l).length := (by first | omega | (simp; omega))
    refine QO.val (v := .pointer (ofs (A) ((k - 1) * 1))) rfl (fun w2 hw2 => Ru.indexA (j := k - 1) Try.underlying26 el3 rfl rfl (smm (hA.at hw2) hx4_7) (by omega) (by first | omega | (simp; omega))) rfl ?_
    refine QO.val rfl (fun w2 hw2 => Ru.load1 el3 rfl (ldm (hA.at hw2) hx4_7)) rfl ?_
    refine QO.val (v := .bool (decide ((l)[k]'hx4_2 ≤ (l)[k - 1]'hx4_7))) rfl (fun w2 hw2 => Ru.leq rfl rfl) rfl ?_
    refine QO.nil ?_
    intro w4d hM4d
    refine C.cond (p := (l)[k]'hx4_2 ≤ (l)[k - 1]'hx4_7) rfl (fun c19 => ?_) (fun c19 => ?_)
    · refine C.seq ?_
      refine C.region ?_
      refine O.val (v := .bool (false)) rfl (Ru.assign rfl) rfl ?_
      refine O.nil ?_
      refine C.ret ?_
      refine P1 (v := .bool (false)) rfl ?_
      exact ⟨(by rw [validK_no2 (by omega) hx4_2 (by omega)]), (Mem.none hM4d)⟩
    · refine C.skip ?_
      refine C.region ?_
      refine O.val (v := I (((k : Nat) : Int))) rfl (Ru.move rfl) rfl ?_
      refine O.val (v := I ((((k + 1) : Nat) : Int))) rfl (Ru.congr (v := I ((((k : Nat) : Int) + 1))) (v' := I ((((k + 1) : Nat) : Int))) (Ru.add rfl rfl (by omega)) (I_congr (by first | omega | simp))) rfl ?_
      refine O.val (v := I ((((k + 1) : Nat) : Int))) rfl (Ru.assign rfl) rfl ?_
      refine O.nil ?_
      exact loopEnd (k + 1) (by (try dsimp only); omega) (Has.cons rfl (Has.cons (I_congr (by first | rfl | omega | (simp; omega) | simp)) Has.nil)) ⟨(by (try dsimp only); omega), (asc_take hi1_l2 hx4_2 (fun h0 => by omega)), (hM4d.pick [] (by decide) rfl)⟩
  · refine C.exit ?_
    refine C.seq ?_
    refine C.region ?_
    refine O.val (v := .slice (A) ((l).length) (c)) rfl (Ru.move rfl) rfl ?_
    refine O.callg [.slice (A) ((l).length) (c), I (0), I (99)] rfl en66 rfl rfl (allIn_fn A c l 0 99 w_l2 (hA.at hM_l2) (by first | omega | assumption | (simp; omega) | simp | (intros; omega))) ?_
    rintro _ w6_1 ⟨rfl, hR6_1⟩
    have hM6_1 : Mem w w6_1 [] [] := Mem.call (Ma := []) hM_l2 hR6_1 rfl
    refine O.val (v := .bool (l.all (fun a => decide (0 ≤ a) && decide (a ≤ 99)))) rfl (Ru.assign rfl) rfl ?_
    refine O.nil ?_
    refine C.ret ?_
    refine P1 (v := .bool (l.all (fun a => decide (0 ≤ a) && decide (a ≤ 99)))) rfl ?_
    exact ⟨(by rw [validK, show asc l = true from by rwa [take_all (by omega)] at hi1_l2, Bool.and_true]; rfl), (Mem.none hM6_1)⟩

theorem isIn_fn (A : Option Addr) (c : Nat) (l : List Int) (n : Int) (w : World) (hA : Rd w A ((l).map I)) (hl : l.length ≤ 1048576) :
    Does Try.prog 60 [.slice (A) ((l).length) (c), I (n)] w (fun v w1 => v = .bool (decide (n ∈ l)) ∧ Mem w w1 [] []) := by
  have hM : Mem w w [] [] := Mem.refl
  refine Does.enter1 Try.func60 rfl Try.results60 Try.ntmps60 rfl ?_
  refine C.seq ?_
  refine C.region ?_
  refine O.val (v := .bool (false)) rfl (Ru.assign rfl) rfl ?_
  refine O.nil ?_
  refine C.seq ?_
  refine C.seq ?_
  refine C.region ?_
  refine O.val (v := I (0)) rfl (Ru.assign rfl) rfl ?_
  refine O.nil ?_
  refine C.block ?_
  refine C.loop (ι := Nat) (fun k => ([(0, .slice (A) ((l).length) (c)), (1, I (n)), (5, I (((k : Nat) : Int)))] : List (Nat × Value))) (fun k w_ => (k ≤ l.length) ∧ (∀ x ∈ l.take k, x ≠ n) ∧ (Mem w w_ [] [])) (fun k => l.length - k) (0) (Has.cons rfl (Has.cons rfl (Has.cons (I_congr (by first | rfl | omega | (simp; omega) | simp)) Has.nil))) ⟨(Nat.zero_le _), (by (try dsimp only); simp), (hM.pick [] (by decide) rfl)⟩ (fun k σ w_l2 hI => ?_)
  try dsimp only at hI
  obtain ⟨hi0_l2, hi1_l2, hM_l2⟩ := hI
  refine C.seq ?_
  refine C.seq ?_
  refine C.region ?_
  refine O.val (v := I (((k : Nat) : Int))) rfl (Ru.move rfl) rfl ?_
  refine O.val (v := .slice (A) ((l).length) (c)) rfl (Ru.move rfl) rfl ?_
  refine O.val (v := I ((((l).length : Nat) : Int))) rfl (Ru.blenSlice Try.underlying26 rfl) rfl ?_
  refine O.val (v := .bool (decide (((k : Nat) : Int) < (((l).length : Nat) : Int)))) rfl (Ru.lss rfl rfl) rfl ?_
  refine O.nil ?_
  refine C.cond (p := ((k : Nat) : Int) < (((l).length : Nat) : Int)) rfl (fun c9 => ?_) (fun c9 => ?_)
  · refine C.skip ?_
    refine C.seq ?_
    refine C.block ?_
    refine C.seq ?_
    refine C.region ?_
    refine O.val (v := .slice (A) ((l).length) (c)) rfl (Ru.move rfl) rfl ?_
    refine O.val (v := I (((k : Nat) : Int))) rfl (Ru.move rfl) rfl ?_
    have hx4_2 : k < (l).length := (by first | omega | (simp; omega))
    refine O.val (v := .pointer (ofs (A) (k * 1))) rfl (Ru.indexA (j := k) Try.underlying26 el3 rfl rfl (smm (hA.at hM_l2) hx4_2) (by omega) (by first | omega | (simp; omega))) rfl ?_
    refine O.val rfl (Ru.load1 el3 rfl (ldm (hA.at hM_l2) hx4_2)) rfl ?_
    refine O.val (v := I (n)) rfl (Ru.move rfl) rfl ?_
    refine O.val (v := .bool (decide ((l)[k]'hx4_2 = n))) rfl (Ru.eql rfl rfl) rfl ?_
    refine O.nil ?_
    refine C.cond (p := (l)[k]'hx4_2 = n) rfl (fun c17 => ?_) (fun c17 => ?_)
    · refine C.seq ?_
      refine C.region ?_
      refine O.val (v := .bool (true)) rfl (Ru.assign rfl) rfl ?_
      refine O.nil ?_
      refine C.ret ?_
      refine P1 (v := .bool (true)) rfl ?_
      exact ⟨(by rw [decide_eq_true (by rw [← c17]; exact List.getElem_mem hx4_2)]), (Mem.none hM_l2)⟩
    · refine C.skip ?_
      refine C.region ?_
      refine O.val (v := I (((k : Nat) : Int))) rfl (Ru.move rfl) rfl ?_
      refine O.val (v := I ((((k + 1) : Nat) : Int))) rfl (Ru.congr (v := I ((((k : Nat) : Int) + 1))) (v' := I ((((k + 1) : Nat) : Int))) (Ru.add rfl rfl (by omega)) (I_congr (by first | omega | simp))) rfl ?_
      refine O.val (v := I ((((k + 1) : Nat) : Int))) rfl (Ru.assign rfl) rfl ?_
      refine O.nil ?_
      exact loopEnd (k + 1) (by (try dsimp only); omega) (Has.cons rfl (Has.cons rfl (Has.cons (I_congr (by first | rfl | omega | (simp; omega) | simp)) Has.nil))) ⟨(by (try dsimp only); omega), (mem_step hi1_l2 hx4_2 c17), (hM_l2.pick [] (by decide) rfl)⟩
  · refine C.exit ?_
    refine C.seq ?_
    refine C.region ?_
    refine O.val (v := .bool (false)) rfl (Ru.assign rfl) rfl ?_
    refine O.nil ?_
    refine C.ret ?_
    refine P1 (v := .bool (false)) rfl ?_
    exact ⟨(by rw [mem_end hi1_l2 (by omega)]), (Mem.none hM_l2)⟩

theorem sbelow_fn (A : Option Addr) (c : Nat) (l : List Int) (k : Int) (w : World) (hA : Rd w A ((l).map I)) (hl : l.length ≤ 1048576) :
    Does Try.prog 71 [.slice (A) ((l).length) (c), I (k)] w (fun v w1 => v = I ((below l k : Int)) ∧ Mem w w1 [] []) := by
  have hM : Mem w w [] [] := Mem.refl
  refine Does.enter1 Try.func71 rfl Try.results71 Try.ntmps71 rfl ?_
  refine C.seq ?_
  refine C.region ?_
  refine O.val (v := I (0)) rfl (Ru.assign rfl) rfl ?_
  refine O.nil ?_
  refine C.seq ?_
  refine C.region ?_
  refine O.val (v := I (0)) rfl (Ru.assign rfl) rfl ?_
  refine O.nil ?_
  refine C.seq ?_
  refine C.block ?_
  refine C.loop (ι := Nat) (fun n => ([(0, .slice (A) ((l).length) (c)), (1, I (k)), (5, I (((n : Nat) : Int)))] : List (Nat × Value))) (fun n w_ => (n ≤ below l k) ∧ (Mem w w_ [] [])) (fun n => l.length - n) (0) (Has.cons rfl (Has.cons rfl (Has.cons (I_congr (by first | rfl | omega | (simp; omega) | simp)) Has.nil))) ⟨(Nat.zero_le _), (hM.pick [] (by decide) rfl)⟩ (fun n σ w_l2 hI => ?_)
  try dsimp only at hI
  obtain ⟨hi0_l2, hM_l2⟩ := hI
  refine C.seq ?_
  refine C.seq ?_
  refine C.region ?_
  refine O.val (v := I (((n : Nat) : Int))) rfl (Ru.move rfl) rfl ?_
  refine O.val (v := .slice (A) ((l).length) (c)) rfl (Ru.move rfl) rfl ?_
  refine O.val (v := I ((((l).length : Nat) : Int))) rfl (Ru.blenSlice Try.underlying26 rfl) rfl ?_
  refine O.val (v := .bool (decide (((n : Nat) : Int) < (((l).length : Nat) : Int)))) rfl (Ru.lss rfl rfl) rfl ?_
  refine O.val (v := .bool (decide (((n : Nat) : Int) < (((l).length : Nat) : Int)))) rfl (Ru.move rfl) rfl ?_
  refine O.partp 10 (((n : Nat) : Int) < (((l).length : Nat) : Int)) rfl (fun g10 => ?_) (fun g10 => ?_)
  · refine O.val (v := .slice (A) ((l).length) (c)) rfl (Ru.move rfl) rfl ?_
    refine O.val (v := I (((n : Nat) : Int))) rfl (Ru.move rfl) rfl ?_
    have hx2_7 : n < (l).length := (by first | omega | (simp; omega))
    refine O.val (v := .pointer (ofs (A) (n * 1))) rfl (Ru.indexA (j := n) Try.underlying26 el3 rfl rfl (smm (hA.at hM_l2) hx2_7) (by omega) (by first | omega | (simp; omega))) rfl ?_
    refine O.val rfl (Ru.load1 el3 rfl (ldm (hA.at hM_l2) hx2_7)) rfl ?_
    refine O.val (v := I (k)) rfl (Ru.move rfl) rfl ?_
    refine O.val (v := .bool (decide ((l)[n]'hx2_7 < k))) rfl (Ru.lss rfl rfl) rfl ?_
    refine O.val (v := .bool (decide ((l)[n]'hx2_7 < k))) rfl (Ru.pickT rfl rfl) rfl ?_
    refine O.nil ?_
    refine C.cond (p := (l)[n]'hx2_7 < k) rfl (fun c17 => ?_) (fun c17 => ?_)
    · refine C.skip ?_
      refine C.block ?_
      refine C.region ?_
      refine O.val (v := I (((n : Nat) : Int))) rfl (Ru.move rfl) rfl ?_
      refine O.val (v := I ((((n + 1) : Nat) : Int))) rfl (Ru.congr (v := I ((((n : Nat) : Int) + 1))) (v' := I ((((n + 1) : Nat) : Int))) (Ru.add rfl rfl (by omega)) (I_congr (by first | omega | simp))) rfl ?_
      refine O.val (v := I ((((n + 1) : Nat) : Int))) rfl (Ru.assign rfl) rfl ?_
      refine O.nil ?_
      exact loopEnd (n + 1) (by (try dsimp only); omega) (Has.cons rfl (Has.cons rfl (Has.cons (I_congr (by first | rfl | omega | (simp; omega) | simp)) Has.nil))) ⟨(below_step hi0_l2 hx2_7 c17), (hM_l2.pick [] (by decide) rfl)⟩
    · refine C.exit ?_
      refine C.seq ?_
      refine C.region ?_
      refine O.val (v := I (((n : Nat) : Int))) rfl (Ru.move rfl) rfl ?_
      refine O.val (v := I (((n : Nat) : Int))) rfl (Ru.assign rfl) rfl ?_
      refine O.nil ?_
      refine C.ret ?_
      refine P1 (v := I (((n : Nat) : Int))) rfl ?_
      exact ⟨(I_congr (by rw [below_end hi0_l2 (by first | exact .inl (by omega) | exact .inr ⟨hx2_7, by omega⟩)])), (Mem.none hM_l2)⟩
  · refine O.pass rfl rfl rfl rfl rfl ?_
    refine O.pass rfl rfl rfl rfl rfl ?_
    refine O.pass rfl rfl rfl rfl rfl ?_
    refine O.pass rfl rfl rfl rfl rfl ?_
    refine O.pass rfl rfl rfl rfl rfl ?_
    refine O.pass rfl rfl rfl rfl rfl ?_
    refine O.val (v := .bool (false)) rfl (Ru.pickF rfl rfl) rfl ?_
    refine O.nil ?_
    refine C.condF rfl ?_
    refine C.exit ?_
    refine C.seq ?_
    refine C.region ?_
    refine O.val (v := I (((n : Nat) : Int))) rfl (Ru.move rfl) rfl ?_
    refine O.val (v := I (((n : Nat) : Int))) rfl (Ru.assign rfl) rfl ?_
    refine O.nil ?_
    refine C.ret ?_
    refine P1 (v := I (((n : Nat) : Int))) rfl ?_
    exact ⟨(I_congr (by rw [below_end hi0_l2 (by first | exact .inl (by omega) | exact .inr ⟨hx2_7, by omega⟩)])), (Mem.none hM_l2)⟩

theorem scopyInts_fn (A : Option Addr) (c : Nat) (l : List Int) (w : World) (hA : Rd w A ((l).map I)) (hl : l.length ≤ 1048576) :
    Does Try.prog 52 [.slice (A) ((l).length) (c)] w (fun v w1 => ∃ (A1 : Option Addr) (c1 : Nat), v = .slice (A1) ((l).length) (c1) ∧ Mem w w1 [] [[⟨.slice (A1) ((l).length) (c1), 3, 1, ((l).length), (l).map I⟩]]) := by
  have hM : Mem w w [] [] := Mem.refl
  refine Does.enter1 Try.func52 rfl Try.results52 Try.ntmps52 rfl ?_
  refine C.seq ?_
  refine C.region ?_
  refine O.val (v := .slice (none) (0) (0)) rfl (Ru.assign rfl) rfl ?_
  refine O.nil ?_
  refine C.seq ?_
  refine C.region ?_
  refine O.mlit (sz := 1) (cs := []) hM rfl Try.underlying26 el3 rfl rfl rfl (by kernel_rfl) (by kernel_rfl) rfl rfl (fun w1_0 b1_0 hb1_0 (hM1_0 : Mem w w1_0 [] [[⟨.slice (bl b1_0) (0) (0), 3, 1, 0, ([]).map I⟩]]) => ?_)
  refine O.val (v := .slice (A) ((l).length) (c)) rfl (Ru.move rfl) rfl ?_
  refine O.mappend (sz := 1) (news := (l).map I) (m1 := (l).length) (xs1 := (l).map I) (M' := fun A1_2 c1_2 => [[⟨.slice (A1_2) ((l).length) (c1_2), 3, 1, ((l).length), (l).map I⟩]]) 0 0 hM1_0 rfl rfl rfl Try.underlying26 el3 ⟨rfl, by decide⟩ rfl rfl rfl (hA.at hM1_0) (by first | (simp; done) | (simp; omega)) (all_map_one (fun _ => rfl) _) (by first | omega | (simp; omega)) (by first | omega | (simp; omega)) (by first | (simp; done) | (simp; omega)) (by simp) (fun _ _ => rfl) (fun w1_2 A1_2 c1_2 hc1_2 hM1_2 => ?_)
  try dsimp only at hM1_2
  refine O.val (v := .slice (A1_2) ((l).length) (c1_2)) rfl (Ru.assign rfl) rfl ?_
  refine O.nil ?_
  refine C.ret ?_
  refine P1 (v := .slice (A1_2) ((l).length) (c1_2)) rfl ?_
  exact ⟨A1_2, c1_2, (by first | rfl | exact sl_congr (by first | omega | (simp; done) | (simp; omega)) | (simp; done)), (hM1_2.pick [0] (by decide) rfl)⟩

theorem CloneInt_fn (A : Option Addr) (c : Nat) (l : List Int) (w : World) (hA : Rd w A ((l).map I)) (hl : l.length ≤ 1048576) :
    Does Try.prog 55 [.slice (A) ((l).length) (c)] w (fun v w1 => ∃ (A1 : Option Addr) (c1 : Nat), v = .slice (A1) ((l).length) (c1) ∧ Mem w w1 [] [[⟨.slice (A1) ((l).length) (c1), 3, 1, ((l).length), (l).map I⟩]]) := by
  have hM : Mem w w [] [] := Mem.refl
  refine Does.enter1 Try.func55 rfl Try.results55 Try.ntmps55 rfl ?_
  refine C.seq ?_
  refine C.region ?_
  refine O.val (v := .slice (none) (0) (0)) rfl (Ru.assign rfl) rfl ?_
  refine O.nil ?_
  refine C.seq ?_
  refine C.seq ?_
  refine C.region ?_
  refine O.val (v := .slice (A) ((l).length) (c)) rfl (Ru.move rfl) rfl ?_
  refine O.val (v := .bool ((A).isNone)) rfl (Ru.slnil Try.underlying26 rfl rfl) rfl ?_
  refine O.nil ?_
  refine C.condb (t := (A).isNone) rfl (fun c4 => ?_) (fun c4 => ?_)
  · refine C.seq ?_
    refine C.region ?_
    refine O.val (v := .slice (none) (0) (0)) rfl (Ru.assign rfl) rfl ?_
    refine O.nil ?_
    refine C.ret ?_
    refine P1 (v := .slice (none) (0) (0)) rfl ?_
    have hl0 := isNone_map hA c4
    have hMn1 : Mem w w [] [[⟨.slice (none) (0) (0), 3, 1, 0, ([]).map I⟩]] := Mem.addNil hM
    have hq2 : ([] : List Int) = l := hl0.symm
    have hMn2 : Mem w w [] [[⟨.slice (none) ((l).length) (0), 3, 1, ((l).length), (l).map I⟩]] := hMn1.relen 0 (n' := (l).length) (xs' := (l).map I) rfl (by first | rfl | exact congrArg List.length hq2 | (have hqq := congrArg List.length hq2; first | omega | (simp at hqq ⊢; omega)) | (simp; done) | (simp; omega)) (congrArg (fun z_ => (z_).map I) hq2) rfl
    exact ⟨none, 0, (sl_congr (by rw [hl0]; rfl)), (hMn2.pick [0] (by decide) rfl)⟩
  · refine C.skip ?_
    refine C.seq ?_
    refine C.region ?_
    refine O.mlit (sz := 1) (cs := []) hM rfl Try.underlying26 el3 rfl rfl rfl (by kernel_rfl) (by kernel_rfl) rfl rfl (fun w3_0 b3_0 hb3_0 (hM3_0 : Mem w w3_0 [] [[⟨.slice (bl b3_0) (0) (0), 3, 1, 0, ([]).map I⟩]]) => ?_)
    refine O.val (v := .slice (A) ((l).length) (c)) rfl (Ru.move rfl) rfl ?_
    refine O.mappend (sz := 1) (news := (l).map I) (m1 := (l).length) (xs1 := (l).map I) (M' := fun A3_2 c3_2 => [[⟨.slice (A3_2) ((l).length) (c3_2), 3, 1, ((l).length), (l).map I⟩]]) 0 0 hM3_0 rfl rfl rfl Try.underlying26 el3 ⟨rfl, by decide⟩ rfl rfl rfl (hA.at hM3_0) (by first | (simp; done) | (simp; omega)) (all_map_one (fun _ => rfl) _) (by first | omega | (simp; omega)) (by first | omega | (simp; omega)) (by first | (simp; done) | (simp; omega)) (by simp) (fun _ _ => rfl) (fun w3_2 A3_2 c3_2 hc3_2 hM3_2 => ?_)
    try dsimp only at hM3_2
    refine O.val (v := .slice (A3_2) ((l).length) (c3_2)) rfl (Ru.assign rfl) rfl ?_
    refine O.nil ?_
    refine C.ret ?_
    refine P1 (v := .slice (A3_2) ((l).length) (c3_2)) rfl ?_
    exact ⟨A3_2, c3_2, (by first | rfl | exact sl_congr (by first | omega | (simp; done) | (simp; omega)) | (simp; done)), (hM3_2.pick [0] (by decide) rfl)⟩

theorem InsertInt_fn (A : Option Addr) (c : Nat) (l : List Int) (i : Nat) (V : Option Addr) (vc : Nat) (vs : List Int) (w : World) (hM : Mem w w [(Value.slice (A) ((l).length) (c)).ownBlock, (Value.slice (V) ((vs).length) (vc)).ownBlock] [[⟨.slice (A) ((l).length) (c), 3, 1, ((l).length), (l).map I⟩], [⟨.slice (V) ((vs).length) (vc), 3, 1, ((vs).length), (vs).map I⟩]]) (hin : i ≤ l.length) (hl : l.length ≤ 1048576) (hm : 0 < vs.length) (hv : vs.length ≤ 1000) :
    Does Try.prog 63 [.slice (A) ((l).length) (c), I (((i : Nat) : Int)), .slice (V) ((vs).length) (vc)] w (fun v w1 => ∃ (A1 : Option Addr) (c1 : Nat), v = .slice (A1) ((l.take i ++ (vs ++ l.drop i)).length) (c1) ∧ Mem w w1 [(Value.slice (A) ((l).length) (c)).ownBlock, (Value.slice (V) ((vs).length) (vc)).ownBlock] [[⟨.slice (A1) ((l.take i ++ (vs ++ l.drop i)).length) (c1), 3, 1, ((l.take i ++ (vs ++ l.drop i)).length), (l.take i ++ (vs ++ l.drop i)).map I⟩]]) := by
  have hXl : ((l).map I).length = l.length * 1 := (by simp)
  have hVl : ((vs).map I).length = vs.length * 1 := (by simp)
  have hXt : (l.take i).map I = ((l).map I).take (i * 1) := (by rw [List.map_take, Nat.mul_one])
  have hXd : (l.drop i).map I = ((l).map I).drop (i * 1) := (by rw [List.map_drop, Nat.mul_one])
  have hXdl : ((l.drop i).map I).length = (l.length - i) * 1 := by rw [hXd, List.length_drop, hXl, Nat.sub_mul]
  have hXtl : ((l.take i).map I).length = i * 1 := by rw [hXt, List.length_take, hXl]; omega
  have hres : (l.take i ++ (vs ++ l.drop i)).map I = ((l).map I).take (i * 1) ++ ((vs).map I ++ ((l).map I).drop (i * 1)) := by rw [List.map_append, List.map_append, hXt, hXd]
  have hZl : (zer [.int .i64 0] (vs.length + l.length - i)).length = (vs.length + l.length - i) * 1 := by rw [zer_length]; rfl
  refine Does.enter1 Try.func63 rfl Try.results63 Try.ntmps63 rfl ?_
  refine C.seq ?_
  refine C.region ?_
  refine O.val (v := .slice (none) (0) (0)) rfl (Ru.assign rfl) rfl ?_
  refine O.nil ?_
  refine C.seq ?_
  refine C.region ?_
  refine O.val (v := .slice (A) ((l).length) (c)) rfl (Ru.move rfl) rfl ?_
  refine O.val (v := I (((i : Nat) : Int))) rfl (Ru.move rfl) rfl ?_
  have hcp1_2 := hM.cap 0 rfl
  refine O.val (v := .slice (if c = i then A else ofs (A) (i * 1)) (((l).drop (i)).length) (c - i)) rfl (Ru.congr (v := .slice (if c = i then A else ofs (A) (i * 1)) (((l).length) - i) (c - i)) (v' := .slice (if c = i then A else ofs (A) (i * 1)) (((l).drop (i)).length) (c - i)) (Ru.lsliceFrom (l := i) Try.underlying26 el3 rfl rfl (by omega) (by omega)) (sl_congr (by first | rfl | (simp; done) | omega | (simp; omega)))) rfl ?_
  refine O.nil ?_
  refine C.seq ?_
  refine C.region ?_
  refine O.val (v := .slice (V) ((vs).length) (vc)) rfl (Ru.move rfl) rfl ?_
  refine O.val (v := I ((((vs).length : Nat) : Int))) rfl (Ru.blenSlice Try.underlying26 rfl) rfl ?_
  refine O.val (v := I ((((vs).length : Nat) : Int))) rfl (Ru.assign rfl) rfl ?_
  refine O.nil ?_
  refine C.seq ?_
  refine C.seq ?_
  refine C.region ?_
  refine O.val (v := I ((((vs).length : Nat) : Int))) rfl (Ru.move rfl) rfl ?_
  refine O.val (v := .bool (decide ((((vs).length : Nat) : Int) = 0))) rfl (Ru.eql rfl rfl) rfl ?_
  refine O.nil ?_
  refine C.cond (p := (((vs).length : Nat) : Int) = 0) rfl (fun c16 => ?_) (fun c16 => ?_)
  · exfalso; omega
  · refine C.skip ?_
    refine C.seq ?_
    refine C.region ?_
    refine O.val (v := .slice (A) ((l).length) (c)) rfl (Ru.move rfl) rfl ?_
    refine O.val (v := I ((((l).length : Nat) : Int))) rfl (Ru.blenSlice Try.underlying26 rfl) rfl ?_
    refine O.val (v := I ((((l).length : Nat) : Int))) rfl (Ru.assign rfl) rfl ?_
    refine O.nil ?_
    refine C.seq ?_
    refine C.seq ?_
    refine C.region ?_
    refine O.val (v := I (((i : Nat) : Int))) rfl (Ru.move rfl) rfl ?_
    refine O.val (v := I ((((l).length : Nat) : Int))) rfl (Ru.move rfl) rfl ?_
    refine O.val (v := .bool (decide (((i : Nat) : Int) = (((l).length : Nat) : Int)))) rfl (Ru.eql rfl rfl) rfl ?_
    refine O.nil ?_
    refine C.cond (p := ((i : Nat) : Int) = (((l).length : Nat) : Int)) rfl (fun c22 => ?_) (fun c22 => ?_)
    · refine C.seq ?_
      refine C.region ?_
      refine O.val (v := .slice (A) ((l).length) (c)) rfl (Ru.move rfl) rfl ?_
      refine O.val (v := .slice (V) ((vs).length) (vc)) rfl (Ru.move rfl) rfl ?_
      refine O.mappend (sz := 1) (news := (vs).map I) (m1 := (l ++ vs).length) (xs1 := (l ++ vs).map I) (M' := fun A7_2 c7_2 => [[⟨.slice (A7_2) ((l ++ vs).length) (c7_2), 3, 1, ((l ++ vs).length), (l ++ vs).map I⟩], [⟨.slice (V) ((vs).length) (vc), 3, 1, ((vs).length), (vs).map I⟩]]) 0 0 hM rfl rfl rfl Try.underlying26 el3 ⟨rfl, by decide⟩ rfl rfl rfl (hM.rd 1 rfl) (by first | (simp; done) | (simp; omega)) (all_map_one (fun _ => rfl) _) (by first | omega | (simp; omega)) (by first | omega | (simp; omega)) (by first | (simp; done) | (simp; omega)) (by simp) (fun _ _ => rfl) (fun w7_2 A7_2 c7_2 hc7_2 hM7_2 => ?_)
      try dsimp only at hM7_2
      refine O.val (v := .slice (A7_2) ((l ++ vs).length) (c7_2)) rfl (Ru.assign rfl) rfl ?_
      refine O.nil ?_
      refine C.ret ?_
      refine P1 (v := .slice (A7_2) ((l ++ vs).length) (c7_2)) rfl ?_
      have hMe : Mem w w7_2 [(Value.slice (A) ((l).length) (c)).ownBlock, (Value.slice (V) ((vs).length) (vc)).ownBlock] [[⟨.slice (A7_2) ((l.take i ++ (vs ++ l.drop i)).length) (c7_2), 3, 1, ((l.take i ++ (vs ++ l.drop i)).length), (l.take i ++ (vs ++ l.drop i)).map I⟩], [⟨.slice (V) ((vs).length) (vc), 3, 1, ((vs).length), (vs).map I⟩]] := hM7_2.relen 0 (n' := (l.take i ++ (vs ++ l.drop i)).length) (xs' := (l.take i ++ (vs ++ l.drop i)).map I) rfl (by simp; omega) (by congr 1; rw [List.take_of_length_le (by omega), List.drop_of_length_le (by omega), List.append_nil]) rfl
      exact ⟨A7_2, c7_2, sl_congr (by simp; omega), hMe.pick [0] (by decide) rfl⟩
    · refine C.skip ?_
      refine C.seq ?_
      refine C.seq ?_
      refine C.region ?_
      refine O.val (v := I ((((l).length : Nat) : Int))) rfl (Ru.move rfl) rfl ?_
      refine O.val (v := I ((((vs).length : Nat) : Int))) rfl (Ru.move rfl) rfl ?_
      refine O.val (v := I (((((l).length + (vs).length) : Nat) : Int))) rfl (Ru.congr (v := I (((((l).length : Nat) : Int) + (((vs).length : Nat) : Int)))) (v' := I (((((l).length + (vs).length) : Nat) : Int))) (Ru.add rfl rfl (by omega)) (I_congr (by first | omega | simp))) rfl ?_
      refine O.val (v := .slice (A) ((l).length) (c)) rfl (Ru.move rfl) rfl ?_
      refine O.val (v := I (((c : Nat) : Int))) rfl (Ru.bcap Try.underlying26 rfl) rfl ?_
      refine O.val (v := .bool (decide (((((l).length + (vs).length) : Nat) : Int) > ((c : Nat) : Int)))) rfl (Ru.gtr rfl rfl) rfl ?_
      refine O.nil ?_
      refine C.cond (p := ((((l).length + (vs).length) : Nat) : Int) > ((c : Nat) : Int)) rfl (fun c31 => ?_) (fun c31 => ?_)
      · refine C.seq ?_
        refine C.region ?_
        refine O.val (v := .slice (A) ((l).length) (c)) rfl (Ru.move rfl) rfl ?_
        refine O.val (v := I (((i : Nat) : Int))) rfl (Ru.move rfl) rfl ?_
        have hcp9_2 := hM.cap 0 rfl
        refine O.val (v := .slice (A) (i) (c)) rfl (Ru.congr (v := .slice (A) (i) (c)) (v' := .slice (A) (i) (c)) (Ru.lsliceTo (h := i) Try.underlying26 el3 rfl rfl (by omega) (by omega)) (rfl)) rfl ?_
        refine O.val (v := I ((((l).length : Nat) : Int))) rfl (Ru.move rfl) rfl ?_
        refine O.val (v := I ((((vs).length : Nat) : Int))) rfl (Ru.move rfl) rfl ?_
        refine O.val (v := I (((((l).length + (vs).length) : Nat) : Int))) rfl (Ru.congr (v := I (((((l).length : Nat) : Int) + (((vs).length : Nat) : Int)))) (v' := I (((((l).length + (vs).length) : Nat) : Int))) (Ru.add rfl rfl (by omega)) (I_congr (by first | omega | simp))) rfl ?_
        refine O.val (v := I (((i : Nat) : Int))) rfl (Ru.move rfl) rfl ?_
        refine O.val (v := I ((((((l).length + (vs).length) : Nat) : Int) - ((i : Nat) : Int)))) rfl (Ru.sub rfl rfl (by omega)) rfl ?_
        have hXt' := (rd_take1 (k := i) (hM.rd 0 rfl))
        refine O.mgrow (A := A) (c := c) (k := i) (m := vs.length + l.length - i) (sz := 1) (olds := (l.take i).map I) (k1 := l.length + vs.length) (xs1 := (l.take i).map I ++ zer [.int .i64 0] (vs.length + l.length - i)) (M' := fun b9_8 c9_8 => [[⟨.slice (bl b9_8) (l.length + vs.length) (c9_8), 3, 1, l.length + vs.length, (l.take i).map I ++ zer [.int .i64 0] (vs.length + l.length - i)⟩], [⟨.slice (A) ((l).length) (c), 3, 1, ((l).length), (l).map I⟩], [⟨.slice (V) ((vs).length) (vc), 3, 1, ((vs).length), (vs).map I⟩]]) hM rfl Try.underlying26 Try.underlying3 el3 ⟨rfl, by decide⟩ rfl rfl (by omega) rfl hXt' hXtl (by omega) (by omega) (by omega) (by omega) (by omega) rfl (fun _ _ => rfl) (fun w9_8 b9_8 c9_8 hb9_8 hc9_8 hM9_8 => ?_)
        try dsimp only at hM9_8
        refine O.val (v := .slice (bl b9_8) (l.length + vs.length) (c9_8)) rfl (Ru.assign rfl) rfl ?_
        refine O.nil ?_
        refine C.seq ?_
        refine C.region ?_
        refine O.val (v := .slice (bl b9_8) (l.length + vs.length) (c9_8)) rfl (Ru.move rfl) rfl ?_
        refine O.val (v := I (((i : Nat) : Int))) rfl (Ru.move rfl) rfl ?_
        have hcp10_2 := hM9_8.cap 0 rfl
        refine O.val (v := .slice (if c9_8 = i then bl b9_8 else ofs (bl b9_8) (i * 1)) ((l.length + vs.length) - i) (c9_8 - i)) rfl (Ru.lsliceFrom (l := i) Try.underlying26 el3 rfl rfl (by omega) (by omega)) rfl ?_
        refine O.val (v := .slice (V) ((vs).length) (vc)) rfl (Ru.move rfl) rfl ?_
        refine O.mcopy (i := 0) (k := i * 1) (news := (vs).map I) (xs' := spl ((l.take i).map I ++ zer [.int .i64 0] (vs.length + l.length - i)) (i * 1) ((vs).map I)) hM9_8 rfl rfl Try.underlying26 el3 rfl rfl rfl rfl (fun h0 => if_neg (by omega)) (hM9_8.rd 2 rfl) (by rw [hVl]; congr 1; first | omega | (simp only [List.length_drop, List.length_take]; omega)) (by rw [List.length_append, hXtl, hZl, hVl, ← Nat.add_mul, ← Nat.add_mul]; exact Nat.mul_le_mul_right _ (by omega)) (all_map_one (fun _ => rfl) _) rfl rfl (fun w10_4 (hM10_4 : Mem w w10_4 [(Value.slice (A) ((l).length) (c)).ownBlock, (Value.slice (V) ((vs).length) (vc)).ownBlock] [[⟨.slice (bl b9_8) (l.length + vs.length) (c9_8), 3, 1, l.length + vs.length, spl ((l.take i).map I ++ zer [.int .i64 0] (vs.length + l.length - i)) (i * 1) ((vs).map I)⟩], [⟨.slice (A) ((l).length) (c), 3, 1, ((l).length), (l).map I⟩], [⟨.slice (V) ((vs).length) (vc), 3, 1, ((vs).length), (vs).map I⟩]]) => ?_)
        refine O.nil ?_
        refine C.seq ?_
        refine C.any (f := 9) (ls := [false, false, false, false, false, false, false, false, false]) (fun w2 => Mem w w2 [(Value.slice (A) ((l).length) (c)).ownBlock, (Value.slice (V) ((vs).length) (vc)).ownBlock] [[⟨.slice (A) ((l).length) (c), 3, 1, ((l).length), (l).map I⟩], [⟨.slice (V) ((vs).length) (vc), 3, 1, ((vs).length), (vs).map I⟩]]) mixed rfl rfl (fun w2 hw2 => Mem0.ext (hM10_4.pick [1, 2] (by decide) rfl) hw2) (fun w11a hE11a => ?_)
        have hM11a : Mem w w11a [(Value.slice (A) ((l).length) (c)).ownBlock, (Value.slice (V) ((vs).length) (vc)).ownBlock] [[⟨.slice (bl b9_8) (l.length + vs.length) (c9_8), 3, 1, l.length + vs.length, spl ((l.take i).map I ++ zer [.int .i64 0] (vs.length + l.length - i)) (i * 1) ((vs).map I)⟩], [⟨.slice (A) ((l).length) (c), 3, 1, ((l).length), (l).map I⟩], [⟨.slice (V) ((vs).length) (vc), 3, 1, ((vs).length), (vs).map I⟩]] := Mem0.ext hM10_4 hE11a
        refine AO.val (v := .slice (bl b9_8) (l.length + vs.length) (c9_8)) 0 (ls' := [true, false, false, false, false, false, false, false, false]) rfl (by kernel_rfl) rfl rfl (fun w2 hw2 => Ru.move rfl) rfl ?_
        refine AO.val (v := I (((i : Nat) : Int))) 1 (ls' := [true, true, false, false, false, false, false, false, false]) rfl (by kernel_rfl) rfl rfl (fun w2 hw2 => Ru.move rfl) rfl ?_
        refine AO.val (v := I ((((vs).length : Nat) : Int))) 2 (ls' := [true, true, true, false, false, false, false, false, false]) rfl (by kernel_rfl) rfl rfl (fun w2 hw2 => Ru.move rfl) rfl ?_
        refine AO.val (v := I ((((i + (vs).length) : Nat) : Int))) 3 (ls' := [true, true, true, true, false, false, false, false, false]) rfl (by kernel_rfl) rfl rfl (fun w2 hw2 => Ru.congr (v := I ((((i : Nat) : Int) + (((vs).length : Nat) : Int)))) (v' := I ((((i + (vs).length) : Nat) : Int))) (Ru.add rfl rfl (by omega)) (I_congr (by first | omega | simp))) rfl ?_
        have hcp11_4 := hM11a.cap 0 rfl
        refine AO.val (v := .slice (if c9_8 = (i + (vs).length) then bl b9_8 else ofs (bl b9_8) ((i + (vs).length) * 1)) ((l.length + vs.length) - (i + (vs).length)) (c9_8 - (i + (vs).length))) 4 (ls' := [true, true, true, true, true, false, false, false, false]) rfl (by kernel_rfl) rfl rfl (fun w2 hw2 => Ru.lsliceFrom (l := (i + (vs).length)) Try.underlying26 el3 rfl rfl (by omega) (by omega)) rfl ?_
        refine AO.val (v := .slice (A) ((l).length) (c)) 5 (ls' := [true, true, true, true, true, true, false, false, false]) rfl (by kernel_rfl) rfl rfl (fun w2 hw2 => Ru.move rfl) rfl ?_
        refine AO.val (v := I (((i : Nat) : Int))) 6 (ls' := [true, true, true, true, true, true, true, false, false]) rfl (by kernel_rfl) rfl rfl (fun w2 hw2 => Ru.move rfl) rfl ?_
        have hcp11_7 := hM11a.cap 1 rfl
        refine AO.val (v := .slice (if c = i then A else ofs (A) (i * 1)) (((l).drop (i)).length) (c - i)) 7 (ls' := [true, true, true, true, true, true, true, true, false]) rfl (by kernel_rfl) rfl rfl (fun w2 hw2 => Ru.congr (v := .slice (if c = i then A else ofs (A) (i * 1)) (((l).length) - i) (c - i)) (v' := .slice (if c = i then A else ofs (A) (i * 1)) (((l).drop (i)).length) (c - i)) (Ru.lsliceFrom (l := i) Try.underlying26 el3 rfl rfl (by omega) (by omega)) (sl_congr (by first | rfl | (simp; done) | omega | (simp; omega)))) rfl ?_
        refine AO.one 8 (by kernel_rfl) ?_
        refine step1 (ls' := [true, true, true, true, true, true, true, true, true]) rfl rfl ?_
        have hsl : (spl ((l.take i).map I ++ zer [.int .i64 0] (vs.length + l.length - i)) (i * 1) ((vs).map I)).length = (l.length + vs.length) * 1 := by rw [spl_length (by rw [List.length_append, hXtl, hZl, hVl, ← Nat.add_mul, ← Nat.add_mul]; exact Nat.mul_le_mul_right _ (by omega)), List.length_append, hXtl, hZl, ← Nat.add_mul]; congr 1; omega
        have hcp := hM11a.cap 1 rfl
        refine O.mcopy (i := 0) (k := (i + vs.length) * 1) (news := (l.drop i).map I) (xs' := (l.take i ++ (vs ++ l.drop i)).map I) hM11a rfl rfl Try.underlying26 el3 rfl rfl rfl rfl (fun h0 => if_neg (by omega)) (rd_drop1 (hM11a.rd 1 rfl) hin (by omega)) (by rw [hXdl]; congr 1; first | omega | (simp only [List.length_drop, List.length_take]; omega)) (by rw [hXdl, hsl, ← Nat.add_mul]; exact Nat.mul_le_mul_right _ (by omega)) (all_map_one (fun _ => rfl) _) (by rw [hres, hXd, hXt, Nat.add_mul, ← hVl]; exact grow_cells (by rw [hXl]; exact Nat.mul_le_mul_right _ hin) (by rw [hZl, hVl, hXl, ← Nat.sub_mul, ← Nat.add_mul]; congr 1; omega)) rfl (fun w11_8 (hM11_8 : Mem w w11_8 [(Value.slice (A) ((l).length) (c)).ownBlock, (Value.slice (V) ((vs).length) (vc)).ownBlock] [[⟨.slice (bl b9_8) (l.length + vs.length) (c9_8), 3, 1, (l.length + vs.length), (l.take i ++ (vs ++ l.drop i)).map I⟩], [⟨.slice (A) ((l).length) (c), 3, 1, ((l).length), (l).map I⟩], [⟨.slice (V) ((vs).length) (vc), 3, 1, ((vs).length), (vs).map I⟩]]) => ?_)
        refine O.stop (hM11_8.pick [1, 2] (by decide) rfl) ?_
        refine AO.nil (by kernel_rfl) ?_
        refine C.seq ?_
        refine C.region ?_
        refine O.val (v := .slice (bl b9_8) (l.length + vs.length) (c9_8)) rfl (Ru.move rfl) rfl ?_
        refine O.val (v := .slice (bl b9_8) (l.length + vs.length) (c9_8)) rfl (Ru.assign rfl) rfl ?_
        refine O.nil ?_
        refine C.ret ?_
        refine P1 (v := .slice (bl b9_8) (l.length + vs.length) (c9_8)) rfl ?_
        have hMe : Mem w w11_8 [(Value.slice (A) ((l).length) (c)).ownBlock, (Value.slice (V) ((vs).length) (vc)).ownBlock] [[⟨.slice (bl b9_8) ((l.take i ++ (vs ++ l.drop i)).length) (c9_8), 3, 1, ((l.take i ++ (vs ++ l.drop i)).length), (l.take i ++ (vs ++ l.drop i)).map I⟩], [⟨.slice (A) ((l).length) (c), 3, 1, ((l).length), (l).map I⟩], [⟨.slice (V) ((vs).length) (vc), 3, 1, ((vs).length), (vs).map I⟩]] := hM11_8.relen 0 (n' := (l.take i ++ (vs ++ l.drop i)).length) (xs' := (l.take i ++ (vs ++ l.drop i)).map I) rfl (by simp; omega) rfl rfl
        exact ⟨bl b9_8, c9_8, sl_congr (by simp; omega), hMe.pick [0] (by decide) rfl⟩
      · refine C.skip ?_
        refine C.seq ?_
        refine C.region ?_
        refine O.val (v := .slice (A) ((l).length) (c)) rfl (Ru.move rfl) rfl ?_
        refine O.val (v := I ((((l).length : Nat) : Int))) rfl (Ru.move rfl) rfl ?_
        refine O.val (v := I ((((vs).length : Nat) : Int))) rfl (Ru.move rfl) rfl ?_
        refine O.val (v := I (((((l).length + (vs).length) : Nat) : Int))) rfl (Ru.congr (v := I (((((l).length : Nat) : Int) + (((vs).length : Nat) : Int)))) (v' := I (((((l).length + (vs).length) : Nat) : Int))) (Ru.add rfl rfl (by omega)) (I_congr (by first | omega | simp))) rfl ?_
        have hcp := hM.cap 0 rfl
        have hAs : A.isSome = true := (by cases l with | nil => exfalso; simp only [List.length_nil] at *; omega | cons a l => exact (smm (k := 0) (hM.rd 0 rfl) (by simp)))
        obtain ⟨ys, hys, hMx⟩ := Mem.extend (k := vs.length) hM (i := 0) rfl (by omega) (fun _ => hAs)
        replace hMx : Mem w w [(Value.slice (A) ((l).length) (c)).ownBlock, (Value.slice (V) ((vs).length) (vc)).ownBlock] [[⟨.slice (A) (l.length + vs.length) (c), 3, 1, l.length + vs.length, (l).map I ++ ys⟩], [⟨.slice (V) ((vs).length) (vc), 3, 1, ((vs).length), (vs).map I⟩]] := hMx
        refine O.val (v := .slice A (l.length + vs.length) c) rfl (Ru.congr (Ru.lsliceTo (h := l.length + vs.length) Try.underlying26 el3 rfl rfl (by omega) (by omega)) rfl) rfl ?_
        refine O.val (v := .slice (A) (l.length + vs.length) (c)) rfl (Ru.assign rfl) rfl ?_
        refine O.nil ?_
        refine C.seq ?_
        refine C.seq ?_
        refine C.region ?_
        refine O.val (v := .slice (V) ((vs).length) (vc)) rfl (Ru.move rfl) rfl ?_
        refine O.val (v := .slice (A) (l.length + vs.length) (c)) rfl (Ru.move rfl) rfl ?_
        refine O.val (v := I (((i : Nat) : Int))) rfl (Ru.move rfl) rfl ?_
        refine O.val (v := I ((((vs).length : Nat) : Int))) rfl (Ru.move rfl) rfl ?_
        refine O.val (v := I ((((i + (vs).length) : Nat) : Int))) rfl (Ru.congr (v := I ((((i : Nat) : Int) + (((vs).length : Nat) : Int)))) (v' := I ((((i + (vs).length) : Nat) : Int))) (Ru.add rfl rfl (by omega)) (I_congr (by first | omega | simp))) rfl ?_
        have hcp14_5 := hMx.cap 0 rfl
        refine O.val (v := .slice (if c = (i + (vs).length) then A else ofs (A) ((i + (vs).length) * 1)) ((l.length + vs.length) - (i + (vs).length)) (c - (i + (vs).length))) rfl (Ru.lsliceFrom (l := (i + (vs).length)) Try.underlying26 el3 rfl rfl (by omega) (by omega)) rfl ?_
        refine O.val (v := .bool false) rfl (Ru.extern (vs := [.slice V vs.length vc, .slice (if c = i + vs.length then A else ofs A ((i + vs.length) * 1)) (l.length + vs.length - (i + vs.length)) (c - (i + vs.length))]) rfl ((run_callFunc_extern Try.func74 (by kernel_rfl) (by kernel_rfl) (by kernel_rfl) (e := Extern.SlicesOverlaps.overlaps #[26, 26] #[4]) (by kernel_rfl) _ _).trans (by rw [overlaps_own (i := 1) (j := 0) (k := (i + vs.length) * 1) hMx (by decide) rfl rfl Try.underlying26 el3 (by omega) (by decide) _ (if_neg (by omega))]; rfl))) rfl ?_
        refine O.val (v := .bool (true)) rfl (Ru.not (b := false) rfl) rfl ?_
        refine O.nil ?_
        refine C.condT rfl ?_
        refine C.seq ?_
        refine C.any (f := 9) (ls := [false, false, false, false, false, false, false, false, false]) (fun w2 => Mem w w2 [(Value.slice (A) ((l).length) (c)).ownBlock, (Value.slice (V) ((vs).length) (vc)).ownBlock] [[⟨.slice (V) ((vs).length) (vc), 3, 1, ((vs).length), (vs).map I⟩]]) mixed rfl rfl (fun w2 hw2 => Mem0.ext (hMx.pick [1] (by decide) rfl) hw2) (fun w15a hE15a => ?_)
        have hM15a : Mem w w15a [(Value.slice (A) ((l).length) (c)).ownBlock, (Value.slice (V) ((vs).length) (vc)).ownBlock] [[⟨.slice (A) (l.length + vs.length) (c), 3, 1, l.length + vs.length, (l).map I ++ ys⟩], [⟨.slice (V) ((vs).length) (vc), 3, 1, ((vs).length), (vs).map I⟩]] := Mem0.ext hMx hE15a
        refine AO.val (v := .slice (A) (l.length + vs.length) (c)) 0 (ls' := [true, false, false, false, false, false, false, false, false]) rfl (by kernel_rfl) rfl rfl (fun w2 hw2 => Ru.move rfl) rfl ?_
        refine AO.val (v := I (((i : Nat) : Int))) 1 (ls' := [true, true, false, false, false, false, false, false, false]) rfl (by kernel_rfl) rfl rfl (fun w2 hw2 => Ru.move rfl) rfl ?_
        refine AO.val (v := I ((((vs).length : Nat) : Int))) 2 (ls' := [true, true, true, false, false, false, false, false, false]) rfl (by kernel_rfl) rfl rfl (fun w2 hw2 => Ru.move rfl) rfl ?_
        refine AO.val (v := I ((((i + (vs).length) : Nat) : Int))) 3 (ls' := [true, true, true, true, false, false, false, false, false]) rfl (by kernel_rfl) rfl rfl (fun w2 hw2 => Ru.congr (v := I ((((i : Nat) : Int) + (((vs).length : Nat) : Int)))) (v' := I ((((i + (vs).length) : Nat) : Int))) (Ru.add rfl rfl (by omega)) (I_congr (by first | omega | simp))) rfl ?_
        have hcp15_4 := hM15a.cap 0 rfl
        refine AO.val (v := .slice (if c = (i + (vs).length) then A else ofs (A) ((i + (vs).length) * 1)) ((l.length + vs.length) - (i + (vs).length)) (c - (i + (vs).length))) 4 (ls' := [true, true, true, true, true, false, false, false, false]) rfl (by kernel_rfl) rfl rfl (fun w2 hw2 => Ru.lsliceFrom (l := (i + (vs).length)) Try.underlying26 el3 rfl rfl (by omega) (by omega)) rfl ?_
        refine AO.val (v := .slice (A) (l.length + vs.length) (c)) 5 (ls' := [true, true, true, true, true, true, false, false, false]) rfl (by kernel_rfl) rfl rfl (fun w2 hw2 => Ru.move rfl) rfl ?_
        refine AO.val (v := I (((i : Nat) : Int))) 6 (ls' := [true, true, true, true, true, true, true, false, false]) rfl (by kernel_rfl) rfl rfl (fun w2 hw2 => Ru.move rfl) rfl ?_
        have hcp15_7 := hM15a.cap 0 rfl
        refine AO.val (v := .slice (if c = i then A else ofs (A) (i * 1)) ((l.length + vs.length) - i) (c - i)) 7 (ls' := [true, true, true, true, true, true, true, true, false]) rfl (by kernel_rfl) rfl rfl (fun w2 hw2 => Ru.lsliceFrom (l := i) Try.underlying26 el3 rfl rfl (by omega) (by omega)) rfl ?_
        refine AO.one 8 (by kernel_rfl) ?_
        refine step1 (ls' := [true, true, true, true, true, true, true, true, true]) rfl rfl ?_
        have hRl := Rd.left (hM15a.rd 0 rfl)
        refine O.mcopy (i := 0) (k := i * 1 + ((vs).map I).length) (news := (l.drop i).map I) (xs' := spl ((l).map I ++ ys) (i * 1 + ((vs).map I).length) ((l.drop i).map I)) hM15a rfl rfl Try.underlying26 el3 rfl rfl rfl rfl (fun h0 => (by rw [if_neg (by omega), hVl, ← Nat.add_mul])) (rd_drop1 hRl hin (by omega)) (by rw [hXdl]; congr 1; first | omega | (simp only [List.length_drop, List.length_take]; omega)) (by rw [hXdl, List.length_append, hXl, hVl, hys, ← Nat.add_mul, ← Nat.add_mul, ← Nat.add_mul]; exact Nat.mul_le_mul_right _ (by omega)) (all_map_one (fun _ => rfl) _) rfl rfl (fun w15_8 (hM15_8 : Mem w w15_8 [(Value.slice (A) ((l).length) (c)).ownBlock, (Value.slice (V) ((vs).length) (vc)).ownBlock] [[⟨.slice (A) (l.length + vs.length) (c), 3, 1, l.length + vs.length, spl ((l).map I ++ ys) (i * 1 + ((vs).map I).length) ((l.drop i).map I)⟩], [⟨.slice (V) ((vs).length) (vc), 3, 1, ((vs).length), (vs).map I⟩]]) => ?_)
        refine O.stop (hM15_8.pick [1] (by decide) rfl) ?_
        refine AO.nil (by kernel_rfl) ?_
        refine C.seq ?_
        refine C.region ?_
        refine O.val (v := .slice (A) (l.length + vs.length) (c)) rfl (Ru.move rfl) rfl ?_
        refine O.val (v := I (((i : Nat) : Int))) rfl (Ru.move rfl) rfl ?_
        have hcp16_2 := hM15_8.cap 0 rfl
        refine O.val (v := .slice (if c = i then A else ofs (A) (i * 1)) ((l.length + vs.length) - i) (c - i)) rfl (Ru.lsliceFrom (l := i) Try.underlying26 el3 rfl rfl (by omega) (by omega)) rfl ?_
        refine O.val (v := .slice (V) ((vs).length) (vc)) rfl (Ru.move rfl) rfl ?_
        refine O.mcopy (i := 0) (k := i * 1) (news := (vs).map I) (xs' := (l.take i ++ (vs ++ l.drop i)).map I) hM15_8 rfl rfl Try.underlying26 el3 rfl rfl rfl rfl (fun h0 => if_neg (by omega)) (hM15_8.rd 1 rfl) (by rw [hVl]; congr 1; first | omega | (simp only [List.length_drop, List.length_take]; omega)) (by rw [spl_length (by rw [hXdl, List.length_append, hXl, hVl, hys, ← Nat.add_mul, ← Nat.add_mul, ← Nat.add_mul]; exact Nat.mul_le_mul_right _ (by omega)), List.length_append, hXl, hVl, hys, ← Nat.add_mul, ← Nat.add_mul]; exact Nat.mul_le_mul_right _ (by omega)) (all_map_one (fun _ => rfl) _) (by rw [hres, hXd]; exact ins_cells (by rw [hXl]; exact Nat.mul_le_mul_right _ hin) (by rw [hys, hVl])) rfl (fun w16_4 (hM16_4 : Mem w w16_4 [(Value.slice (A) ((l).length) (c)).ownBlock, (Value.slice (V) ((vs).length) (vc)).ownBlock] [[⟨.slice (A) (l.length + vs.length) (c), 3, 1, (l.length + vs.length), (l.take i ++ (vs ++ l.drop i)).map I⟩], [⟨.slice (V) ((vs).length) (vc), 3, 1, ((vs).length), (vs).map I⟩]]) => ?_)
        refine O.nil ?_
        refine C.seq ?_
        refine C.region ?_
        refine O.val (v := .slice (A) (l.length + vs.length) (c)) rfl (Ru.move rfl) rfl ?_
        refine O.val (v := .slice (A) (l.length + vs.length) (c)) rfl (Ru.assign rfl) rfl ?_
        refine O.nil ?_
        refine C.ret ?_
        refine P1 (v := .slice (A) (l.length + vs.length) (c)) rfl ?_
        have hMe : Mem w w16_4 [(Value.slice (A) ((l).length) (c)).ownBlock, (Value.slice (V) ((vs).length) (vc)).ownBlock] [[⟨.slice (A) ((l.take i ++ (vs ++ l.drop i)).length) (c), 3, 1, ((l.take i ++ (vs ++ l.drop i)).length), (l.take i ++ (vs ++ l.drop i)).map I⟩], [⟨.slice (V) ((vs).length) (vc), 3, 1, ((vs).length), (vs).map I⟩]] := hM16_4.relen 0 (n' := (l.take i ++ (vs ++ l.drop i)).length) (xs' := (l.take i ++ (vs ++ l.drop i)).map I) rfl (by simp; omega) rfl rfl
        exact ⟨A, c, sl_congr (by simp; omega), hMe.pick [0] (by decide) rfl⟩

theorem search_fn (n : Nat) (F : FuncId) (caps : List Value) (p : Nat → Bool) (w : World) (hen : Enters Try.prog F) (hf : ∀ t, t < n → ∀ w1, Mem w w1 [] [] → Does Try.prog F (I (t : Nat) :: caps) w1 (fun v w2 => v = .bool (p t) ∧ Mem w1 w2 [] [])) (hm : ∀ a b, a ≤ b → b < n → p a = true → p b = true) (hn : n ≤ 1048576) :
    Does Try.prog 72 [I (((n : Nat) : Int)), (.func (.func F) #[] caps.toArray)] w (fun v w1 => ∃ (k : Nat), v = I (((k : Nat) : Int)) ∧ (k ≤ n) ∧ (∀ t, t < k → p t = false) ∧ (∀ t, k ≤ t → t < n → p t = true) ∧ Mem w w1 [] []) := by
  have hM : Mem w w [] [] := Mem.refl
  refine Does.enter1 Try.func72 rfl Try.results72 Try.ntmps72 rfl ?_
  refine C.seq ?_
  refine C.region ?_
  refine O.val (v := I (0)) rfl (Ru.assign rfl) rfl ?_
  refine O.nil ?_
  refine C.seq ?_
  refine C.region ?_
  refine O.val (v := I (((n : Nat) : Int))) rfl (Ru.move rfl) rfl ?_
  refine O.val (v := I (0)) rfl (Ru.assign rfl) rfl ?_
  refine O.val (v := I (((n : Nat) : Int))) rfl (Ru.assign rfl) rfl ?_
  refine O.nil ?_
  refine C.seq ?_
  refine C.block ?_
  refine C.loop (ι := Nat × Nat) (fun x_ => ([(1, (.func (.func F) #[] caps.toArray)), (5, I (((x_.1 : Nat) : Int))), (6, I (((x_.2 : Nat) : Int)))] : List (Nat × Value))) (fun x_ w_ => (x_.1 ≤ x_.2 ∧ x_.2 ≤ n) ∧ (∀ t, t < x_.1 → p t = false) ∧ (∀ t, x_.2 ≤ t → t < n → p t = true) ∧ (Mem w w_ [] [])) (fun x_ => x_.2 - x_.1) (0, n) (Has.cons rfl (Has.cons (I_congr (by first | rfl | omega | (simp; omega) | simp)) (Has.cons rfl Has.nil))) ⟨(by (try dsimp only); omega), (by (try dsimp only); omega), (by (try dsimp only); omega), (hM.pick [] (by decide) rfl)⟩ (fun ⟨i, j⟩ σ w_l2 hI => ?_)
  try dsimp only at hI
  obtain ⟨hi0_l2, hi1_l2, hi2_l2, hM_l2⟩ := hI
  refine C.seq ?_
  refine C.seq ?_
  refine C.region ?_
  refine O.val (v := I (((i : Nat) : Int))) rfl (Ru.move rfl) rfl ?_
  refine O.val (v := I (((j : Nat) : Int))) rfl (Ru.move rfl) rfl ?_
  refine O.val (v := .bool (decide (((i : Nat) : Int) < ((j : Nat) : Int)))) rfl (Ru.lss rfl rfl) rfl ?_
  refine O.nil ?_
  refine C.cond (p := ((i : Nat) : Int) < ((j : Nat) : Int)) rfl (fun c11 => ?_) (fun c11 => ?_)
  · refine C.skip ?_
    refine C.block ?_
    refine C.seq ?_
    refine C.region ?_
    refine O.val (v := I (((i : Nat) : Int))) rfl (Ru.move rfl) rfl ?_
    refine O.val (v := I (((j : Nat) : Int))) rfl (Ru.move rfl) rfl ?_
    refine O.val (v := I ((((i + j) : Nat) : Int))) rfl (Ru.congr (v := I ((((i : Nat) : Int) + ((j : Nat) : Int)))) (v' := I ((((i + j) : Nat) : Int))) (Ru.add rfl rfl (by omega)) (I_congr (by first | omega | simp))) rfl ?_
    refine O.val (v := .int .u64 ((((i + j) : Nat) : Int))) rfl (Ru.conv64 Try.underlying3 Try.underlying71 rfl (by omega)) rfl ?_
    refine O.val (v := .int .u64 ((((i + j) / 2 : Nat) : Int))) rfl (Ru.congr (v := .int .u64 (((((i + j) : Nat) : Int) / 2))) (v' := .int .u64 ((((i + j) / 2 : Nat) : Int))) (Ru.half rfl rfl (by omega)) (by first | rfl | (congr 1; done) | (congr 1; omega))) rfl ?_
    refine O.val (v := I ((((i + j) / 2 : Nat) : Int))) rfl (Ru.conv64i Try.underlying71 Try.underlying3 rfl (by omega)) rfl ?_
    refine O.val (v := I ((((i + j) / 2 : Nat) : Int))) rfl (Ru.assign rfl) rfl ?_
    refine O.nil ?_
    refine C.seq ?_
    refine C.region ?_
    refine O.val rfl (Ru.move rfl) rfl ?_
    refine O.val (v := I ((((i + j) / 2 : Nat) : Int))) rfl (Ru.move rfl) rfl ?_
    refine O.callv [I (((i + j) / 2 : Nat) : Int)] rfl rfl hen rfl rfl (hf ((i + j) / 2) (by omega) w_l2 hM_l2) ?_
    rintro _ w4_2 ⟨rfl, hR4_2⟩
    have hM4_2 : Mem w w4_2 [] [] := Mem.call0 hM_l2 hR4_2
    refine O.val (v := .bool (!(p ((i + j) / 2)))) rfl (Ru.not rfl) rfl ?_
    refine O.nil ?_
    refine C.condn (b := (p ((i + j) / 2))) rfl (fun c21 => ?_) (fun c21 => ?_)
    · refine C.region ?_
      refine O.val (v := I ((((i + j) / 2 : Nat) : Int))) rfl (Ru.move rfl) rfl ?_
      refine O.val (v := I (((((i + j) / 2 + 1) : Nat) : Int))) rfl (Ru.congr (v := I (((((i + j) / 2 : Nat) : Int) + 1))) (v' := I (((((i + j) / 2 + 1) : Nat) : Int))) (Ru.add rfl rfl (by omega)) (I_congr (by first | omega | simp))) rfl ?_
      refine O.val (v := I (((((i + j) / 2 + 1) : Nat) : Int))) rfl (Ru.assign rfl) rfl ?_
      refine O.nil ?_
      exact loopEnd (((i + j) / 2 + 1), j) (by (try dsimp only); omega) (Has.cons rfl (Has.cons rfl (Has.cons rfl Has.nil))) ⟨(by (try dsimp only); omega), (mid_search hm (by omega) (by omega) (by simpa using c21) hi1_l2), hi2_l2, (hM4_2.pick [] (by decide) rfl)⟩
    · refine C.region ?_
      refine O.val (v := I ((((i + j) / 2 : Nat) : Int))) rfl (Ru.move rfl) rfl ?_
      refine O.val (v := I ((((i + j) / 2 : Nat) : Int))) rfl (Ru.assign rfl) rfl ?_
      refine O.nil ?_
      exact loopEnd (i, ((i + j) / 2)) (by (try dsimp only); omega) (Has.cons rfl (Has.cons rfl (Has.cons (I_congr (by first | rfl | omega | (simp; omega) | simp)) Has.nil))) ⟨(by (try dsimp only); omega), hi1_l2, (mid_search2 hm (by simpa using c21)), (hM4_2.pick [] (by decide) rfl)⟩
  · refine C.exit ?_
    refine C.seq ?_
    refine C.region ?_
    refine O.val (v := I (((i : Nat) : Int))) rfl (Ru.move rfl) rfl ?_
    refine O.val (v := I (((i : Nat) : Int))) rfl (Ru.assign rfl) rfl ?_
    refine O.nil ?_
    refine C.ret ?_
    refine P1 (v := I (((i : Nat) : Int))) rfl ?_
    exact ⟨i, (by first | rfl | exact sl_congr (by first | omega | (simp; done) | (simp; omega)) | (simp; done)), (by omega), hi1_l2, (fun t h1 h2 => hi2_l2 t (by omega) h2), (Mem.none hM_l2)⟩

theorem KeysBelow1_fn (i : Nat) (b1 : Nat) (b2 : Nat) (A : Option Addr) (c : Nat) (l : List Int) (key : Int) (w : World) (h1 : Rd w (bl b1) [.slice A l.length c]) (h2 : Rd w (bl b2) [I key]) (hA : Rd w A (l.map I)) (hi : i < l.length) :
    Does Try.prog 73 [I (((i : Nat) : Int)), .pointer (ofs (bl b1) (0)), .pointer (ofs (bl b2) (0))] w (fun v w1 => v = .bool (decide (key ≤ l.getD i 0)) ∧ Mem w w1 [] []) := by
  have hM : Mem w w [] [] := Mem.refl
  refine Does.enter1 Try.func73 rfl Try.results73 Try.ntmps73 rfl ?_
  refine C.seq ?_
  refine C.region ?_
  refine O.val (v := .bool (false)) rfl (Ru.assign rfl) rfl ?_
  refine O.nil ?_
  refine C.seq ?_
  refine C.draws (fun w2 => Mem w w2 [] []) mixed (by kernel_rfl) (hM.ext (kdrawn _)) ?_
  refine QO.val rfl (fun w2 hw2 => Ru.load1 el26 rfl ((h1.at hw2).ld rfl)) rfl ?_
  refine QO.val (v := I (((i : Nat) : Int))) rfl (fun w2 hw2 => Ru.move rfl) rfl ?_
  have hx1_2 : i < (l).length := (by first | omega | (simp; omega))
  refine QO.val (v := .pointer (ofs (A) (i * 1))) rfl (fun w2 hw2 => Ru.indexA (j := i) Try.underlying26 el3 rfl rfl (smm (hA.at hw2) hx1_2) (by omega) (by first | omega | (simp; omega))) rfl ?_
  refine QO.val rfl (fun w2 hw2 => Ru.load1 el3 rfl (ldm (hA.at hw2) hx1_2)) rfl ?_
  refine QO.val rfl (fun w2 hw2 => Ru.load1 el3 rfl ((h2.at hw2).ld rfl)) rfl ?_
  refine QO.val (v := .bool (decide ((l)[i]'hx1_2 ≥ key))) rfl (fun w2 hw2 => Ru.geq rfl rfl) rfl ?_
  refine QO.val (v := .bool (decide ((l)[i]'hx1_2 ≥ key))) rfl (fun w2 hw2 => Ru.assign rfl) rfl ?_
  refine QO.nil ?_
  intro w1d hM1d
  refine C.ret ?_
  refine P1 (v := .bool (decide ((l)[i]'hx1_2 ≥ key))) rfl ?_
  exact ⟨(by rw [getD_lt hi]), (Mem.none hM1d)⟩

theorem KeysBelow_fn (A : Option Addr) (c : Nat) (l : List Int) (key : Int) (w : World) (hA : Rd w A ((l).map I)) (hl : l.length ≤ 1048576) :
    Does Try.prog 62 [.slice (A) ((l).length) (c), I (key)] w (fun v w1 => v = I ((if validK l then (below l key : Int) else -1)) ∧ Mem w w1 [] []) := by
  have hM : Mem w w [] [] := Mem.refl
  refine Does.enter1 Try.func62 rfl Try.results62 Try.ntmps62 rfl ?_
  refine C.seq ?_
  refine C.region ?_
  refine O.mbox (k := 1) (vs := [.slice (A) ((l).length) (c)]) hM rfl rfl rfl rfl rfl (fun w0_0 b0_0 hb0_0 (hM0_0 : Mem w w0_0 [] [[⟨.slice (bl b0_0) 1 1, 26, 1, 1, [.slice (A) ((l).length) (c)]⟩]]) => ?_)
  refine O.mbox (k := 1) (vs := [I (key)]) hM0_0 rfl rfl rfl rfl rfl (fun w0_1 b0_1 hb0_1 (hM0_1 : Mem w w0_1 [] [[⟨.slice (bl b0_1) 1 1, 3, 1, 1, [I (key)]⟩], [⟨.slice (bl b0_0) 1 1, 26, 1, 1, [.slice (A) ((l).length) (c)]⟩]]) => ?_)
  refine O.val (v := I (0)) rfl (Ru.assign rfl) rfl ?_
  refine O.nil ?_
  refine C.seq ?_
  refine C.seq ?_
  refine C.region ?_
  refine O.val rfl (Ru.load1 el26 rfl ((hM0_1.rd 1 rfl).ld rfl)) rfl ?_
  refine O.callg [.slice (A) ((l).length) (c)] rfl en27 rfl rfl (ValidKeys_fn A c l w0_1 (hA.at hM0_1) (by first | omega | assumption | (simp; omega) | simp | (intros; omega))) ?_
  rintro _ w1_1 ⟨rfl, hR1_1⟩
  have hM1_1 : Mem w w1_1 [] [[⟨.slice (bl b0_1) 1 1, 3, 1, 1, [I (key)]⟩], [⟨.slice (bl b0_0) 1 1, 26, 1, 1, [.slice (A) ((l).length) (c)]⟩]] := Mem.call (Ma := []) hM0_1 hR1_1 rfl
  refine O.val (v := .bool (!(validK l))) rfl (Ru.not rfl) rfl ?_
  refine O.nil ?_
  refine C.condn (b := (validK l)) rfl (fun c7 => ?_) (fun c7 => ?_)
  · refine C.seq ?_
    refine C.region ?_
    refine O.val (v := I ((-1))) rfl (Ru.assign rfl) rfl ?_
    refine O.nil ?_
    refine C.ret ?_
    refine P1 (v := I ((-1))) rfl ?_
    exact ⟨(by rw [if_neg (by simp [c7])]), (Mem.none hM1_1)⟩
  · refine C.skip ?_
    refine C.seq ?_
    refine C.region ?_
    refine O.val rfl (Ru.load1 el26 rfl ((hM1_1.rd 1 rfl).ld rfl)) rfl ?_
    refine O.val (v := I ((((l).length : Nat) : Int))) rfl (Ru.blenSlice Try.underlying26 rfl) rfl ?_
    refine O.val rfl (Ru.mkfun (vs := [.pointer (ofs (bl b0_0) (0)), .pointer (ofs (bl b0_1) (0))]) rfl) rfl ?_
    have hbx1 := hM1_1.rd 1 rfl
    have hbx2 := hM1_1.rd 0 rfl
    have hv : validK l = true := by simpa using c7
    have hAn := hA.at hM1_1
    refine O.callg [I (l.length : Int), .func (.func 73) #[] #[.pointer (ofs (bl b0_0) 0), .pointer (ofs (bl b0_1) 0)]] rfl en72 rfl rfl (search_fn l.length 73 [.pointer (ofs (bl b0_0) 0), .pointer (ofs (bl b0_1) 0)] (fun t => decide (key ≤ l.getD t 0)) w1_1 en73 (fun t ht w1 hw1 => KeysBelow1_fn t b0_0 b0_1 A c l key w1 (hbx1.at hw1) (hbx2.at hw1) (hAn.at hw1) ht) (fun a b hab hb hp => ?_) hl) ?_
    · have h2 := asc_lt (validK_iff.1 hv).2; simp only [decide_eq_true_eq] at hp ⊢; rw [getD_lt (by omega)] at hp ⊢; rcases Nat.eq_or_lt_of_le hab with h3 | h3 <;> first | (subst h3; exact hp) | (have := h2 a b h3 hb; omega)
    rintro _ w3_3 ⟨k3_3, rfl, hk3_3, hlt3_3, hge3_3, hR3_3⟩
    have hM3_3 : Mem w w3_3 [] [[⟨.slice (bl b0_1) 1 1, 3, 1, 1, [I (key)]⟩], [⟨.slice (bl b0_0) 1 1, 26, 1, 1, [.slice (A) ((l).length) (c)]⟩]] := Mem.call0 hM1_1 hR3_3
    refine O.val (v := I (((k3_3 : Nat) : Int))) rfl (Ru.assign rfl) rfl ?_
    refine O.nil ?_
    refine C.ret ?_
    refine P1 (v := I (((k3_3 : Nat) : Int))) rfl ?_
    exact ⟨(by rw [if_pos hv, search_below hk3_3 (fun t ht => by have := hlt3_3 t ht; rw [getD_lt (show t < l.length by omega)] at this; simpa using this) (fun t h1 h2 => by have := hge3_3 t h1 h2; rw [getD_lt h2] at this; simpa using this)]), (Mem.none hM3_3)⟩

theorem lisIn_fn (A : Option Addr) (c : Nat) (l : List Int) (n : Int) (w : World) (hA : Rd w A ((l).map I)) (hl : l.length ≤ 1048576) :
    Does Try.prog 28 [.slice (A) ((l).length) (c), I (n)] w (fun v w1 => v = .bool (decide (n ∈ l)) ∧ Mem w w1 [] []) := by
  have hM : Mem w w [] [] := Mem.refl
  refine Does.enter1 Try.func28 rfl Try.results28 Try.ntmps28 rfl ?_
  refine C.seq ?_
  refine C.region ?_
  refine O.val (v := .bool (false)) rfl (Ru.assign rfl) rfl ?_
  refine O.nil ?_
  refine C.seq ?_
  refine C.seq ?_
  refine C.region ?_
  refine O.val (v := I (0)) rfl (Ru.assign rfl) rfl ?_
  refine O.nil ?_
  refine C.block ?_
  refine C.loop (ι := Nat) (fun k => ([(0, .slice (A) ((l).length) (c)), (1, I (n)), (5, I (((k : Nat) : Int)))] : List (Nat × Value))) (fun k w_ => (k ≤ l.length) ∧ (∀ x ∈ l.take k, x ≠ n) ∧ (Mem w w_ [] [])) (fun k => l.length - k) (0) (Has.cons rfl (Has.cons rfl (Has.cons (I_congr (by first | rfl | omega | (simp; omega) | simp)) Has.nil))) ⟨(Nat.zero_le _), (by (try dsimp only); simp), (hM.pick [] (by decide) rfl)⟩ (fun k σ w_l2 hI => ?_)
  try dsimp only at hI
  obtain ⟨hi0_l2, hi1_l2, hM_l2⟩ := hI
  refine C.seq ?_
  refine C.seq ?_
  refine C.region ?_
  refine O.val (v := I (((k : Nat) : Int))) rfl (Ru.move rfl) rfl ?_
  refine O.val (v := .slice (A) ((l).length) (c)) rfl (Ru.move rfl) rfl ?_
  refine O.val (v := I ((((l).length : Nat) : Int))) rfl (Ru.blenSlice Try.underlying26 rfl) rfl ?_
  refine O.val (v := .bool (decide (((k : Nat) : Int) < (((l).length : Nat) : Int)))) rfl (Ru.lss rfl rfl) rfl ?_
  refine O.nil ?_
  refine C.cond (p := ((k : Nat) : Int) < (((l).length : Nat) : Int)) rfl (fun c9 => ?_) (fun c9 => ?_)
  · refine C.skip ?_
    refine C.seq ?_
    refine C.block ?_
    refine C.seq ?_
    refine C.region ?_
    refine O.val (v := .slice (A) ((l).length) (c)) rfl (Ru.move rfl) rfl ?_
    refine O.val (v := I (((k : Nat) : Int))) rfl (Ru.move rfl) rfl ?_
    have hx4_2 : k < (l).length := (by first | omega | (simp; omega))
    refine O.val (v := .pointer (ofs (A) (k * 1))) rfl (Ru.indexA (j := k) Try.underlying26 el3 rfl rfl (smm (hA.at hM_l2) hx4_2) (by omega) (by first | omega | (simp; omega))) rfl ?_
    refine O.val rfl (Ru.load1 el3 rfl (ldm (hA.at hM_l2) hx4_2)) rfl ?_
    refine O.val (v := I (n)) rfl (Ru.move rfl) rfl ?_
    refine O.val (v := .bool (decide ((l)[k]'hx4_2 = n))) rfl (Ru.eql rfl rfl) rfl ?_
    refine O.nil ?_
    refine C.cond (p := (l)[k]'hx4_2 = n) rfl (fun c17 => ?_) (fun c17 => ?_)
    · refine C.seq ?_
      refine C.region ?_
      refine O.val (v := .bool (true)) rfl (Ru.assign rfl) rfl ?_
      refine O.nil ?_
      refine C.ret ?_
      refine P1 (v := .bool (true)) rfl ?_
      exact ⟨(by rw [decide_eq_true (by rw [← c17]; exact List.getElem_mem hx4_2)]), (Mem.none hM_l2)⟩
    · refine C.skip ?_
      refine C.region ?_
      refine O.val (v := I (((k : Nat) : Int))) rfl (Ru.move rfl) rfl ?_
      refine O.val (v := I ((((k + 1) : Nat) : Int))) rfl (Ru.congr (v := I ((((k : Nat) : Int) + 1))) (v' := I ((((k + 1) : Nat) : Int))) (Ru.add rfl rfl (by omega)) (I_congr (by first | omega | simp))) rfl ?_
      refine O.val (v := I ((((k + 1) : Nat) : Int))) rfl (Ru.assign rfl) rfl ?_
      refine O.nil ?_
      exact loopEnd (k + 1) (by (try dsimp only); omega) (Has.cons rfl (Has.cons rfl (Has.cons (I_congr (by first | rfl | omega | (simp; omega) | simp)) Has.nil))) ⟨(by (try dsimp only); omega), (mem_step hi1_l2 hx4_2 c17), (hM_l2.pick [] (by decide) rfl)⟩
  · refine C.exit ?_
    refine C.seq ?_
    refine C.region ?_
    refine O.val (v := .bool (false)) rfl (Ru.assign rfl) rfl ?_
    refine O.nil ?_
    refine C.ret ?_
    refine P1 (v := .bool (false)) rfl ?_
    exact ⟨(by rw [mem_end hi1_l2 (by omega)]), (Mem.none hM_l2)⟩
end Go.Proofs.Yteljpjapacajoaa
