/- Own layer: part of this seat (WH). Plain theorems; no conditions. -/
import Derived.Test.YtekfncmhinbghaaPx6
import Derived.Test.YtekfncmhinbghaaW2
import Derived.Test.YtekfncmhinbghaaF1
set_option linter.unusedVariables false
set_option linter.unusedSimpArgs false
namespace Go.Proofs.Ytekfncmhinbghaa.V
open Go.Px
theorem mixed : Try.prog.follows .mixedOrders = true := by kernel_rfl
theorem el3 : ElT Try.prog 3 [.int .i64 0] 8 false := ElT.of (z := .int .i64 0) (by kernel_rfl) rfl (by kernel_rfl)
theorem el5 : ElT Try.prog 5 [.int .u8 0] 1 false := ElT.of (z := .int .u8 0) (by kernel_rfl) rfl (by kernel_rfl)
theorem el9 : ElT Try.prog 9 [S []] 16 false := ElT.of (z := S []) (by kernel_rfl) rfl (by kernel_rfl)
theorem el29 : ElT Try.prog 29 [.slice none 0 0] 24 false := ElT.of (z := .slice none 0 0) (by kernel_rfl) rfl (by kernel_rfl)
theorem el39 : ElT Try.prog 39 [.int .i64 0, S []] 24 true := ElT.of (z := .agg #[.int .i64 0, S []]) (by kernel_rfl) rfl (by kernel_rfl)
theorem fl39_0 : FlT Try.prog 39 0 0 := FlT.of (by kernel_rfl)
theorem fl39_1 : FlT Try.prog 39 1 1 := FlT.of (by kernel_rfl)
theorem fl66_0 : FlT Try.prog 66 0 0 := FlT.of (by kernel_rfl)
theorem fl66_1 : FlT Try.prog 66 1 1 := FlT.of (by kernel_rfl)
theorem of39 : OneF Try.prog 39 [.int .i64 0, S []] := OneF.of (z := .agg #[.int .i64 0, S []]) (by kernel_rfl) rfl (by kernel_rfl)
theorem of66 : OneF Try.prog 66 [.slice none 0 0, .int .i64 0] := OneF.of (z := .agg #[.slice none 0 0, .int .i64 0]) (by kernel_rfl) rfl (by kernel_rfl)
theorem eq39 : EqT Try.prog 39 [3, 9] := EqT.of (by kernel_rfl) (by kernel_rfl) (by kernel_rfl) (by kernel_rfl)
theorem en22 : Enters Try.prog 22 := enters_of Try.func22 (by kernel_rfl) (by kernel_rfl)
theorem en23 : Enters Try.prog 23 := enters_of Try.func23 (by kernel_rfl) (by kernel_rfl)
theorem en24 : Enters Try.prog 24 := enters_of Try.func24 (by kernel_rfl) (by kernel_rfl)
theorem en25 : Enters Try.prog 25 := enters_of Try.func25 (by kernel_rfl) (by kernel_rfl)
theorem en26 : Enters Try.prog 26 := enters_of Try.func26 (by kernel_rfl) (by kernel_rfl)
theorem en28 : Enters Try.prog 28 := enters_of Try.func28 (by kernel_rfl) (by kernel_rfl)
theorem en29 : Enters Try.prog 29 := enters_of Try.func29 (by kernel_rfl) (by kernel_rfl)
theorem en30 : Enters Try.prog 30 := enters_of Try.func30 (by kernel_rfl) (by kernel_rfl)
theorem en31 : Enters Try.prog 31 := enters_of Try.func31 (by kernel_rfl) (by kernel_rfl)
theorem en32 : Enters Try.prog 32 := enters_of Try.func32 (by kernel_rfl) (by kernel_rfl)
theorem en33 : Enters Try.prog 33 := enters_of Try.func33 (by kernel_rfl) (by kernel_rfl)
theorem en34 : Enters Try.prog 34 := enters_of Try.func34 (by kernel_rfl) (by kernel_rfl)
theorem en35 : Enters Try.prog 35 := enters_of Try.func35 (by kernel_rfl) (by kernel_rfl)
theorem en36 : Enters Try.prog 36 := enters_of Try.func36 (by kernel_rfl) (by kernel_rfl)
theorem en37 : Enters Try.prog 37 := enters_of Try.func37 (by kernel_rfl) (by kernel_rfl)
theorem en38 : Enters Try.prog 38 := enters_of Try.func38 (by kernel_rfl) (by kernel_rfl)
theorem en39 : Enters Try.prog 39 := enters_of Try.func39 (by kernel_rfl) (by kernel_rfl)
theorem en40 : Enters Try.prog 40 := enters_of Try.func40 (by kernel_rfl) (by kernel_rfl)
theorem en41 : Enters Try.prog 41 := enters_of Try.func41 (by kernel_rfl) (by kernel_rfl)
theorem en42 : Enters Try.prog 42 := enters_of Try.func42 (by kernel_rfl) (by kernel_rfl)
theorem en43 : Enters Try.prog 43 := enters_of Try.func43 (by kernel_rfl) (by kernel_rfl)
theorem en44 : Enters Try.prog 44 := enters_of Try.func44 (by kernel_rfl) (by kernel_rfl)
theorem en45 : Enters Try.prog 45 := enters_of Try.func45 (by kernel_rfl) (by kernel_rfl)
theorem en46 : Enters Try.prog 46 := enters_of Try.func46 (by kernel_rfl) (by kernel_rfl)
theorem en47 : Enters Try.prog 47 := enters_of Try.func47 (by kernel_rfl) (by kernel_rfl)
theorem en48 : Enters Try.prog 48 := enters_of Try.func48 (by kernel_rfl) (by kernel_rfl)
theorem en52 : Enters Try.prog 52 := enters_of Try.func52 (by kernel_rfl) (by kernel_rfl)
theorem en53 : Enters Try.prog 53 := enters_of Try.func53 (by kernel_rfl) (by kernel_rfl)
theorem en54 : Enters Try.prog 54 := enters_of Try.func54 (by kernel_rfl) (by kernel_rfl)
theorem en55 : Enters Try.prog 55 := enters_of Try.func55 (by kernel_rfl) (by kernel_rfl)
theorem en56 : Enters Try.prog 56 := enters_of Try.func56 (by kernel_rfl) (by kernel_rfl)
theorem en59 : Enters Try.prog 59 := enters_of Try.func59 (by kernel_rfl) (by kernel_rfl)
theorem en60 : Enters Try.prog 60 := enters_of Try.func60 (by kernel_rfl) (by kernel_rfl)
theorem en61 : Enters Try.prog 61 := enters_of Try.func61 (by kernel_rfl) (by kernel_rfl)
theorem en62 : Enters Try.prog 62 := enters_of Try.func62 (by kernel_rfl) (by kernel_rfl)
theorem pick_fn (gr : Nat) (rA : Option Addr) (rc : Nat) (rl : List UInt8) (rq : Nat) (n : Int) (w : World) (hrA : Rd w rA (rl.map byteV)) (hro : Off rA (rl.map byteV) [some gr]) (hrl : rl.length ≤ 2000) (hM : Mem w w [some gr] [[⟨.slice (bl gr) 1 1, 66, 2, 1, [.slice (rA) ((rl).length) (rc), I (((rq : Nat) : Int))]⟩]]) (hrq : rq ≤ 1000000000) :
    Does Try.prog 55 [.pointer (ofs (bl gr) (0)), I (n)] w (fun v w1 => ∃ (k : Int), v = I (k) ∧ (0 ≤ k ∧ (k < n ∨ k = 0)) ∧ Mem w w1 [some gr] [[⟨.slice (bl gr) 1 1, 66, 2, 1, [.slice (rA) ((rl).length) (rc), I (((rq + 1 : Nat) : Int))]⟩]]) := by
  refine Does.enter1 Try.func55 rfl Try.results55 Try.ntmps55 rfl ?_
  refine C.seq ?_
  refine C.region ?_
  refine O.val (v := I (0)) rfl (Ru.assign rfl) rfl ?_
  refine O.nil ?_
  refine C.seq ?_
  refine C.region ?_
  refine O.val (v := .pointer (ofs (bl gr) (0))) rfl (Ru.move rfl) rfl ?_
  refine O.val (v := .pointer (ofs (bl gr) (0))) rfl (Ru.move rfl) rfl ?_
  refine O.val (v := .pointer (ofs (bl gr) (0))) rfl (Ru.nilc rfl rfl) rfl ?_
  refine O.val (v := .pointer (ofs (bl gr) (1))) rfl (Ru.fieldA fl66_1 rfl rfl) rfl ?_
  refine O.val rfl (Ru.load1 el3 rfl ((hM.rd 0 rfl).ld rfl)) rfl ?_
  refine O.val (v := I ((((rq + 1) : Nat) : Int))) rfl (Ru.congr (v := I ((((rq : Nat) : Int) + 1))) (v' := I ((((rq + 1) : Nat) : Int))) (Ru.add rfl rfl (by omega)) (I_congr (by first | omega | simp))) rfl ?_
  refine O.val (v := .pointer (ofs (bl gr) (0))) rfl (Ru.nilc rfl rfl) rfl ?_
  refine O.val (v := .pointer (ofs (bl gr) (1))) rfl (Ru.fieldA fl66_1 rfl rfl) rfl ?_
  refine O.mstore (vs := [I ((((rq + 1) : Nat) : Int))]) (xs' := [.slice (rA) ((rl).length) (rc), I ((((rq + 1) : Nat) : Int))]) 0 0 hM rfl rfl rfl el3 rfl rfl rfl rfl rfl (by simp) (by simp) rfl rfl (fun w1_8 (hM1_8 : Mem w w1_8 [some gr] [[⟨.slice (bl gr) 1 1, 66, 2, 1, [.slice (rA) ((rl).length) (rc), I ((((rq + 1) : Nat) : Int))]⟩]]) => ?_)
  refine O.nil ?_
  refine C.seq ?_
  refine C.seq ?_
  refine C.region ?_
  refine O.val (v := I (n)) rfl (Ru.move rfl) rfl ?_
  refine O.val (v := .bool (decide (n < 1))) rfl (Ru.lss rfl rfl) rfl ?_
  refine O.val (v := .bool (decide (n < 1))) rfl (Ru.move rfl) rfl ?_
  refine O.partp 17 (n < 1) rfl (fun g17 => ?_) (fun g17 => ?_)
  · refine O.pass rfl rfl rfl rfl rfl ?_
    refine O.pass rfl rfl rfl rfl rfl ?_
    refine O.pass rfl rfl rfl rfl rfl ?_
    refine O.pass rfl rfl rfl rfl rfl ?_
    refine O.pass rfl rfl rfl rfl rfl ?_
    refine O.pass rfl rfl rfl rfl rfl ?_
    refine O.val (v := .bool (true)) rfl (Ru.pickT rfl rfl) rfl ?_
    refine O.nil ?_
    refine C.condT rfl ?_
    refine C.seq ?_
    refine C.region ?_
    refine O.val (v := I (0)) rfl (Ru.assign rfl) rfl ?_
    refine O.nil ?_
    refine C.ret ?_
    refine P1 (v := I (0)) rfl ?_
    exact ⟨0, (by first | rfl | exact sl_congr (by simp) | (simp; done)), ⟨by decide, .inr rfl⟩, (hM1_8.pick [0] (by decide) rfl)⟩
  · refine O.val (v := .pointer (ofs (bl gr) (0))) rfl (Ru.move rfl) rfl ?_
    refine O.val (v := .pointer (ofs (bl gr) (0))) rfl (Ru.nilc rfl rfl) rfl ?_
    refine O.val (v := .pointer (ofs (bl gr) (0))) rfl (Ru.fieldA fl66_0 rfl rfl) rfl ?_
    refine O.val rfl (Ru.load1 el29 rfl ((hM1_8.rd 0 rfl).ld rfl)) rfl ?_
    refine O.val (v := I ((((rl).length : Nat) : Int))) rfl (Ru.blenSlice Try.underlying29 rfl) rfl ?_
    refine O.val (v := .bool (decide ((((rl).length : Nat) : Int) = 0))) rfl (Ru.eql rfl rfl) rfl ?_
    refine O.val (v := .bool (decide ((((rl).length : Nat) : Int) = 0))) rfl (Ru.pickF rfl rfl) rfl ?_
    refine O.nil ?_
    refine C.cond (p := (((rl).length : Nat) : Int) = 0) rfl (fun c24 => ?_) (fun c24 => ?_)
    · refine C.seq ?_
      refine C.region ?_
      refine O.val (v := I (0)) rfl (Ru.assign rfl) rfl ?_
      refine O.nil ?_
      refine C.ret ?_
      refine P1 (v := I (0)) rfl ?_
      exact ⟨0, (by first | rfl | exact sl_congr (by simp) | (simp; done)), ⟨by decide, .inr rfl⟩, (hM1_8.pick [0] (by decide) rfl)⟩
    · refine C.skip ?_
      refine C.seq ?_
      refine C.region ?_
      refine O.val (v := .pointer (ofs (bl gr) (0))) rfl (Ru.move rfl) rfl ?_
      refine O.val (v := .pointer (ofs (bl gr) (0))) rfl (Ru.nilc rfl rfl) rfl ?_
      refine O.val (v := .pointer (ofs (bl gr) (1))) rfl (Ru.fieldA fl66_1 rfl rfl) rfl ?_
      refine O.val rfl (Ru.load1 el3 rfl ((hM1_8.rd 0 rfl).ld rfl)) rfl ?_
      refine O.val (v := I (((rq : Nat) : Int))) rfl (Ru.congr (v := I (((((rq + 1) : Nat) : Int) - 1))) (v' := I (((rq : Nat) : Int))) (Ru.sub rfl rfl (by omega)) (I_congr (by omega))) rfl ?_
      refine O.val (v := I (((rq : Nat) : Int))) rfl (Ru.assign rfl) rfl ?_
      refine O.nil ?_
      refine C.seq ?_
      refine C.seq ?_
      refine C.region ?_
      refine O.val (v := I (((rq : Nat) : Int))) rfl (Ru.move rfl) rfl ?_
      refine O.val (v := .pointer (ofs (bl gr) (0))) rfl (Ru.move rfl) rfl ?_
      refine O.val (v := .pointer (ofs (bl gr) (0))) rfl (Ru.nilc rfl rfl) rfl ?_
      refine O.val (v := .pointer (ofs (bl gr) (0))) rfl (Ru.fieldA fl66_0 rfl rfl) rfl ?_
      refine O.val rfl (Ru.load1 el29 rfl ((hM1_8.rd 0 rfl).ld rfl)) rfl ?_
      refine O.val (v := I ((((rl).length : Nat) : Int))) rfl (Ru.blenSlice Try.underlying29 rfl) rfl ?_
      refine O.val (v := .bool (decide (((rq : Nat) : Int) < (((rl).length : Nat) : Int)))) rfl (Ru.lss rfl rfl) rfl ?_
      refine O.nil ?_
      refine C.cond (p := ((rq : Nat) : Int) < (((rl).length : Nat) : Int)) rfl (fun c36 => ?_) (fun c36 => ?_)
      · have hu2 := u8_le (rl[rq])
        refine C.seq ?_
        refine C.region ?_
        refine O.val (v := .pointer (ofs (bl gr) (0))) rfl (Ru.move rfl) rfl ?_
        refine O.val (v := .pointer (ofs (bl gr) (0))) rfl (Ru.nilc rfl rfl) rfl ?_
        refine O.val (v := .pointer (ofs (bl gr) (0))) rfl (Ru.fieldA fl66_0 rfl rfl) rfl ?_
        refine O.val rfl (Ru.load1 el29 rfl ((hM1_8.rd 0 rfl).ld rfl)) rfl ?_
        refine O.val (v := I (((rq : Nat) : Int))) rfl (Ru.move rfl) rfl ?_
        have hx6_5 : rq < (rl).length := (by first | omega | (simp; omega))
        refine O.val (v := .pointer (ofs (rA) (rq * 1))) rfl (Ru.indexA (j := rq) Try.underlying29 el5 rfl rfl (smm (hrA.atR hM1_8 hro) hx6_5) (by omega) (by first | omega | (simp; omega))) rfl ?_
        refine O.val rfl (Ru.load1 el5 rfl (ldm (hrA.atR hM1_8 hro) hx6_5)) rfl ?_
        refine O.val (v := I ((((rl)[rq]'hx6_5).toNat : Int))) rfl (Ru.conv (c := (((rl)[rq]'hx6_5).toNat : Int)) Try.underlying5 Try.underlying3 rfl (wrap_u8 _ (by omega))) rfl ?_
        refine O.val (v := I (n)) rfl (Ru.move rfl) rfl ?_
        refine O.val (v := I (((((rl)[rq]'hx6_5).toNat : Int) % n))) rfl (Ru.rem rfl rfl (by omega)) rfl ?_
        refine O.val (v := I (((((rl)[rq]'hx6_5).toNat : Int) % n))) rfl (Ru.assign rfl) rfl ?_
        refine O.nil ?_
        refine C.ret ?_
        refine P1 (v := I (((((rl)[rq]'hx6_5).toNat : Int) % n))) rfl ?_
        exact ⟨_, (by first | rfl | exact sl_congr (by simp) | (simp; done)), ⟨Int.emod_nonneg _ (by omega), .inl (Int.emod_lt_of_pos _ (by omega))⟩, (hM1_8.pick [0] (by decide) rfl)⟩
      · have hq0 := Nat.mod_lt rq (show 0 < rl.length by omega)
        have hq1 := Nat.mod_lt (rq * 7 + 3) (show 0 < rl.length by omega)
        have hu0 := u8_le (rl[rq % rl.length])
        have hu1 := u8_le (rl[(rq * 7 + 3) % rl.length])
        obtain ⟨dv, hdq, hdv⟩ : ∃ dv : Nat, dv = rq / rl.length ∧ dv ≤ rq := ⟨_, rfl, Nat.div_le_self _ _⟩
        refine C.skip ?_
        refine C.seq ?_
        refine C.draws (fun w2 => Mem w w2 [some gr] [[⟨.slice (bl gr) 1 1, 66, 2, 1, [.slice (rA) ((rl).length) (rc), I ((((rq + 1) : Nat) : Int))]⟩]]) mixed (by kernel_rfl) (hM1_8.ext (kdrawn _)) ?_
        refine QO.val (v := .pointer (ofs (bl gr) (0))) rfl (fun w2 hw2 => Ru.move rfl) rfl ?_
        refine QO.val (v := .pointer (ofs (bl gr) (0))) rfl (fun w2 hw2 => Ru.nilc rfl rfl) rfl ?_
        refine QO.val (v := .pointer (ofs (bl gr) (0))) rfl (fun w2 hw2 => Ru.fieldA fl66_0 rfl rfl) rfl ?_
        refine QO.val rfl (fun w2 hw2 => Ru.load1 el29 rfl ((hw2.rd 0 rfl).ld rfl)) rfl ?_
        refine QO.val (v := I (((rq : Nat) : Int))) rfl (fun w2 hw2 => Ru.move rfl) rfl ?_
        refine QO.val (v := .pointer (ofs (bl gr) (0))) rfl (fun w2 hw2 => Ru.move rfl) rfl ?_
        refine QO.val (v := .pointer (ofs (bl gr) (0))) rfl (fun w2 hw2 => Ru.nilc rfl rfl) rfl ?_
        refine QO.val (v := .pointer (ofs (bl gr) (0))) rfl (fun w2 hw2 => Ru.fieldA fl66_0 rfl rfl) rfl ?_
        refine QO.val rfl (fun w2 hw2 => Ru.load1 el29 rfl ((hw2.rd 0 rfl).ld rfl)) rfl ?_
        refine QO.val (v := I ((((rl).length : Nat) : Int))) rfl (fun w2 hw2 => Ru.blenSlice Try.underlying29 rfl) rfl ?_
        refine QO.val (v := I ((((rq % (rl).length) : Nat) : Int))) rfl (fun w2 hw2 => Ru.congr (v := I ((((rq : Nat) : Int) % (((rl).length : Nat) : Int)))) (v' := I ((((rq % (rl).length) : Nat) : Int))) (Ru.rem rfl rfl (by omega)) (I_congr (by first | omega | simp))) rfl ?_
        have hx7_11 : (rq % (rl).length) < (rl).length := (by first | omega | (simp; omega))
        refine QO.val (v := .pointer (ofs (rA) ((rq % (rl).length) * 1))) rfl (fun w2 hw2 => Ru.indexA (j := (rq % (rl).length)) Try.underlying29 el5 rfl rfl (smm (hrA.atR hw2 hro) hx7_11) (by omega) (by first | omega | (simp; omega))) rfl ?_
        refine QO.val rfl (fun w2 hw2 => Ru.load1 el5 rfl (ldm (hrA.atR hw2 hro) hx7_11)) rfl ?_
        refine QO.val (v := I ((((rl)[(rq % (rl).length)]'hx7_11).toNat : Int))) rfl (fun w2 hw2 => Ru.conv (c := (((rl)[(rq % (rl).length)]'hx7_11).toNat : Int)) Try.underlying5 Try.underlying3 rfl (wrap_u8 _ (by omega))) rfl ?_
        refine QO.val (v := I ((((((rl)[(rq % (rl).length)]'hx7_11).toNat * 131) : Nat) : Int))) rfl (fun w2 hw2 => Ru.congr (v := I (((((rl)[(rq % (rl).length)]'hx7_11).toNat : Int) * 131))) (v' := I ((((((rl)[(rq % (rl).length)]'hx7_11).toNat * 131) : Nat) : Int))) (Ru.mul rfl rfl (by omega)) (I_congr (by first | omega | simp))) rfl ?_
        refine QO.val (v := .pointer (ofs (bl gr) (0))) rfl (fun w2 hw2 => Ru.move rfl) rfl ?_
        refine QO.val (v := .pointer (ofs (bl gr) (0))) rfl (fun w2 hw2 => Ru.nilc rfl rfl) rfl ?_
        refine QO.val (v := .pointer (ofs (bl gr) (0))) rfl (fun w2 hw2 => Ru.fieldA fl66_0 rfl rfl) rfl ?_
        refine QO.val rfl (fun w2 hw2 => Ru.load1 el29 rfl ((hw2.rd 0 rfl).ld rfl)) rfl ?_
        refine QO.val (v := I (((rq : Nat) : Int))) rfl (fun w2 hw2 => Ru.move rfl) rfl ?_
        refine QO.val (v := I ((((rq * 7) : Nat) : Int))) rfl (fun w2 hw2 => Ru.congr (v := I ((((rq : Nat) : Int) * 7))) (v' := I ((((rq * 7) : Nat) : Int))) (Ru.mul rfl rfl (by omega)) (I_congr (by first | omega | simp))) rfl ?_
        refine QO.val (v := I (((((rq * 7) + 3) : Nat) : Int))) rfl (fun w2 hw2 => Ru.congr (v := I (((((rq * 7) : Nat) : Int) + 3))) (v' := I (((((rq * 7) + 3) : Nat) : Int))) (Ru.add rfl rfl (by omega)) (I_congr (by first | omega | simp))) rfl ?_
        refine QO.val (v := .pointer (ofs (bl gr) (0))) rfl (fun w2 hw2 => Ru.move rfl) rfl ?_
        refine QO.val (v := .pointer (ofs (bl gr) (0))) rfl (fun w2 hw2 => Ru.nilc rfl rfl) rfl ?_
        refine QO.val (v := .pointer (ofs (bl gr) (0))) rfl (fun w2 hw2 => Ru.fieldA fl66_0 rfl rfl) rfl ?_
        refine QO.val rfl (fun w2 hw2 => Ru.load1 el29 rfl ((hw2.rd 0 rfl).ld rfl)) rfl ?_
        refine QO.val (v := I ((((rl).length : Nat) : Int))) rfl (fun w2 hw2 => Ru.blenSlice Try.underlying29 rfl) rfl ?_
        refine QO.val (v := I ((((((rq * 7) + 3) % (rl).length) : Nat) : Int))) rfl (fun w2 hw2 => Ru.congr (v := I ((((((rq * 7) + 3) : Nat) : Int) % (((rl).length : Nat) : Int)))) (v' := I ((((((rq * 7) + 3) % (rl).length) : Nat) : Int))) (Ru.rem rfl rfl (by omega)) (I_congr (by first | omega | simp))) rfl ?_
        have hx7_28 : (((rq * 7) + 3) % (rl).length) < (rl).length := (by first | omega | (simp; omega))
        refine QO.val (v := .pointer (ofs (rA) ((((rq * 7) + 3) % (rl).length) * 1))) rfl (fun w2 hw2 => Ru.indexA (j := (((rq * 7) + 3) % (rl).length)) Try.underlying29 el5 rfl rfl (smm (hrA.atR hw2 hro) hx7_28) (by omega) (by first | omega | (simp; omega))) rfl ?_
        refine QO.val rfl (fun w2 hw2 => Ru.load1 el5 rfl (ldm (hrA.atR hw2 hro) hx7_28)) rfl ?_
        refine QO.val (v := I ((((rl)[(((rq * 7) + 3) % (rl).length)]'hx7_28).toNat : Int))) rfl (fun w2 hw2 => Ru.conv (c := (((rl)[(((rq * 7) + 3) % (rl).length)]'hx7_28).toNat : Int)) Try.underlying5 Try.underlying3 rfl (wrap_u8 _ (by omega))) rfl ?_
        refine QO.val (v := I ((((((rl)[(((rq * 7) + 3) % (rl).length)]'hx7_28).toNat * 1117) : Nat) : Int))) rfl (fun w2 hw2 => Ru.congr (v := I (((((rl)[(((rq * 7) + 3) % (rl).length)]'hx7_28).toNat : Int) * 1117))) (v' := I ((((((rl)[(((rq * 7) + 3) % (rl).length)]'hx7_28).toNat * 1117) : Nat) : Int))) (Ru.mul rfl rfl (by omega)) (I_congr (by first | omega | simp))) rfl ?_
        refine QO.val (v := I (((((((rl)[(rq % (rl).length)]'hx7_11).toNat * 131) + (((rl)[(((rq * 7) + 3) % (rl).length)]'hx7_28).toNat * 1117)) : Nat) : Int))) rfl (fun w2 hw2 => Ru.congr (v := I (((((((rl)[(rq % (rl).length)]'hx7_11).toNat * 131) : Nat) : Int) + (((((rl)[(((rq * 7) + 3) % (rl).length)]'hx7_28).toNat * 1117) : Nat) : Int)))) (v' := I (((((((rl)[(rq % (rl).length)]'hx7_11).toNat * 131) + (((rl)[(((rq * 7) + 3) % (rl).length)]'hx7_28).toNat * 1117)) : Nat) : Int))) (Ru.add rfl rfl (by omega)) (I_congr (by first | omega | simp))) rfl ?_
        refine QO.val (v := I (((rq : Nat) : Int))) rfl (fun w2 hw2 => Ru.move rfl) rfl ?_
        refine QO.val (v := I ((((rq * 29) : Nat) : Int))) rfl (fun w2 hw2 => Ru.congr (v := I ((((rq : Nat) : Int) * 29))) (v' := I ((((rq * 29) : Nat) : Int))) (Ru.mul rfl rfl (by omega)) (I_congr (by first | omega | simp))) rfl ?_
        refine QO.val (v := I ((((((((rl)[(rq % (rl).length)]'hx7_11).toNat * 131) + (((rl)[(((rq * 7) + 3) % (rl).length)]'hx7_28).toNat * 1117)) + (rq * 29)) : Nat) : Int))) rfl (fun w2 hw2 => Ru.congr (v := I ((((((((rl)[(rq % (rl).length)]'hx7_11).toNat * 131) + (((rl)[(((rq * 7) + 3) % (rl).length)]'hx7_28).toNat * 1117)) : Nat) : Int) + (((rq * 29) : Nat) : Int)))) (v' := I ((((((((rl)[(rq % (rl).length)]'hx7_11).toNat * 131) + (((rl)[(((rq * 7) + 3) % (rl).length)]'hx7_28).toNat * 1117)) + (rq * 29)) : Nat) : Int))) (Ru.add rfl rfl (by omega)) (I_congr (by first | omega | simp))) rfl ?_
        refine QO.val (v := I (((rq : Nat) : Int))) rfl (fun w2 hw2 => Ru.move rfl) rfl ?_
        refine QO.val (v := .pointer (ofs (bl gr) (0))) rfl (fun w2 hw2 => Ru.move rfl) rfl ?_
        refine QO.val (v := .pointer (ofs (bl gr) (0))) rfl (fun w2 hw2 => Ru.nilc rfl rfl) rfl ?_
        refine QO.val (v := .pointer (ofs (bl gr) (0))) rfl (fun w2 hw2 => Ru.fieldA fl66_0 rfl rfl) rfl ?_
        refine QO.val rfl (fun w2 hw2 => Ru.load1 el29 rfl ((hw2.rd 0 rfl).ld rfl)) rfl ?_
        refine QO.val (v := I ((((rl).length : Nat) : Int))) rfl (fun w2 hw2 => Ru.blenSlice Try.underlying29 rfl) rfl ?_
        refine QO.val (v := I (((dv : Nat) : Int))) rfl (fun w2 hw2 => Ru.congr (v := I ((((rq : Nat) : Int) / (((rl).length : Nat) : Int)))) (v' := I (((dv : Nat) : Int))) (Ru.quo rfl rfl (by omega)) (I_congr (by rw [hdq]; simp))) rfl ?_
        refine QO.val (v := I ((((dv * 53) : Nat) : Int))) rfl (fun w2 hw2 => Ru.congr (v := I ((((dv : Nat) : Int) * 53))) (v' := I ((((dv * 53) : Nat) : Int))) (Ru.mul rfl rfl (by omega)) (I_congr (by first | omega | simp))) rfl ?_
        refine QO.val (v := I (((((((((rl)[(rq % (rl).length)]'hx7_11).toNat * 131) + (((rl)[(((rq * 7) + 3) % (rl).length)]'hx7_28).toNat * 1117)) + (rq * 29)) + (dv * 53)) : Nat) : Int))) rfl (fun w2 hw2 => Ru.congr (v := I (((((((((rl)[(rq % (rl).length)]'hx7_11).toNat * 131) + (((rl)[(((rq * 7) + 3) % (rl).length)]'hx7_28).toNat * 1117)) + (rq * 29)) : Nat) : Int) + (((dv * 53) : Nat) : Int)))) (v' := I (((((((((rl)[(rq % (rl).length)]'hx7_11).toNat * 131) + (((rl)[(((rq * 7) + 3) % (rl).length)]'hx7_28).toNat * 1117)) + (rq * 29)) + (dv * 53)) : Nat) : Int))) (Ru.add rfl rfl (by omega)) (I_congr (by first | omega | simp))) rfl ?_
        refine QO.val (v := I (((((((((rl)[(rq % (rl).length)]'hx7_11).toNat * 131) + (((rl)[(((rq * 7) + 3) % (rl).length)]'hx7_28).toNat * 1117)) + (rq * 29)) + (dv * 53)) : Nat) : Int))) rfl (fun w2 hw2 => Ru.assign rfl) rfl ?_
        refine QO.nil ?_
        intro w7d hM7d
        refine C.seq ?_
        refine C.region ?_
        refine O.val (v := I (((((((((rl)[(rq % (rl).length)]'hx7_11).toNat * 131) + (((rl)[(((rq * 7) + 3) % (rl).length)]'hx7_28).toNat * 1117)) + (rq * 29)) + (dv * 53)) : Nat) : Int))) rfl (Ru.move rfl) rfl ?_
        refine O.val (v := I (((((((((rl)[(rq % (rl).length)]'hx7_11).toNat * 131) + (((rl)[(((rq * 7) + 3) % (rl).length)]'hx7_28).toNat * 1117)) + (rq * 29)) + (dv * 53)) : Nat) : Int))) rfl (Ru.move rfl) rfl ?_
        refine O.val (v := I ((((((((((rl)[(rq % (rl).length)]'hx7_11).toNat * 131) + (((rl)[(((rq * 7) + 3) % (rl).length)]'hx7_28).toNat * 1117)) + (rq * 29)) + (dv * 53)) / 64) : Nat) : Int))) rfl (Ru.congr (v := I ((((((((((rl)[(rq % (rl).length)]'hx7_11).toNat * 131) + (((rl)[(((rq * 7) + 3) % (rl).length)]'hx7_28).toNat * 1117)) + (rq * 29)) + (dv * 53)) : Nat) : Int) / 64))) (v' := I ((((((((((rl)[(rq % (rl).length)]'hx7_11).toNat * 131) + (((rl)[(((rq * 7) + 3) % (rl).length)]'hx7_28).toNat * 1117)) + (rq * 29)) + (dv * 53)) / 64) : Nat) : Int))) (Ru.quo rfl rfl (by omega)) (I_congr (by first | omega | simp))) rfl ?_
        refine O.val (v := I ((((((((((((rl)[(rq % (rl).length)]'hx7_11).toNat * 131) + (((rl)[(((rq * 7) + 3) % (rl).length)]'hx7_28).toNat * 1117)) + (rq * 29)) + (dv * 53)) : Nat) : Int)).toNat ^^^ ((((((((((rl)[(rq % (rl).length)]'hx7_11).toNat * 131) + (((rl)[(((rq * 7) + 3) % (rl).length)]'hx7_28).toNat * 1117)) + (rq * 29)) + (dv * 53)) / 64) : Nat) : Int)).toNat : Nat) : Int))) rfl (Ru.xor rfl rfl (by omega) (by omega)) rfl ?_
        refine O.val (v := I ((((((((((((rl)[(rq % (rl).length)]'hx7_11).toNat * 131) + (((rl)[(((rq * 7) + 3) % (rl).length)]'hx7_28).toNat * 1117)) + (rq * 29)) + (dv * 53)) : Nat) : Int)).toNat ^^^ ((((((((((rl)[(rq % (rl).length)]'hx7_11).toNat * 131) + (((rl)[(((rq * 7) + 3) % (rl).length)]'hx7_28).toNat * 1117)) + (rq * 29)) + (dv * 53)) / 64) : Nat) : Int)).toNat : Nat) : Int))) rfl (Ru.assign rfl) rfl ?_
        refine O.nil ?_
        refine C.seq ?_
        refine C.region ?_
        refine O.val (v := I ((((((((((((rl)[(rq % (rl).length)]'hx7_11).toNat * 131) + (((rl)[(((rq * 7) + 3) % (rl).length)]'hx7_28).toNat * 1117)) + (rq * 29)) + (dv * 53)) : Nat) : Int)).toNat ^^^ ((((((((((rl)[(rq % (rl).length)]'hx7_11).toNat * 131) + (((rl)[(((rq * 7) + 3) % (rl).length)]'hx7_28).toNat * 1117)) + (rq * 29)) + (dv * 53)) / 64) : Nat) : Int)).toNat : Nat) : Int))) rfl (Ru.move rfl) rfl ?_
        refine O.val (v := I (n)) rfl (Ru.move rfl) rfl ?_
        refine O.val (v := I (((((((((((((rl)[(rq % (rl).length)]'hx7_11).toNat * 131) + (((rl)[(((rq * 7) + 3) % (rl).length)]'hx7_28).toNat * 1117)) + (rq * 29)) + (dv * 53)) : Nat) : Int)).toNat ^^^ ((((((((((rl)[(rq % (rl).length)]'hx7_11).toNat * 131) + (((rl)[(((rq * 7) + 3) % (rl).length)]'hx7_28).toNat * 1117)) + (rq * 29)) + (dv * 53)) / 64) : Nat) : Int)).toNat : Nat) : Int) % n))) rfl (Ru.rem rfl rfl (by omega)) rfl ?_
        refine O.val (v := I (((((((((((((rl)[(rq % (rl).length)]'hx7_11).toNat * 131) + (((rl)[(((rq * 7) + 3) % (rl).length)]'hx7_28).toNat * 1117)) + (rq * 29)) + (dv * 53)) : Nat) : Int)).toNat ^^^ ((((((((((rl)[(rq % (rl).length)]'hx7_11).toNat * 131) + (((rl)[(((rq * 7) + 3) % (rl).length)]'hx7_28).toNat * 1117)) + (rq * 29)) + (dv * 53)) / 64) : Nat) : Int)).toNat : Nat) : Int) % n))) rfl (Ru.assign rfl) rfl ?_
        refine O.nil ?_
        refine C.ret ?_
        refine P1 (v := I (((((((((((((rl)[(rq % (rl).length)]'hx7_11).toNat * 131) + (((rl)[(((rq * 7) + 3) % (rl).length)]'hx7_28).toNat * 1117)) + (rq * 29)) + (dv * 53)) : Nat) : Int)).toNat ^^^ ((((((((((rl)[(rq % (rl).length)]'hx7_11).toNat * 131) + (((rl)[(((rq * 7) + 3) % (rl).length)]'hx7_28).toNat * 1117)) + (rq * 29)) + (dv * 53)) / 64) : Nat) : Int)).toNat : Nat) : Int) % n))) rfl ?_
        exact ⟨_, (by first | rfl | exact sl_congr (by simp) | (simp; done)), ⟨Int.emod_nonneg _ (by omega), .inl (Int.emod_lt_of_pos _ (by omega))⟩, (hM7d.pick [0] (by decide) rfl)⟩

theorem of_fn (gr : Nat) (rA : Option Addr) (rc : Nat) (rl : List UInt8) (rq : Nat) (A : Option Addr) (c : Nat) (l : List Str) (w : World) (hrA : Rd w rA (rl.map byteV)) (hro : Off rA (rl.map byteV) [some gr]) (hrl : rl.length ≤ 2000) (hA : Rd w A ((l).map S)) (hoA : Off A ((l).map S) [some gr]) (hM : Mem w w [some gr] [[⟨.slice (bl gr) 1 1, 66, 2, 1, [.slice (rA) ((rl).length) (rc), I (((rq : Nat) : Int))]⟩]]) (hrq : rq ≤ 999999990) (hl : 0 < l.length) (hm : l.length ≤ 1000) :
    Does Try.prog 61 [.pointer (ofs (bl gr) (0)), .slice (A) ((l).length) (c)] w (fun v w1 => ∃ (s : Str), v = S (s) ∧ (s ∈ l) ∧ Mem w w1 [some gr] [[⟨.slice (bl gr) 1 1, 66, 2, 1, [.slice (rA) ((rl).length) (rc), I (((rq + 1 : Nat) : Int))]⟩]]) := by
  refine Does.enter1 Try.func61 rfl Try.results61 Try.ntmps61 rfl ?_
  refine C.seq ?_
  refine C.region ?_
  refine O.val (v := S ([])) rfl (Ru.assign rfl) rfl ?_
  refine O.nil ?_
  refine C.seq ?_
  refine C.region ?_
  refine O.val (v := .slice (A) ((l).length) (c)) rfl (Ru.move rfl) rfl ?_
  refine O.val (v := .pointer (ofs (bl gr) (0))) rfl (Ru.move rfl) rfl ?_
  refine O.val (v := .slice (A) ((l).length) (c)) rfl (Ru.move rfl) rfl ?_
  refine O.val (v := I ((((l).length : Nat) : Int))) rfl (Ru.blenSlice Try.underlying24 rfl) rfl ?_
  refine O.callg [.pointer (ofs (bl gr) (0)), I ((((l).length : Nat) : Int))] rfl en55 rfl rfl (pick_fn gr rA rc rl rq (((l).length : Nat) : Int) w (hrA.atR hM hro) hro hrl (Mem.focus (Ma := [[⟨.slice (bl gr) 1 1, 66, 2, 1, [.slice (rA) ((rl).length) (rc), I (((rq : Nat) : Int))]⟩]]) (rest := []) hM rfl) (by first | omega | assumption | (simp; omega) | simp | (intros; omega))) ?_
  rintro _ w1_4 ⟨k1_4, rfl, hk1_4, hR1_4⟩
  have hM1_4 : Mem w w1_4 [some gr] [[⟨.slice (bl gr) 1 1, 66, 2, 1, [.slice (rA) ((rl).length) (rc), I (((rq + 1 : Nat) : Int))]⟩]] := Mem.call (Ma := [[⟨.slice (bl gr) 1 1, 66, 2, 1, [.slice (rA) ((rl).length) (rc), I (((rq : Nat) : Int))]⟩]]) hM hR1_4 rfl
  have hkk := hk1_4
  have hx1_5 : (k1_4).toNat < (l).length := (by first | omega | (simp; omega))
  refine O.val (v := .pointer (ofs (A) (((k1_4).toNat) * 1))) rfl (Ru.indexA (j := (k1_4).toNat) Try.underlying24 el9 rfl rfl (smm (hA.atR hM1_4 hoA) hx1_5) (by omega) (by first | omega | (simp; omega))) rfl ?_
  refine O.val rfl (Ru.load1 el9 rfl (ldm (hA.atR hM1_4 hoA) hx1_5)) rfl ?_
  refine O.val (v := S ((l)[(k1_4).toNat]'hx1_5)) rfl (Ru.assign rfl) rfl ?_
  refine O.nil ?_
  refine C.ret ?_
  refine P1 (v := S ((l)[(k1_4).toNat]'hx1_5)) rfl ?_
  exact ⟨_, (by first | rfl | exact sl_congr (by simp) | (simp; done)), List.getElem_mem _, (hM1_4.pick [0] (by decide) rfl)⟩

theorem one_fn (gr : Nat) (rA : Option Addr) (rc : Nat) (rl : List UInt8) (rq : Nat) (A : Option Addr) (c : Nat) (l : List Int) (w : World) (hrA : Rd w rA (rl.map byteV)) (hro : Off rA (rl.map byteV) [some gr]) (hrl : rl.length ≤ 2000) (hA : Rd w A ((l).map I)) (hoA : Off A ((l).map I) [some gr]) (hM : Mem w w [some gr] [[⟨.slice (bl gr) 1 1, 66, 2, 1, [.slice (rA) ((rl).length) (rc), I (((rq : Nat) : Int))]⟩]]) (hrq : rq ≤ 999999990) (hl : 0 < l.length) (hm : l.length ≤ 1000) :
    Does Try.prog 60 [.pointer (ofs (bl gr) (0)), .slice (A) ((l).length) (c)] w (fun v w1 => ∃ (k : Int), v = I (k) ∧ (k ∈ l) ∧ Mem w w1 [some gr] [[⟨.slice (bl gr) 1 1, 66, 2, 1, [.slice (rA) ((rl).length) (rc), I (((rq + 1 : Nat) : Int))]⟩]]) := by
  refine Does.enter1 Try.func60 rfl Try.results60 Try.ntmps60 rfl ?_
  refine C.seq ?_
  refine C.region ?_
  refine O.val (v := I (0)) rfl (Ru.assign rfl) rfl ?_
  refine O.nil ?_
  refine C.seq ?_
  refine C.region ?_
  refine O.val (v := .slice (A) ((l).length) (c)) rfl (Ru.move rfl) rfl ?_
  refine O.val (v := .pointer (ofs (bl gr) (0))) rfl (Ru.move rfl) rfl ?_
  refine O.val (v := .slice (A) ((l).length) (c)) rfl (Ru.move rfl) rfl ?_
  refine O.val (v := I ((((l).length : Nat) : Int))) rfl (Ru.blenSlice Try.underlying59 rfl) rfl ?_
  refine O.callg [.pointer (ofs (bl gr) (0)), I ((((l).length : Nat) : Int))] rfl en55 rfl rfl (pick_fn gr rA rc rl rq (((l).length : Nat) : Int) w (hrA.atR hM hro) hro hrl (Mem.focus (Ma := [[⟨.slice (bl gr) 1 1, 66, 2, 1, [.slice (rA) ((rl).length) (rc), I (((rq : Nat) : Int))]⟩]]) (rest := []) hM rfl) (by first | omega | assumption | (simp; omega) | simp | (intros; omega))) ?_
  rintro _ w1_4 ⟨k1_4, rfl, hk1_4, hR1_4⟩
  have hM1_4 : Mem w w1_4 [some gr] [[⟨.slice (bl gr) 1 1, 66, 2, 1, [.slice (rA) ((rl).length) (rc), I (((rq + 1 : Nat) : Int))]⟩]] := Mem.call (Ma := [[⟨.slice (bl gr) 1 1, 66, 2, 1, [.slice (rA) ((rl).length) (rc), I (((rq : Nat) : Int))]⟩]]) hM hR1_4 rfl
  have hkk := hk1_4
  have hx1_5 : (k1_4).toNat < (l).length := (by first | omega | (simp; omega))
  refine O.val (v := .pointer (ofs (A) (((k1_4).toNat) * 1))) rfl (Ru.indexA (j := (k1_4).toNat) Try.underlying59 el3 rfl rfl (smm (hA.atR hM1_4 hoA) hx1_5) (by omega) (by first | omega | (simp; omega))) rfl ?_
  refine O.val rfl (Ru.load1 el3 rfl (ldm (hA.atR hM1_4 hoA) hx1_5)) rfl ?_
  refine O.val (v := I ((l)[(k1_4).toNat]'hx1_5)) rfl (Ru.assign rfl) rfl ?_
  refine O.nil ?_
  refine C.ret ?_
  refine P1 (v := I ((l)[(k1_4).toNat]'hx1_5)) rfl ?_
  exact ⟨_, (by first | rfl | exact sl_congr (by simp) | (simp; done)), List.getElem_mem _, (hM1_4.pick [0] (by decide) rfl)⟩

theorem someWord_fn (gr : Nat) (rA : Option Addr) (rc : Nat) (rl : List UInt8) (rq : Nat) (w : World) (hrA : Rd w rA (rl.map byteV)) (hro : Off rA (rl.map byteV) [some gr]) (hrl : rl.length ≤ 2000) (hM : Mem w w [some gr] [[⟨.slice (bl gr) 1 1, 66, 2, 1, [.slice (rA) ((rl).length) (rc), I (((rq : Nat) : Int))]⟩]]) (hrq : rq ≤ 999999970) :
    Does Try.prog 54 [.pointer (ofs (bl gr) (0))] w (fun v w1 => ∃ (s : Str), v = S (s) ∧ (s.length ≤ 8) ∧ Mem w w1 [some gr] [[⟨.slice (bl gr) 1 1, 66, 2, 1, [.slice (rA) ((rl).length) (rc), I (((rq + 2 : Nat) : Int))]⟩]]) := by
  refine Does.enter1 Try.func54 rfl Try.results54 Try.ntmps54 rfl ?_
  refine C.seq ?_
  refine C.region ?_
  refine O.val (v := S ([])) rfl (Ru.assign rfl) rfl ?_
  refine O.nil ?_
  refine C.seq ?_
  refine C.region ?_
  refine O.val (v := .pointer (ofs (bl gr) (0))) rfl (Ru.move rfl) rfl ?_
  refine O.mlit (sz := 1) (cs := [S ([]), S ([97]), S ([97, 98]), S ([97, 98, 99]), S ([98])]) hM rfl Try.underlying24 el9 rfl rfl rfl (by kernel_rfl) (by kernel_rfl) rfl rfl (fun w1_1 b1_1 hb1_1 (hM1_1 : Mem w w1_1 [some gr] [[⟨.slice (bl b1_1) (5) (5), 9, 1, 5, ([[], [97], [97, 98], [97, 98, 99], [98]]).map S⟩], [⟨.slice (bl gr) 1 1, 66, 2, 1, [.slice (rA) ((rl).length) (rc), I (((rq : Nat) : Int))]⟩]]) => ?_)
  have hMf1_2 : Mem w w1_1 [some gr] [[⟨.slice (bl gr) 1 1, 66, 2, 1, [.slice (rA) ((rl).length) (rc), I (((rq : Nat) : Int))]⟩], [⟨.slice (bl b1_1) (5) (5), 9, 1, 5, ([[], [97], [97, 98], [97, 98, 99], [98]]).map S⟩]] := hM1_1.pick [1, 0] (by decide) rfl
  refine O.callg [.pointer (ofs (bl gr) (0)), .slice (bl b1_1) (([[], [97], [97, 98], [97, 98, 99], [98]]).length) (5)] rfl en61 (by first | rfl | (rw [show ([[], [97], [97, 98], [97, 98, 99], [98]]).length = 5 from (by first | rfl | (simp; done) | omega | (simp; omega))]; rfl)) rfl (of_fn gr rA rc rl rq (bl b1_1) 5 ([[], [97], [97, 98], [97, 98, 99], [98]]) w1_1 (hrA.atR hMf1_2 hro) hro hrl (hMf1_2.rd 1 rfl) (Off.of_ng (hMf1_2.ng 1 0 (by decide) rfl rfl)) (Mem.focus (Ma := [[⟨.slice (bl gr) 1 1, 66, 2, 1, [.slice (rA) ((rl).length) (rc), I (((rq : Nat) : Int))]⟩]]) (rest := [[⟨.slice (bl b1_1) (5) (5), 9, 1, 5, ([[], [97], [97, 98], [97, 98, 99], [98]]).map S⟩]]) hMf1_2 rfl) (by first | omega | assumption | (simp; omega) | simp | (intros; omega)) (by simp) (by simp)) ?_
  rintro _ w1_2 ⟨s1_2, rfl, hs1_2, hR1_2⟩
  have hM1_2 : Mem w w1_2 [some gr] [[⟨.slice (bl gr) 1 1, 66, 2, 1, [.slice (rA) ((rl).length) (rc), I (((rq + 1 : Nat) : Int))]⟩], [⟨.slice (bl b1_1) (5) (5), 9, 1, 5, ([[], [97], [97, 98], [97, 98, 99], [98]]).map S⟩]] := Mem.call (Ma := [[⟨.slice (bl gr) 1 1, 66, 2, 1, [.slice (rA) ((rl).length) (rc), I (((rq : Nat) : Int))]⟩]]) hMf1_2 hR1_2 rfl
  have hln1 : s1_2.length ≤ 4 := (by decide : ∀ s ∈ ([[], [97], [97, 98], [97, 98, 99], [98]] : List Str), s.length ≤ 4) _ hs1_2
  refine O.val (v := .pointer (ofs (bl gr) (0))) rfl (Ru.move rfl) rfl ?_
  refine O.mlit (sz := 1) (cs := [S ([97]), S ([98]), S ([98, 97]), S ([99]), S ([97, 98, 99, 100]), S ([122, 122]), S ([]), S ([65])]) hM1_2 rfl Try.underlying24 el9 rfl rfl rfl (by kernel_rfl) (by kernel_rfl) rfl rfl (fun w1_4 b1_4 hb1_4 (hM1_4 : Mem w w1_4 [some gr] [[⟨.slice (bl b1_4) (8) (8), 9, 1, 8, ([[97], [98], [98, 97], [99], [97, 98, 99, 100], [122, 122], [], [65]]).map S⟩], [⟨.slice (bl gr) 1 1, 66, 2, 1, [.slice (rA) ((rl).length) (rc), I (((rq + 1 : Nat) : Int))]⟩], [⟨.slice (bl b1_1) (5) (5), 9, 1, 5, ([[], [97], [97, 98], [97, 98, 99], [98]]).map S⟩]]) => ?_)
  have hMf1_5 : Mem w w1_4 [some gr] [[⟨.slice (bl gr) 1 1, 66, 2, 1, [.slice (rA) ((rl).length) (rc), I (((rq + 1 : Nat) : Int))]⟩], [⟨.slice (bl b1_4) (8) (8), 9, 1, 8, ([[97], [98], [98, 97], [99], [97, 98, 99, 100], [122, 122], [], [65]]).map S⟩], [⟨.slice (bl b1_1) (5) (5), 9, 1, 5, ([[], [97], [97, 98], [97, 98, 99], [98]]).map S⟩]] := hM1_4.pick [1, 0, 2] (by decide) rfl
  refine O.callg [.pointer (ofs (bl gr) (0)), .slice (bl b1_4) (([[97], [98], [98, 97], [99], [97, 98, 99, 100], [122, 122], [], [65]]).length) (8)] rfl en61 (by first | rfl | (rw [show ([[97], [98], [98, 97], [99], [97, 98, 99, 100], [122, 122], [], [65]]).length = 8 from (by first | rfl | (simp; done) | omega | (simp; omega))]; rfl)) rfl (of_fn gr rA rc rl (rq + 1) (bl b1_4) 8 ([[97], [98], [98, 97], [99], [97, 98, 99, 100], [122, 122], [], [65]]) w1_4 (hrA.atR hMf1_5 hro) hro hrl (hMf1_5.rd 1 rfl) (Off.of_ng (hMf1_5.ng 1 0 (by decide) rfl rfl)) (Mem.focus (Ma := [[⟨.slice (bl gr) 1 1, 66, 2, 1, [.slice (rA) ((rl).length) (rc), I (((rq + 1 : Nat) : Int))]⟩]]) (rest := [[⟨.slice (bl b1_4) (8) (8), 9, 1, 8, ([[97], [98], [98, 97], [99], [97, 98, 99, 100], [122, 122], [], [65]]).map S⟩], [⟨.slice (bl b1_1) (5) (5), 9, 1, 5, ([[], [97], [97, 98], [97, 98, 99], [98]]).map S⟩]]) hMf1_5 rfl) (by first | omega | assumption | (simp; omega) | simp | (intros; omega)) (by simp) (by simp)) ?_
  rintro _ w1_5 ⟨s1_5, rfl, hs1_5, hR1_5⟩
  have hM1_5 : Mem w w1_5 [some gr] [[⟨.slice (bl gr) 1 1, 66, 2, 1, [.slice (rA) ((rl).length) (rc), I ((((rq + 1) + 1 : Nat) : Int))]⟩], [⟨.slice (bl b1_4) (8) (8), 9, 1, 8, ([[97], [98], [98, 97], [99], [97, 98, 99, 100], [122, 122], [], [65]]).map S⟩], [⟨.slice (bl b1_1) (5) (5), 9, 1, 5, ([[], [97], [97, 98], [97, 98, 99], [98]]).map S⟩]] := Mem.call (Ma := [[⟨.slice (bl gr) 1 1, 66, 2, 1, [.slice (rA) ((rl).length) (rc), I (((rq + 1 : Nat) : Int))]⟩]]) hMf1_5 hR1_5 rfl
  have hln2 : s1_5.length ≤ 4 := (by decide : ∀ s ∈ ([[97], [98], [98, 97], [99], [97, 98, 99, 100], [122, 122], [], [65]] : List Str), s.length ≤ 4) _ hs1_5
  refine O.val (v := S ((s1_2 ++ s1_5))) rfl (Ru.sadd rfl rfl (by omega)) rfl ?_
  refine O.val (v := S ((s1_2 ++ s1_5))) rfl (Ru.assign rfl) rfl ?_
  refine O.nil ?_
  refine C.ret ?_
  refine P1 (v := S ((s1_2 ++ s1_5))) rfl ?_
  exact ⟨_, (by first | rfl | exact sl_congr (by simp) | (simp; done)), (by simp; omega), (hM1_5.pick [0] (by decide) rfl)⟩

theorem newReader_fn (A : Option Addr) (c : Nat) (l : List UInt8) (w : World) (hA : Rd w A ((l).map byteV)) (hl : l.length ≤ 1048576) (hc : l.length ≤ c) :
    Does Try.prog 53 [.slice (A) ((l).length) (c)] w (fun v w1 => ∃ (gr : Nat) (l1 : List UInt8), v = .pointer (ofs (bl gr) (0)) ∧ (l1 = l ∨ l1 = l.take 2000) ∧ (l1.length ≤ 2000) ∧ Mem w w1 [] [[⟨.slice (bl gr) 1 1, 66, 2, 1, [.slice (A) ((l1).length) (c), I (((0 : Nat) : Int))]⟩]]) := by
  have hM : Mem w w [] [] := Mem.refl
  refine Does.enter1 Try.func53 rfl Try.results53 Try.ntmps53 rfl ?_
  refine C.seq ?_
  refine C.region ?_
  refine O.val rfl (Ru.assign rfl) rfl ?_
  refine O.nil ?_
  refine C.seq ?_
  refine C.seq ?_
  refine C.region ?_
  refine O.val (v := .slice (A) ((l).length) (c)) rfl (Ru.move rfl) rfl ?_
  refine O.val (v := I ((((l).length : Nat) : Int))) rfl (Ru.blenSlice Try.underlying29 rfl) rfl ?_
  refine O.val (v := .bool (decide ((((l).length : Nat) : Int) > 2000))) rfl (Ru.gtr rfl rfl) rfl ?_
  refine O.nil ?_
  refine C.cond (p := (((l).length : Nat) : Int) > 2000) rfl (fun c5 => ?_) (fun c5 => ?_)
  · refine C.region ?_
    refine O.val (v := .slice (A) ((l).length) (c)) rfl (Ru.move rfl) rfl ?_
    refine O.val (v := .slice (A) ((l.take 2000).length) (c)) rfl (Ru.congr (v := .slice (A) (2000) (c)) (v' := .slice (A) ((l.take 2000).length) (c)) (Ru.lsliceTo (h := 2000) Try.underlying29 el5 rfl rfl (by omega) (by omega)) (sl_congr (by simp; omega))) rfl ?_
    refine O.val (v := .slice (A) ((l.take 2000).length) (c)) rfl (Ru.assign rfl) rfl ?_
    refine O.nil ?_
    refine C.seq ?_
    refine C.region ?_
    refine O.val (v := .slice (A) ((l.take 2000).length) (c)) rfl (Ru.move rfl) rfl ?_
    refine O.val (v := .agg #[.slice (A) ((l.take 2000).length) (c), I (0)]) rfl (Ru.build of66 rfl rfl rfl) rfl ?_
    refine O.mbox (k := 2) (vs := [.slice (A) ((l.take 2000).length) (c), I (0)]) hM rfl rfl rfl rfl rfl (fun w3_2 b3_2 hb3_2 (hM3_2 : Mem w w3_2 [] [[⟨.slice (bl b3_2) 1 1, 66, 2, 1, [.slice (A) ((l.take 2000).length) (c), I (0)]⟩]]) => ?_)
    refine O.val (v := .pointer (ofs (bl b3_2) (0))) rfl (Ru.assign rfl) rfl ?_
    refine O.nil ?_
    refine C.ret ?_
    refine P1 (v := .pointer (ofs (bl b3_2) (0))) rfl ?_
    exact ⟨b3_2, l.take 2000, (by first | rfl | exact sl_congr (by simp) | (simp; done)), (by first | exact .inl rfl | exact .inr rfl), (by simp; omega), (hM3_2.pick [0] (by decide) rfl)⟩
  · refine C.skip ?_
    refine C.seq ?_
    refine C.region ?_
    refine O.val (v := .slice (A) ((l).length) (c)) rfl (Ru.move rfl) rfl ?_
    refine O.val (v := .agg #[.slice (A) ((l).length) (c), I (0)]) rfl (Ru.build of66 rfl rfl rfl) rfl ?_
    refine O.mbox (k := 2) (vs := [.slice (A) ((l).length) (c), I (0)]) hM rfl rfl rfl rfl rfl (fun w3_2 b3_2 hb3_2 (hM3_2 : Mem w w3_2 [] [[⟨.slice (bl b3_2) 1 1, 66, 2, 1, [.slice (A) ((l).length) (c), I (0)]⟩]]) => ?_)
    refine O.val (v := .pointer (ofs (bl b3_2) (0))) rfl (Ru.assign rfl) rfl ?_
    refine O.nil ?_
    refine C.ret ?_
    refine P1 (v := .pointer (ofs (bl b3_2) (0))) rfl ?_
    exact ⟨b3_2, l, (by first | rfl | exact sl_congr (by simp) | (simp; done)), (.inl rfl), (by omega), (hM3_2.pick [0] (by decide) rfl)⟩

theorem visWord_fn (s : Str) (w : World) (hs : s.length ≤ 9223372036854775807) :
    Does Try.prog 49 [S (s)] w (fun v w1 => v = .bool (isWordB s) ∧ Mem w w1 [] []) := (isWord_fn s hs w).mono fun v w1 h => ⟨h.1, Mem.of_grown h.2⟩

theorem vvalidWord_fn (s : Str) (w : World) (hs : s.length ≤ 9223372036854775807) :
    Does Try.prog 47 [S (s)] w (fun v w1 => v = .bool (isWordB s) ∧ Mem w w1 [] []) := (validWord_fn s hs w).mono fun v w1 h => ⟨h.1, Mem.of_grown h.2⟩

theorem vsame_fn (a : Str) (b : Str) (w : World) (ha : a.length ≤ 9223372036854775807) :
    Does Try.prog 51 [S (a), S (b)] w (fun v w1 => v = I ((comm a b : Int)) ∧ Mem w w1 [] []) := (sameLetters_fn a b ha w).mono fun v w1 h => ⟨h.1, Mem.of_grown h.2⟩

theorem vcommon_fn (a : Str) (b : Str) (w : World) (ha : a.length ≤ 9223372036854775807) :
    Does Try.prog 48 [S (a), S (b)] w (fun v w1 => v = I ((comm a b : Int)) ∧ Mem w w1 [] []) := (common_fn a b ha w).mono fun v w1 h => ⟨h.1, Mem.of_grown h.2⟩

theorem vValidWords_fn (A : Option Addr) (c : Nat) (l : List Str) (w : World) (hA : Rd w A ((l).map S)) (hl : l.length ≤ 1099511627776) (hs : ∀ s ∈ l, s.length ≤ 9223372036854775807) :
    Does Try.prog 25 [.slice (A) ((l).length) (c)] w (fun v w1 => v = .bool (validW l) ∧ Mem w w1 [] []) := (ValidWords_fn A c l w hA hl hs).mono fun v w1 h => ⟨h.1, Mem.of_grown h.2⟩

theorem vvalidWords_fn (A : Option Addr) (c : Nat) (l : List Str) (w : World) (hA : Rd w A ((l).map S)) (hl : l.length ≤ 1099511627776) (hs : ∀ s ∈ l, s.length ≤ 9223372036854775807) :
    Does Try.prog 52 [.slice (A) ((l).length) (c)] w (fun v w1 => v = .bool (validW l) ∧ Mem w w1 [] []) := (validWords_fn A c l w hA hl hs).mono fun v w1 h => ⟨h.1, Mem.of_grown h.2⟩

theorem vSValidWords_fn (A : Option Addr) (c : Nat) (l : List Str) (w : World) (hA : Rd w A ((l).map S)) (hl : l.length ≤ 1099511627776) (hs : ∀ s ∈ l, s.length ≤ 9223372036854775807) :
    Does Try.prog 23 [.slice (A) ((l).length) (c)] w (fun v w1 => v = .bool (validW l) ∧ Mem w w1 [] []) := (SValidWords_fn A c l w hA hl hs).mono fun v w1 h => ⟨h.1, Mem.of_grown h.2⟩

theorem vPackWords_fn (A : Option Addr) (c : Nat) (l : List Str) (w : World) (hA : Rd w A ((l).map S)) (hl : l.length ≤ 1099511627776) (hs : ∀ s ∈ l, s.length ≤ 9223372036854775807) :
    Does Try.prog 32 [.slice (A) ((l).length) (c)] w (fun v w1 => ∃ (A1 : Option Addr) (c1 : Nat), v = .slice (A1) ((packF l).length) (c1) ∧ Mem w w1 [] [[⟨.slice (A1) ((packF l).length) (c1), 39, 2, ((packF l).length), (packF l).flatMap encR⟩]]) := (PackWords_fn A c l w hA hl hs).mono fun v w1 h => by obtain ⟨A1, c1, h1, hc, _, _, _, _⟩ := own_form h.1; subst h1; exact ⟨A1, c1, rfl, Mem.of_own h.1 (Nat.le_refl _) h.2⟩

theorem vSPackWords_fn (A : Option Addr) (c : Nat) (l : List Str) (w : World) (hA : Rd w A ((l).map S)) (hl : l.length ≤ 1099511627776) (hs : ∀ s ∈ l, s.length ≤ 9223372036854775807) :
    Does Try.prog 34 [.slice (A) ((l).length) (c)] w (fun v w1 => ∃ (A1 : Option Addr) (c1 : Nat), v = .slice (A1) ((packF l).length) (c1) ∧ Mem w w1 [] [[⟨.slice (A1) ((packF l).length) (c1), 39, 2, ((packF l).length), (packF l).flatMap encR⟩]]) := (SPackWords_fn A c l w hA hl hs).mono fun v w1 h => by obtain ⟨A1, c1, h1, hc, _, _, _, _⟩ := own_form h.1; subst h1; exact ⟨A1, c1, rfl, Mem.of_own h.1 (Nat.le_refl _) h.2⟩

theorem vPackedSize_fn (A : Option Addr) (c : Nat) (l : List Str) (w : World) (hA : Rd w A ((l).map S)) (hl : l.length ≤ 1099511627776) (hs : ∀ s ∈ l, s.length ≤ 9223372036854775807) :
    Does Try.prog 30 [.slice (A) ((l).length) (c)] w (fun v w1 => v = I (pszF l) ∧ Mem w w1 [] []) := (PackedSize_fn A c l w hA hl hs).mono fun v w1 h => ⟨h.1, Mem.of_grown h.2⟩

theorem vSPackedSize_fn (A : Option Addr) (c : Nat) (l : List Str) (w : World) (hA : Rd w A ((l).map S)) (hl : l.length ≤ 1099511627776) (hs : ∀ s ∈ l, s.length ≤ 9223372036854775807) :
    Does Try.prog 29 [.slice (A) ((l).length) (c)] w (fun v w1 => v = I (pszF l) ∧ Mem w w1 [] []) := (SPackedSize_fn A c l w hA hl hs).mono fun v w1 h => ⟨h.1, Mem.of_grown h.2⟩

theorem vequalRests_fn (A : Option Addr) (c : Nat) (a : List RestT) (B : Option Addr) (d : Nat) (b : List RestT) (w : World) (hA : Rd w A ((a).flatMap encR)) (hB : Rd w B ((b).flatMap encR)) (ha : a.length ≤ 1099511627776) :
    Does Try.prog 33 [.slice (A) ((a).length) (c), .slice (B) ((b).length) (d)] w (fun v w1 => v = .bool (decide (a = b)) ∧ Mem w w1 [] []) := (equalRests_fn A c a B d b w hA hB ha).mono fun v w1 h => ⟨h.1, Mem.of_grown h.2⟩

theorem veqRestS_fn (A : Option Addr) (c : Nat) (a : List RestT) (B : Option Addr) (d : Nat) (b : List RestT) (w : World) (hA : Rd w A ((a).flatMap encR)) (hB : Rd w B ((b).flatMap encR)) (ha : a.length ≤ 1099511627776) :
    Does Try.prog 36 [.slice (A) ((a).length) (c), .slice (B) ((b).length) (d)] w (fun v w1 => v = .bool (decide (a = b)) ∧ Mem w w1 [] []) := (eqRestS_fn A c a B d b w hA hB ha).mono fun v w1 h => ⟨h.1, Mem.of_grown h.2⟩

theorem vsEqualRest_fn (A : Option Addr) (c : Nat) (a : List RestT) (B : Option Addr) (d : Nat) (b : List RestT) (w : World) (hA : Rd w A ((a).flatMap encR)) (hB : Rd w B ((b).flatMap encR)) (ha : a.length ≤ 1099511627776) :
    Does Try.prog 59 [.slice (A) ((a).length) (c), .slice (B) ((b).length) (d)] w (fun v w1 => v = .bool (decide (a = b)) ∧ Mem w w1 [] []) := (sEqualRest_fn A c a B d b w hA hB ha).mono fun v w1 h => ⟨h.1, Mem.of_grown h.2⟩

theorem veqStringS_fn (A : Option Addr) (c : Nat) (a : List Str) (B : Option Addr) (d : Nat) (b : List Str) (w : World) (hA : Rd w A ((a).map S)) (hB : Rd w B ((b).map S)) (ha : a.length ≤ 1099511627776) :
    Does Try.prog 26 [.slice (A) ((a).length) (c), .slice (B) ((b).length) (d)] w (fun v w1 => v = .bool (decide (a = b)) ∧ Mem w w1 [] []) := (eqStringS_fn A c a B d b w hA hB ha).mono fun v w1 h => ⟨h.1, Mem.of_grown h.2⟩

theorem vequalWords_fn (A : Option Addr) (c : Nat) (a : List Str) (B : Option Addr) (d : Nat) (b : List Str) (w : World) (hA : Rd w A ((a).map S)) (hB : Rd w B ((b).map S)) (ha : a.length ≤ 1099511627776) :
    Does Try.prog 41 [.slice (A) ((a).length) (c), .slice (B) ((b).length) (d)] w (fun v w1 => v = .bool (decide (a = b)) ∧ Mem w w1 [] []) := (equalWords_fn A c a B d b w hA hB ha).mono fun v w1 h => ⟨h.1, Mem.of_grown h.2⟩

theorem vmarkText_fn (k : Nat) (w : World) (hk0 : k ≤ 1000000000000000000) :
    Does Try.prog 58 [I (((k : Nat) : Int))] w (fun v w1 => v = S (markT k) ∧ Mem w w1 [] []) := (markText_fn k hk0 w).mono fun v w1 h => ⟨h.1, Mem.of_grown h.2⟩

theorem vszRestS_fn (A : Option Addr) (c : Nat) (l : List RestT) (left : Int) (w : World) (hA : Rd w A ((l).flatMap encR)) (hl : l.length ≤ 9223372036854775807) (hs : ∀ r ∈ l, r.tail.length ≤ 9223372036854775807) (h0 : 0 ≤ left) (h1 : left ≤ 1048576) :
    Does Try.prog 44 [.slice (A) ((l).length) (c), I (left)] w (fun v w1 => v = I (szF left (l.length + sumT l)) ∧ Mem w w1 [] []) := (szRestS_fn A c l w hA hl hs left h0 h1).mono fun v w1 h => ⟨h.1, Mem.of_grown h.2⟩

theorem vszStringS_fn (A : Option Addr) (c : Nat) (l : List Str) (left : Int) (w : World) (hA : Rd w A ((l).map S)) (hl : l.length ≤ 9223372036854775807) (hs : ∀ s ∈ l, s.length ≤ 9223372036854775807) (h0 : 0 ≤ left) (h1 : left ≤ 1048576) :
    Does Try.prog 22 [.slice (A) ((l).length) (c), I (left)] w (fun v w1 => v = I (szF left (l.length + sumL l)) ∧ Mem w w1 [] []) := (szStringS_fn A c l w hA hl hs left h0 h1).mono fun v w1 h => ⟨h.1, Mem.of_grown h.2⟩

theorem vtoRestS_fn (A : Option Addr) (c : Nat) (l : List RestT) (w : World) (hA : Rd w A ((l).flatMap encR)) (hl : l.length ≤ 1048576) :
    Does Try.prog 45 [.slice (A) ((l).length) (c)] w (fun v w1 => ∃ (A1 : Option Addr) (c1 : Nat), v = .slice (A1) ((l).length) (c1) ∧ Mem w w1 [] [[⟨.slice (A1) ((l).length) (c1), 39, 2, ((l).length), (l).flatMap encR⟩]]) := (toRestS_fn A c l w hA hl).mono fun v w1 h => by obtain ⟨A1, c1, h1, hc, _, _, _, _⟩ := own_form h.1; subst h1; exact ⟨A1, c1, rfl, Mem.of_own h.1 (Nat.le_refl _) h.2⟩

theorem vtoStringS_fn (A : Option Addr) (c : Nat) (l : List Str) (w : World) (hA : Rd w A ((l).map S)) (hl : l.length ≤ 1048576) :
    Does Try.prog 24 [.slice (A) ((l).length) (c)] w (fun v w1 => ∃ (A1 : Option Addr) (c1 : Nat), v = .slice (A1) ((l).length) (c1) ∧ Mem w w1 [] [[⟨.slice (A1) ((l).length) (c1), 9, 1, ((l).length), (l).map S⟩]]) := (toStringS_fn A c l w hA hl).mono fun v w1 h => by obtain ⟨A1, c1, h1, hc, _, _, _, _⟩ := own_form h.1; subst h1; exact ⟨A1, c1, rfl, Mem.of_own h.1 (Nat.le_refl _) h.2⟩

theorem vheldStringS_fn (A : Option Addr) (n : Nat) (c : Nat) (k : Nat) (w : World) (hA : Rd w A ((mkS k n).map S)) (hn : n ≤ 1073741824) (hk0 : k ≤ 1099511627776) :
    Does Try.prog 46 [.slice (A) (n) (c), I (((k : Nat) : Int))] w (fun v w1 => v = I (((k + n : Nat) : Int)) ∧ Mem w w1 [] []) := (heldStringS_fn A c k n w hA hn hk0).mono fun v w1 h => ⟨h.1, Mem.of_grown h.2⟩

theorem vheldRestS_fn (A : Option Addr) (n : Nat) (c : Nat) (k : Nat) (w : World) (hA : Rd w A ((mkR k n).flatMap encR)) (hn : n ≤ 1073741824) (hk0 : k ≤ 1099511627776) :
    Does Try.prog 39 [.slice (A) (n) (c), I (((k : Nat) : Int))] w (fun v w1 => v = I (((k + 2 * n : Nat) : Int)) ∧ Mem w w1 [] []) := (heldRestS_fn A c k n w hA hn hk0).mono fun v w1 h => ⟨h.1, Mem.of_grown h.2⟩

theorem vinRange_fn (a : Int) (b : Int) (c : Int) (w : World) :
    Does Try.prog 62 [I (a), I (b), I (c)] w (fun v w1 => v = .bool (decide (b ≤ a) && decide (a ≤ c)) ∧ Mem w w1 [] []) := (inRange_fn a b c w).mono fun v w1 h => ⟨h.1, Mem.of_grown h.2⟩

theorem anyWords_fn (gr : Nat) (rA : Option Addr) (rc : Nat) (rl : List UInt8) (rq : Nat) (w : World) (hrA : Rd w rA (rl.map byteV)) (hro : Off rA (rl.map byteV) [some gr]) (hrl : rl.length ≤ 2000) (hM : Mem w w [some gr] [[⟨.slice (bl gr) 1 1, 66, 2, 1, [.slice (rA) ((rl).length) (rc), I (((rq : Nat) : Int))]⟩]]) (hrq : rq ≤ 999999000) :
    Does Try.prog 56 [.pointer (ofs (bl gr) (0))] w (fun v w1 => ∃ (l1 : List Str) (A1 : Option Addr) (c1 : Nat) (q1 : Nat), v = .slice (A1) ((l1).length) (c1) ∧ (l1.length ≤ 12) ∧ (∀ s ∈ l1, s.length ≤ 8) ∧ (q1 ≤ rq + 40) ∧ Mem w w1 [some gr] [[⟨.slice (bl gr) 1 1, 66, 2, 1, [.slice (rA) ((rl).length) (rc), I (((q1 : Nat) : Int))]⟩], [⟨.slice (A1) ((l1).length) (c1), 9, 1, ((l1).length), (l1).map S⟩]]) := by
  refine Does.enter1 Try.func56 rfl Try.results56 Try.ntmps56 rfl ?_
  refine C.seq ?_
  refine C.region ?_
  refine O.val (v := .slice (none) (0) (0)) rfl (Ru.assign rfl) rfl ?_
  refine O.nil ?_
  refine C.seq ?_
  refine C.region ?_
  refine O.mlit (sz := 1) (cs := []) hM rfl Try.underlying24 el9 rfl rfl rfl (by kernel_rfl) (by kernel_rfl) rfl rfl (fun w1_0 b1_0 hb1_0 (hM1_0 : Mem w w1_0 [some gr] [[⟨.slice (bl b1_0) (0) (0), 9, 1, 0, ([]).map S⟩], [⟨.slice (bl gr) 1 1, 66, 2, 1, [.slice (rA) ((rl).length) (rc), I (((rq : Nat) : Int))]⟩]]) => ?_)
  refine O.val (v := .slice (bl b1_0) (0) (0)) rfl (Ru.assign rfl) rfl ?_
  refine O.nil ?_
  refine C.seq ?_
  refine C.seq ?_
  refine C.region ?_
  refine O.val (v := .pointer (ofs (bl gr) (0))) rfl (Ru.move rfl) rfl ?_
  refine O.mlit (sz := 1) (cs := [I (4), I (6), I (8), I (3), I (1), I (0), I (12)]) hM1_0 rfl Try.underlying59 el3 rfl rfl rfl (by kernel_rfl) (by kernel_rfl) rfl rfl (fun w2_1 b2_1 hb2_1 (hM2_1 : Mem w w2_1 [some gr] [[⟨.slice (bl b2_1) (7) (7), 3, 1, 7, ([4, 6, 8, 3, 1, 0, 12]).map I⟩], [⟨.slice (bl b1_0) (0) (0), 9, 1, 0, ([]).map S⟩], [⟨.slice (bl gr) 1 1, 66, 2, 1, [.slice (rA) ((rl).length) (rc), I (((rq : Nat) : Int))]⟩]]) => ?_)
  have hMf2_2 : Mem w w2_1 [some gr] [[⟨.slice (bl gr) 1 1, 66, 2, 1, [.slice (rA) ((rl).length) (rc), I (((rq : Nat) : Int))]⟩], [⟨.slice (bl b2_1) (7) (7), 3, 1, 7, ([4, 6, 8, 3, 1, 0, 12]).map I⟩], [⟨.slice (bl b1_0) (0) (0), 9, 1, 0, ([]).map S⟩]] := hM2_1.pick [2, 0, 1] (by decide) rfl
  refine O.callg [.pointer (ofs (bl gr) (0)), .slice (bl b2_1) (([4, 6, 8, 3, 1, 0, 12]).length) (7)] rfl en60 (by first | rfl | (rw [show ([4, 6, 8, 3, 1, 0, 12]).length = 7 from (by first | rfl | (simp; done) | omega | (simp; omega))]; rfl)) rfl (one_fn gr rA rc rl rq (bl b2_1) 7 [4, 6, 8, 3, 1, 0, 12] w2_1 (hrA.atR hMf2_2 hro) hro hrl (hMf2_2.rd 1 rfl) (Off.of_ng (hMf2_2.ng 1 0 (by decide) rfl rfl)) (Mem.focus (Ma := [[⟨.slice (bl gr) 1 1, 66, 2, 1, [.slice (rA) ((rl).length) (rc), I (((rq : Nat) : Int))]⟩]]) (rest := [[⟨.slice (bl b2_1) (7) (7), 3, 1, 7, ([4, 6, 8, 3, 1, 0, 12]).map I⟩], [⟨.slice (bl b1_0) (0) (0), 9, 1, 0, ([]).map S⟩]]) hMf2_2 rfl) (by first | omega | assumption | (simp; omega) | simp | (intros; omega)) (by simp) (by simp)) ?_
  rintro _ w2_2 ⟨k2_2, rfl, hk2_2, hR2_2⟩
  have hM2_2 : Mem w w2_2 [some gr] [[⟨.slice (bl gr) 1 1, 66, 2, 1, [.slice (rA) ((rl).length) (rc), I (((rq + 1 : Nat) : Int))]⟩], [⟨.slice (bl b2_1) (7) (7), 3, 1, 7, ([4, 6, 8, 3, 1, 0, 12]).map I⟩], [⟨.slice (bl b1_0) (0) (0), 9, 1, 0, ([]).map S⟩]] := Mem.call (Ma := [[⟨.slice (bl gr) 1 1, 66, 2, 1, [.slice (rA) ((rl).length) (rc), I (((rq : Nat) : Int))]⟩]]) hMf2_2 hR2_2 rfl
  have hk0 := (by decide : ∀ k ∈ ([4, 6, 8, 3, 1, 0, 12] : List Int), 0 ≤ k ∧ k ≤ 12) _ hk2_2
  refine O.val (v := I (k2_2)) rfl (Ru.assign rfl) rfl ?_
  refine O.nil ?_
  refine C.block ?_
  refine C.loop (ι := Int × (List Str) × (Option Addr) × Nat × Nat) (fun x_ => ([(0, .pointer (ofs (bl gr) (0))), (3, .slice (x_.2.2.1) ((x_.2.1).length) (x_.2.2.2.1)), (4, I (x_.1))] : List (Nat × Value))) (fun x_ w_ => (0 ≤ x_.1 ∧ x_.1 ≤ 12 ∧ x_.2.1.length + x_.1 ≤ 12) ∧ (∀ s ∈ x_.2.1, s.length ≤ 8) ∧ (x_.2.2.2.2 + 3 * x_.1 ≤ rq + 37) ∧ (Mem w w_ [some gr] [[⟨.slice (bl gr) 1 1, 66, 2, 1, [.slice (rA) ((rl).length) (rc), I (((x_.2.2.2.2 : Nat) : Int))]⟩], [⟨.slice (bl b2_1) (7) (7), 3, 1, 7, ([4, 6, 8, 3, 1, 0, 12]).map I⟩], [⟨.slice (x_.2.2.1) ((x_.2.1).length) (x_.2.2.2.1), 9, 1, ((x_.2.1).length), (x_.2.1).map S⟩]])) (fun x_ => x_.1.toNat) (k2_2, [], bl b1_0, 0, (rq + 1)) (Has.cons rfl (Has.cons (sl_congr (by first | rfl | simp | omega | (simp []) | (simp; omega))) (Has.cons rfl Has.nil))) ⟨(by (try dsimp only); simp; omega), (by (try dsimp only); simp), (by (try dsimp only); omega), (hM2_2.pick [0, 1, 2] (by decide) rfl)⟩ (fun ⟨k, L, A2, c2, q⟩ σ w_l3 hI => ?_)
  try dsimp only at hI
  obtain ⟨hi0_l3, hi1_l3, hi2_l3, hM_l3⟩ := hI
  obtain ⟨hk1, hk2, hk3⟩ := hi0_l3
  refine C.seq ?_
  refine C.seq ?_
  refine C.region ?_
  refine O.val (v := I (k)) rfl (Ru.move rfl) rfl ?_
  refine O.val (v := .bool (decide (k > 0))) rfl (Ru.gtr rfl rfl) rfl ?_
  refine O.nil ?_
  refine C.cond (p := k > 0) rfl (fun c15 => ?_) (fun c15 => ?_)
  · refine C.skip ?_
    refine C.seq ?_
    refine C.block ?_
    refine C.seq ?_
    refine C.region ?_
    refine O.val (v := .pointer (ofs (bl gr) (0))) rfl (Ru.move rfl) rfl ?_
    refine O.callg [.pointer (ofs (bl gr) (0))] rfl en54 rfl rfl (someWord_fn gr rA rc rl q w_l3 (hrA.atR hM_l3 hro) hro hrl (Mem.focus (Ma := [[⟨.slice (bl gr) 1 1, 66, 2, 1, [.slice (rA) ((rl).length) (rc), I (((q : Nat) : Int))]⟩]]) (rest := [[⟨.slice (bl b2_1) (7) (7), 3, 1, 7, ([4, 6, 8, 3, 1, 0, 12]).map I⟩], [⟨.slice (A2) ((L).length) (c2), 9, 1, ((L).length), (L).map S⟩]]) hM_l3 rfl) (by first | omega | assumption | (simp; omega) | simp | (intros; omega))) ?_
    rintro _ w5_1 ⟨s5_1, rfl, hs5_1, hR5_1⟩
    have hM5_1 : Mem w w5_1 [some gr] [[⟨.slice (bl gr) 1 1, 66, 2, 1, [.slice (rA) ((rl).length) (rc), I (((q + 2 : Nat) : Int))]⟩], [⟨.slice (bl b2_1) (7) (7), 3, 1, 7, ([4, 6, 8, 3, 1, 0, 12]).map I⟩], [⟨.slice (A2) ((L).length) (c2), 9, 1, ((L).length), (L).map S⟩]] := Mem.call (Ma := [[⟨.slice (bl gr) 1 1, 66, 2, 1, [.slice (rA) ((rl).length) (rc), I (((q : Nat) : Int))]⟩]]) hM_l3 hR5_1 rfl
    refine O.val (v := S (s5_1)) rfl (Ru.assign rfl) rfl ?_
    refine O.nil ?_
    refine C.seq ?_
    refine C.region ?_
    refine O.val (v := I (0)) rfl (Ru.assign rfl) rfl ?_
    refine O.nil ?_
    refine C.seq ?_
    refine C.block ?_
    refine C.loop (ι := Nat) (fun j => ([(0, .pointer (ofs (bl gr) (0))), (3, .slice (A2) ((L).length) (c2)), (4, I (k)), (5, S (s5_1)), (6, I (((j : Nat) : Int)))] : List (Nat × Value))) (fun j w_ => (j ≤ L.length) ∧ (Mem w w_ [some gr] [[⟨.slice (bl gr) 1 1, 66, 2, 1, [.slice (rA) ((rl).length) (rc), I (((q + 2 : Nat) : Int))]⟩], [⟨.slice (bl b2_1) (7) (7), 3, 1, 7, ([4, 6, 8, 3, 1, 0, 12]).map I⟩], [⟨.slice (A2) ((L).length) (c2), 9, 1, ((L).length), (L).map S⟩]])) (fun j => L.length - j) (0) (Has.cons rfl (Has.cons rfl (Has.cons rfl (Has.cons rfl (Has.cons (I_congr (by first | rfl | omega | (simp; omega) | simp)) Has.nil))))) ⟨(Nat.zero_le _), (hM5_1.pick [0, 1, 2] (by decide) rfl)⟩ (fun j σ w_l7 hI => ?_)
    try dsimp only at hI
    obtain ⟨hi0_l7, hM_l7⟩ := hI
    refine C.seq ?_
    refine C.seq ?_
    refine C.region ?_
    refine O.val (v := I (((j : Nat) : Int))) rfl (Ru.move rfl) rfl ?_
    refine O.val (v := .slice (A2) ((L).length) (c2)) rfl (Ru.move rfl) rfl ?_
    refine O.val (v := I ((((L).length : Nat) : Int))) rfl (Ru.blenSlice Try.underlying24 rfl) rfl ?_
    refine O.val (v := .bool (decide (((j : Nat) : Int) < (((L).length : Nat) : Int)))) rfl (Ru.lss rfl rfl) rfl ?_
    refine O.val (v := .bool (decide (((j : Nat) : Int) < (((L).length : Nat) : Int)))) rfl (Ru.move rfl) rfl ?_
    refine O.partp 24 (((j : Nat) : Int) < (((L).length : Nat) : Int)) rfl (fun g24 => ?_) (fun g24 => ?_)
    · refine O.val (v := .slice (A2) ((L).length) (c2)) rfl (Ru.move rfl) rfl ?_
      refine O.val (v := I (((j : Nat) : Int))) rfl (Ru.move rfl) rfl ?_
      have hx7_7 : j < (L).length := (by first | omega | (simp; omega))
      refine O.val (v := .pointer (ofs (A2) (j * 1))) rfl (Ru.indexA (j := j) Try.underlying24 el9 rfl rfl (smm (hM_l7.rd 2 rfl) hx7_7) (by omega) (by first | omega | (simp; omega))) rfl ?_
      refine O.val rfl (Ru.load1 el9 rfl (ldm (hM_l7.rd 2 rfl) hx7_7)) rfl ?_
      refine O.val (v := S (s5_1)) rfl (Ru.move rfl) rfl ?_
      refine O.val (v := .bool (blt ((L)[j]'hx7_7) (s5_1))) rfl (Ru.slss rfl rfl) rfl ?_
      refine O.val (v := .bool (blt ((L)[j]'hx7_7) (s5_1))) rfl (Ru.pickT rfl rfl) rfl ?_
      refine O.nil ?_
      refine C.condb (t := blt ((L)[j]'hx7_7) (s5_1)) rfl (fun c31 => ?_) (fun c31 => ?_)
      · refine C.skip ?_
        refine C.block ?_
        refine C.region ?_
        refine O.val (v := I (((j : Nat) : Int))) rfl (Ru.move rfl) rfl ?_
        refine O.val (v := I ((((j + 1) : Nat) : Int))) rfl (Ru.congr (v := I ((((j : Nat) : Int) + 1))) (v' := I ((((j + 1) : Nat) : Int))) (Ru.add rfl rfl (by omega)) (I_congr (by first | omega | simp))) rfl ?_
        refine O.val (v := I ((((j + 1) : Nat) : Int))) rfl (Ru.assign rfl) rfl ?_
        refine O.nil ?_
        exact loopEnd (j + 1) (by (try dsimp only); omega) (Has.cons rfl (Has.cons rfl (Has.cons rfl (Has.cons rfl (Has.cons (I_congr (by first | rfl | omega | (simp; omega) | simp)) Has.nil))))) ⟨(by (try dsimp only); omega), (hM_l7.pick [0, 1, 2] (by decide) rfl)⟩
      · refine C.exit ?_
        refine C.seq ?_
        refine C.region ?_
        refine O.val (v := I (((j : Nat) : Int))) rfl (Ru.move rfl) rfl ?_
        refine O.val (v := .slice (A2) ((L).length) (c2)) rfl (Ru.move rfl) rfl ?_
        refine O.val (v := I ((((L).length : Nat) : Int))) rfl (Ru.blenSlice Try.underlying24 rfl) rfl ?_
        refine O.val (v := .bool (decide (((j : Nat) : Int) = (((L).length : Nat) : Int)))) rfl (Ru.eql rfl rfl) rfl ?_
        refine O.val (v := .bool (decide (((j : Nat) : Int) = (((L).length : Nat) : Int)))) rfl (Ru.move rfl) rfl ?_
        refine O.partp 38 (((j : Nat) : Int) = (((L).length : Nat) : Int)) rfl (fun g38 => ?_) (fun g38 => ?_)
        · refine O.pass rfl rfl rfl rfl rfl ?_
          refine O.pass rfl rfl rfl rfl rfl ?_
          refine O.pass rfl rfl rfl rfl rfl ?_
          refine O.pass rfl rfl rfl rfl rfl ?_
          refine O.pass rfl rfl rfl rfl rfl ?_
          refine O.pass rfl rfl rfl rfl rfl ?_
          refine O.val (v := .bool (true)) rfl (Ru.pickT rfl rfl) rfl ?_
          refine O.val (v := .bool (true)) rfl (Ru.move rfl) rfl ?_
          refine O.pass rfl rfl rfl rfl rfl ?_
          refine O.pass rfl rfl rfl rfl rfl ?_
          refine O.pass rfl rfl rfl rfl rfl ?_
          refine O.val (v := .bool (true)) rfl (Ru.pickT rfl rfl) rfl ?_
          refine O.nil ?_
          refine C.condT rfl ?_
          refine C.seq ?_
          refine C.region ?_
          refine O.val (v := S (s5_1)) rfl (Ru.move rfl) rfl ?_
          refine O.mlit (sz := 1) (cs := [S (s5_1)]) hM_l7 rfl Try.underlying24 el9 rfl rfl rfl (by kernel_rfl) (by kernel_rfl) rfl rfl (fun w10_1 b10_1 hb10_1 (hM10_1 : Mem w w10_1 [some gr] [[⟨.slice (bl b10_1) (1) (1), 9, 1, 1, ([s5_1]).map S⟩], [⟨.slice (bl gr) 1 1, 66, 2, 1, [.slice (rA) ((rl).length) (rc), I (((q + 2 : Nat) : Int))]⟩], [⟨.slice (bl b2_1) (7) (7), 3, 1, 7, ([4, 6, 8, 3, 1, 0, 12]).map I⟩], [⟨.slice (A2) ((L).length) (c2), 9, 1, ((L).length), (L).map S⟩]]) => ?_)
          refine O.val (v := .slice (A2) ((L).length) (c2)) rfl (Ru.move rfl) rfl ?_
          refine O.val (v := I (((j : Nat) : Int))) rfl (Ru.move rfl) rfl ?_
          have hcp10_4 := hM10_1.cap 3 rfl
          refine O.val (v := .slice (if c2 = j then A2 else ofs (A2) (j * 1)) (((L).drop (j)).length) (c2 - j)) rfl (Ru.congr (v := .slice (if c2 = j then A2 else ofs (A2) (j * 1)) (((L).length) - j) (c2 - j)) (v' := .slice (if c2 = j then A2 else ofs (A2) (j * 1)) (((L).drop (j)).length) (c2 - j)) (Ru.lsliceFrom (l := j) Try.underlying24 el9 rfl rfl (by omega) (by omega)) (sl_congr (by first | rfl | (simp; done) | omega | (simp; omega)))) rfl ?_
          refine O.mappend (sz := 1) (news := ((L).drop (j)).map S) (m1 := ([s5_1] ++ (L).drop (j)).length) (xs1 := ([s5_1] ++ (L).drop (j)).map S) (M' := fun A10_5 c10_5 => [[⟨.slice (A10_5) (([s5_1] ++ (L).drop (j)).length) (c10_5), 9, 1, (([s5_1] ++ (L).drop (j)).length), ([s5_1] ++ (L).drop (j)).map S⟩], [⟨.slice (bl gr) 1 1, 66, 2, 1, [.slice (rA) ((rl).length) (rc), I (((q + 2 : Nat) : Int))]⟩], [⟨.slice (bl b2_1) (7) (7), 3, 1, 7, ([4, 6, 8, 3, 1, 0, 12]).map I⟩], [⟨.slice (A2) ((L).length) (c2), 9, 1, ((L).length), (L).map S⟩]]) 0 0 hM10_1 rfl rfl rfl Try.underlying24 el9 ⟨rfl, by decide⟩ rfl rfl rfl (rd_drop1 (hM10_1.rd 3 rfl) (by first | omega | (simp; omega)) (by first | omega | (simp; omega))) (by simp) (all_map_one (fun _ => rfl) _) (by first | omega | (simp; omega)) (by first | omega | (simp; omega)) (by first | (simp; done) | (simp; omega)) (by simp) (fun _ _ => rfl) (fun w10_5 A10_5 c10_5 hc10_5 hM10_5 => ?_)
          try dsimp only at hM10_5
          refine O.val (v := .slice (A10_5) (([s5_1] ++ (L).drop (j)).length) (c10_5)) rfl (Ru.assign rfl) rfl ?_
          refine O.nil ?_
          refine C.region ?_
          refine O.mlit (sz := 1) (cs := []) hM10_5 rfl Try.underlying24 el9 rfl rfl rfl (by kernel_rfl) (by kernel_rfl) rfl rfl (fun w11_0 b11_0 hb11_0 (hM11_0 : Mem w w11_0 [some gr] [[⟨.slice (bl b11_0) (0) (0), 9, 1, 0, ([]).map S⟩], [⟨.slice (A10_5) (([s5_1] ++ (L).drop (j)).length) (c10_5), 9, 1, (([s5_1] ++ (L).drop (j)).length), ([s5_1] ++ (L).drop (j)).map S⟩], [⟨.slice (bl gr) 1 1, 66, 2, 1, [.slice (rA) ((rl).length) (rc), I (((q + 2 : Nat) : Int))]⟩], [⟨.slice (bl b2_1) (7) (7), 3, 1, 7, ([4, 6, 8, 3, 1, 0, 12]).map I⟩], [⟨.slice (A2) ((L).length) (c2), 9, 1, ((L).length), (L).map S⟩]]) => ?_)
          refine O.val (v := .slice (A2) ((L).length) (c2)) rfl (Ru.move rfl) rfl ?_
          refine O.val (v := I (((j : Nat) : Int))) rfl (Ru.move rfl) rfl ?_
          have hcp11_3 := hM11_0.cap 4 rfl
          refine O.val (v := .slice (A2) (((L).take (j)).length) (c2)) rfl (Ru.congr (v := .slice (A2) (j) (c2)) (v' := .slice (A2) (((L).take (j)).length) (c2)) (Ru.lsliceTo (h := j) Try.underlying24 el9 rfl rfl (by omega) (by omega)) (sl_congr (by first | rfl | (simp; done) | omega | (simp; omega)))) rfl ?_
          refine O.mappend (sz := 1) (news := ((L).take (j)).map S) (m1 := ((L).take (j)).length) (xs1 := ((L).take (j)).map S) (M' := fun A11_4 c11_4 => [[⟨.slice (A11_4) (((L).take (j)).length) (c11_4), 9, 1, (((L).take (j)).length), ((L).take (j)).map S⟩], [⟨.slice (A10_5) (([s5_1] ++ (L).drop (j)).length) (c10_5), 9, 1, (([s5_1] ++ (L).drop (j)).length), ([s5_1] ++ (L).drop (j)).map S⟩], [⟨.slice (bl gr) 1 1, 66, 2, 1, [.slice (rA) ((rl).length) (rc), I (((q + 2 : Nat) : Int))]⟩], [⟨.slice (bl b2_1) (7) (7), 3, 1, 7, ([4, 6, 8, 3, 1, 0, 12]).map I⟩], [⟨.slice (A2) ((L).length) (c2), 9, 1, ((L).length), (L).map S⟩]]) 0 0 hM11_0 rfl rfl rfl Try.underlying24 el9 ⟨rfl, by decide⟩ rfl rfl rfl (rd_take1 (hM11_0.rd 4 rfl)) (by first | (simp; done) | (simp; omega)) (all_map_one (fun _ => rfl) _) (by first | omega | (simp; omega)) (by first | omega | (simp; omega)) (by first | (simp; done) | (simp; omega)) (by simp) (fun _ _ => rfl) (fun w11_4 A11_4 c11_4 hc11_4 hM11_4 => ?_)
          try dsimp only at hM11_4
          refine O.val (v := .slice (A10_5) (([s5_1] ++ (L).drop (j)).length) (c10_5)) rfl (Ru.move rfl) rfl ?_
          refine O.mappend (sz := 1) (news := ([s5_1] ++ (L).drop (j)).map S) (m1 := ((L).take (j) ++ ([s5_1] ++ (L).drop (j))).length) (xs1 := ((L).take (j) ++ ([s5_1] ++ (L).drop (j))).map S) (M' := fun A11_6 c11_6 => [[⟨.slice (A11_6) (((L).take (j) ++ ([s5_1] ++ (L).drop (j))).length) (c11_6), 9, 1, (((L).take (j) ++ ([s5_1] ++ (L).drop (j))).length), ((L).take (j) ++ ([s5_1] ++ (L).drop (j))).map S⟩], [⟨.slice (A10_5) (([s5_1] ++ (L).drop (j)).length) (c10_5), 9, 1, (([s5_1] ++ (L).drop (j)).length), ([s5_1] ++ (L).drop (j)).map S⟩], [⟨.slice (bl gr) 1 1, 66, 2, 1, [.slice (rA) ((rl).length) (rc), I (((q + 2 : Nat) : Int))]⟩], [⟨.slice (bl b2_1) (7) (7), 3, 1, 7, ([4, 6, 8, 3, 1, 0, 12]).map I⟩], [⟨.slice (A2) ((L).length) (c2), 9, 1, ((L).length), (L).map S⟩]]) 0 0 hM11_4 rfl rfl rfl Try.underlying24 el9 ⟨rfl, by decide⟩ rfl rfl rfl (hM11_4.rd 1 rfl) (by first | (simp; done) | (simp; omega)) (all_map_one (fun _ => rfl) _) (by first | omega | (simp; omega)) (by first | omega | (simp; omega)) (by first | (simp; done) | (simp; omega)) (by simp) (fun _ _ => rfl) (fun w11_6 A11_6 c11_6 hc11_6 hM11_6 => ?_)
          try dsimp only at hM11_6
          refine O.val (v := .slice (A11_6) (((L).take (j) ++ ([s5_1] ++ (L).drop (j))).length) (c11_6)) rfl (Ru.assign rfl) rfl ?_
          refine O.nil ?_
          refine C.region ?_
          refine O.val (v := I (k)) rfl (Ru.move rfl) rfl ?_
          refine O.val (v := I ((k - 1))) rfl (Ru.sub rfl rfl (by omega)) rfl ?_
          refine O.val (v := I ((k - 1))) rfl (Ru.assign rfl) rfl ?_
          refine O.nil ?_
          exact loopEnd (k - 1, (L).take (j) ++ ([s5_1] ++ (L).drop (j)), A11_6, c11_6, (q + 2)) (by (try dsimp only); omega) (Has.cons rfl (Has.cons rfl (Has.cons (I_congr (by first | rfl | omega | (simp; omega) | simp)) Has.nil))) ⟨(by (try dsimp only); simp; omega), (by (try dsimp only); intro s hs; simp only [List.mem_append, List.mem_singleton] at hs; rcases hs with hs | rfl | hs <;> first | exact hi1_l3 _ (List.mem_of_mem_take hs) | exact hs5_1 | exact hi1_l3 _ (List.mem_of_mem_drop hs)), (by (try dsimp only); omega), (hM11_6.pick [2, 3, 0] (by decide) rfl)⟩
        · refine O.val (v := .slice (A2) ((L).length) (c2)) rfl (Ru.move rfl) rfl ?_
          refine O.val (v := I (((j : Nat) : Int))) rfl (Ru.move rfl) rfl ?_
          have hx9_7 : j < (L).length := (by first | omega | (simp; omega))
          refine O.val (v := .pointer (ofs (A2) (j * 1))) rfl (Ru.indexA (j := j) Try.underlying24 el9 rfl rfl (smm (hM_l7.rd 2 rfl) hx9_7) (by omega) (by first | omega | (simp; omega))) rfl ?_
          refine O.val rfl (Ru.load1 el9 rfl (ldm (hM_l7.rd 2 rfl) hx9_7)) rfl ?_
          refine O.val (v := S (s5_1)) rfl (Ru.move rfl) rfl ?_
          refine O.val (v := .bool (decide ((L)[j]'hx9_7 ≠ s5_1))) rfl (Ru.sneq rfl rfl) rfl ?_
          refine O.val (v := .bool (decide ((L)[j]'hx9_7 ≠ s5_1))) rfl (Ru.pickF rfl rfl) rfl ?_
          refine O.val (v := .bool (decide ((L)[j]'hx9_7 ≠ s5_1))) rfl (Ru.move rfl) rfl ?_
          refine O.partp 46 ((L)[j]'hx9_7 ≠ s5_1) rfl (fun g46 => ?_) (fun g46 => ?_)
          · refine O.pass rfl rfl rfl rfl rfl ?_
            refine O.pass rfl rfl rfl rfl rfl ?_
            refine O.pass rfl rfl rfl rfl rfl ?_
            refine O.val (v := .bool (true)) rfl (Ru.pickT rfl rfl) rfl ?_
            refine O.nil ?_
            refine C.condT rfl ?_
            refine C.seq ?_
            refine C.region ?_
            refine O.val (v := S (s5_1)) rfl (Ru.move rfl) rfl ?_
            refine O.mlit (sz := 1) (cs := [S (s5_1)]) hM_l7 rfl Try.underlying24 el9 rfl rfl rfl (by kernel_rfl) (by kernel_rfl) rfl rfl (fun w10_1 b10_1 hb10_1 (hM10_1 : Mem w w10_1 [some gr] [[⟨.slice (bl b10_1) (1) (1), 9, 1, 1, ([s5_1]).map S⟩], [⟨.slice (bl gr) 1 1, 66, 2, 1, [.slice (rA) ((rl).length) (rc), I (((q + 2 : Nat) : Int))]⟩], [⟨.slice (bl b2_1) (7) (7), 3, 1, 7, ([4, 6, 8, 3, 1, 0, 12]).map I⟩], [⟨.slice (A2) ((L).length) (c2), 9, 1, ((L).length), (L).map S⟩]]) => ?_)
            refine O.val (v := .slice (A2) ((L).length) (c2)) rfl (Ru.move rfl) rfl ?_
            refine O.val (v := I (((j : Nat) : Int))) rfl (Ru.move rfl) rfl ?_
            have hcp10_4 := hM10_1.cap 3 rfl
            refine O.val (v := .slice (if c2 = j then A2 else ofs (A2) (j * 1)) (((L).drop (j)).length) (c2 - j)) rfl (Ru.congr (v := .slice (if c2 = j then A2 else ofs (A2) (j * 1)) (((L).length) - j) (c2 - j)) (v' := .slice (if c2 = j then A2 else ofs (A2) (j * 1)) (((L).drop (j)).length) (c2 - j)) (Ru.lsliceFrom (l := j) Try.underlying24 el9 rfl rfl (by omega) (by omega)) (sl_congr (by first | rfl | (simp; done) | omega | (simp; omega)))) rfl ?_
            refine O.mappend (sz := 1) (news := ((L).drop (j)).map S) (m1 := ([s5_1] ++ (L).drop (j)).length) (xs1 := ([s5_1] ++ (L).drop (j)).map S) (M' := fun A10_5 c10_5 => [[⟨.slice (A10_5) (([s5_1] ++ (L).drop (j)).length) (c10_5), 9, 1, (([s5_1] ++ (L).drop (j)).length), ([s5_1] ++ (L).drop (j)).map S⟩], [⟨.slice (bl gr) 1 1, 66, 2, 1, [.slice (rA) ((rl).length) (rc), I (((q + 2 : Nat) : Int))]⟩], [⟨.slice (bl b2_1) (7) (7), 3, 1, 7, ([4, 6, 8, 3, 1, 0, 12]).map I⟩], [⟨.slice (A2) ((L).length) (c2), 9, 1, ((L).length), (L).map S⟩]]) 0 0 hM10_1 rfl rfl rfl Try.underlying24 el9 ⟨rfl, by decide⟩ rfl rfl rfl (rd_drop1 (hM10_1.rd 3 rfl) (by first | omega | (simp; omega)) (by first | omega | (simp; omega))) (by simp) (all_map_one (fun _ => rfl) _) (by first | omega | (simp; omega)) (by first | omega | (simp; omega)) (by first | (simp; done) | (simp; omega)) (by simp) (fun _ _ => rfl) (fun w10_5 A10_5 c10_5 hc10_5 hM10_5 => ?_)
            try dsimp only at hM10_5
            refine O.val (v := .slice (A10_5) (([s5_1] ++ (L).drop (j)).length) (c10_5)) rfl (Ru.assign rfl) rfl ?_
            refine O.nil ?_
            refine C.region ?_
            refine O.mlit (sz := 1) (cs := []) hM10_5 rfl Try.underlying24 el9 rfl rfl rfl (by kernel_rfl) (by kernel_rfl) rfl rfl (fun w11_0 b11_0 hb11_0 (hM11_0 : Mem w w11_0 [some gr] [[⟨.slice (bl b11_0) (0) (0), 9, 1, 0, ([]).map S⟩], [⟨.slice (A10_5) (([s5_1] ++ (L).drop (j)).length) (c10_5), 9, 1, (([s5_1] ++ (L).drop (j)).length), ([s5_1] ++ (L).drop (j)).map S⟩], [⟨.slice (bl gr) 1 1, 66, 2, 1, [.slice (rA) ((rl).length) (rc), I (((q + 2 : Nat) : Int))]⟩], [⟨.slice (bl b2_1) (7) (7), 3, 1, 7, ([4, 6, 8, 3, 1, 0, 12]).map I⟩], [⟨.slice (A2) ((L).length) (c2), 9, 1, ((L).length), (L).map S⟩]]) => ?_)
            refine O.val (v := .slice (A2) ((L).length) (c2)) rfl (Ru.move rfl) rfl ?_
            refine O.val (v := I (((j : Nat) : Int))) rfl (Ru.move rfl) rfl ?_
            have hcp11_3 := hM11_0.cap 4 rfl
            refine O.val (v := .slice (A2) (((L).take (j)).length) (c2)) rfl (Ru.congr (v := .slice (A2) (j) (c2)) (v' := .slice (A2) (((L).take (j)).length) (c2)) (Ru.lsliceTo (h := j) Try.underlying24 el9 rfl rfl (by omega) (by omega)) (sl_congr (by first | rfl | (simp; done) | omega | (simp; omega)))) rfl ?_
            refine O.mappend (sz := 1) (news := ((L).take (j)).map S) (m1 := ((L).take (j)).length) (xs1 := ((L).take (j)).map S) (M' := fun A11_4 c11_4 => [[⟨.slice (A11_4) (((L).take (j)).length) (c11_4), 9, 1, (((L).take (j)).length), ((L).take (j)).map S⟩], [⟨.slice (A10_5) (([s5_1] ++ (L).drop (j)).length) (c10_5), 9, 1, (([s5_1] ++ (L).drop (j)).length), ([s5_1] ++ (L).drop (j)).map S⟩], [⟨.slice (bl gr) 1 1, 66, 2, 1, [.slice (rA) ((rl).length) (rc), I (((q + 2 : Nat) : Int))]⟩], [⟨.slice (bl b2_1) (7) (7), 3, 1, 7, ([4, 6, 8, 3, 1, 0, 12]).map I⟩], [⟨.slice (A2) ((L).length) (c2), 9, 1, ((L).length), (L).map S⟩]]) 0 0 hM11_0 rfl rfl rfl Try.underlying24 el9 ⟨rfl, by decide⟩ rfl rfl rfl (rd_take1 (hM11_0.rd 4 rfl)) (by first | (simp; done) | (simp; omega)) (all_map_one (fun _ => rfl) _) (by first | omega | (simp; omega)) (by first | omega | (simp; omega)) (by first | (simp; done) | (simp; omega)) (by simp) (fun _ _ => rfl) (fun w11_4 A11_4 c11_4 hc11_4 hM11_4 => ?_)
            try dsimp only at hM11_4
            refine O.val (v := .slice (A10_5) (([s5_1] ++ (L).drop (j)).length) (c10_5)) rfl (Ru.move rfl) rfl ?_
            refine O.mappend (sz := 1) (news := ([s5_1] ++ (L).drop (j)).map S) (m1 := ((L).take (j) ++ ([s5_1] ++ (L).drop (j))).length) (xs1 := ((L).take (j) ++ ([s5_1] ++ (L).drop (j))).map S) (M' := fun A11_6 c11_6 => [[⟨.slice (A11_6) (((L).take (j) ++ ([s5_1] ++ (L).drop (j))).length) (c11_6), 9, 1, (((L).take (j) ++ ([s5_1] ++ (L).drop (j))).length), ((L).take (j) ++ ([s5_1] ++ (L).drop (j))).map S⟩], [⟨.slice (A10_5) (([s5_1] ++ (L).drop (j)).length) (c10_5), 9, 1, (([s5_1] ++ (L).drop (j)).length), ([s5_1] ++ (L).drop (j)).map S⟩], [⟨.slice (bl gr) 1 1, 66, 2, 1, [.slice (rA) ((rl).length) (rc), I (((q + 2 : Nat) : Int))]⟩], [⟨.slice (bl b2_1) (7) (7), 3, 1, 7, ([4, 6, 8, 3, 1, 0, 12]).map I⟩], [⟨.slice (A2) ((L).length) (c2), 9, 1, ((L).length), (L).map S⟩]]) 0 0 hM11_4 rfl rfl rfl Try.underlying24 el9 ⟨rfl, by decide⟩ rfl rfl rfl (hM11_4.rd 1 rfl) (by first | (simp; done) | (simp; omega)) (all_map_one (fun _ => rfl) _) (by first | omega | (simp; omega)) (by first | omega | (simp; omega)) (by first | (simp; done) | (simp; omega)) (by simp) (fun _ _ => rfl) (fun w11_6 A11_6 c11_6 hc11_6 hM11_6 => ?_)
            try dsimp only at hM11_6
            refine O.val (v := .slice (A11_6) (((L).take (j) ++ ([s5_1] ++ (L).drop (j))).length) (c11_6)) rfl (Ru.assign rfl) rfl ?_
            refine O.nil ?_
            refine C.region ?_
            refine O.val (v := I (k)) rfl (Ru.move rfl) rfl ?_
            refine O.val (v := I ((k - 1))) rfl (Ru.sub rfl rfl (by omega)) rfl ?_
            refine O.val (v := I ((k - 1))) rfl (Ru.assign rfl) rfl ?_
            refine O.nil ?_
            exact loopEnd (k - 1, (L).take (j) ++ ([s5_1] ++ (L).drop (j)), A11_6, c11_6, (q + 2)) (by (try dsimp only); omega) (Has.cons rfl (Has.cons rfl (Has.cons (I_congr (by first | rfl | omega | (simp; omega) | simp)) Has.nil))) ⟨(by (try dsimp only); simp; omega), (by (try dsimp only); intro s hs; simp only [List.mem_append, List.mem_singleton] at hs; rcases hs with hs | rfl | hs <;> first | exact hi1_l3 _ (List.mem_of_mem_take hs) | exact hs5_1 | exact hi1_l3 _ (List.mem_of_mem_drop hs)), (by (try dsimp only); omega), (hM11_6.pick [2, 3, 0] (by decide) rfl)⟩
          · refine O.val (v := .pointer (ofs (bl gr) (0))) rfl (Ru.move rfl) rfl ?_
            refine O.callg [.pointer (ofs (bl gr) (0)), I (10)] rfl en55 rfl rfl (pick_fn gr rA rc rl (q + 2) 10 w_l7 (hrA.atR hM_l7 hro) hro hrl (Mem.focus (Ma := [[⟨.slice (bl gr) 1 1, 66, 2, 1, [.slice (rA) ((rl).length) (rc), I (((q + 2 : Nat) : Int))]⟩]]) (rest := [[⟨.slice (bl b2_1) (7) (7), 3, 1, 7, ([4, 6, 8, 3, 1, 0, 12]).map I⟩], [⟨.slice (A2) ((L).length) (c2), 9, 1, ((L).length), (L).map S⟩]]) hM_l7 rfl) (by first | omega | assumption | (simp; omega) | simp | (intros; omega))) ?_
            rintro _ w9_14 ⟨k9_14, rfl, hk9_14, hR9_14⟩
            have hM9_14 : Mem w w9_14 [some gr] [[⟨.slice (bl gr) 1 1, 66, 2, 1, [.slice (rA) ((rl).length) (rc), I ((((q + 2) + 1 : Nat) : Int))]⟩], [⟨.slice (bl b2_1) (7) (7), 3, 1, 7, ([4, 6, 8, 3, 1, 0, 12]).map I⟩], [⟨.slice (A2) ((L).length) (c2), 9, 1, ((L).length), (L).map S⟩]] := Mem.call (Ma := [[⟨.slice (bl gr) 1 1, 66, 2, 1, [.slice (rA) ((rl).length) (rc), I (((q + 2 : Nat) : Int))]⟩]]) hM_l7 hR9_14 rfl
            refine O.val (v := .bool (decide (k9_14 = 0))) rfl (Ru.eql rfl rfl) rfl ?_
            refine O.val (v := .bool (decide (k9_14 = 0))) rfl (Ru.pickF rfl rfl) rfl ?_
            refine O.nil ?_
            refine C.cond (p := k9_14 = 0) rfl (fun c50 => ?_) (fun c50 => ?_)
            · refine C.seq ?_
              refine C.region ?_
              refine O.val (v := S (s5_1)) rfl (Ru.move rfl) rfl ?_
              refine O.mlit (sz := 1) (cs := [S (s5_1)]) hM9_14 rfl Try.underlying24 el9 rfl rfl rfl (by kernel_rfl) (by kernel_rfl) rfl rfl (fun w10_1 b10_1 hb10_1 (hM10_1 : Mem w w10_1 [some gr] [[⟨.slice (bl b10_1) (1) (1), 9, 1, 1, ([s5_1]).map S⟩], [⟨.slice (bl gr) 1 1, 66, 2, 1, [.slice (rA) ((rl).length) (rc), I ((((q + 2) + 1 : Nat) : Int))]⟩], [⟨.slice (bl b2_1) (7) (7), 3, 1, 7, ([4, 6, 8, 3, 1, 0, 12]).map I⟩], [⟨.slice (A2) ((L).length) (c2), 9, 1, ((L).length), (L).map S⟩]]) => ?_)
              refine O.val (v := .slice (A2) ((L).length) (c2)) rfl (Ru.move rfl) rfl ?_
              refine O.val (v := I (((j : Nat) : Int))) rfl (Ru.move rfl) rfl ?_
              have hcp10_4 := hM10_1.cap 3 rfl
              refine O.val (v := .slice (if c2 = j then A2 else ofs (A2) (j * 1)) (((L).drop (j)).length) (c2 - j)) rfl (Ru.congr (v := .slice (if c2 = j then A2 else ofs (A2) (j * 1)) (((L).length) - j) (c2 - j)) (v' := .slice (if c2 = j then A2 else ofs (A2) (j * 1)) (((L).drop (j)).length) (c2 - j)) (Ru.lsliceFrom (l := j) Try.underlying24 el9 rfl rfl (by omega) (by omega)) (sl_congr (by first | rfl | (simp; done) | omega | (simp; omega)))) rfl ?_
              refine O.mappend (sz := 1) (news := ((L).drop (j)).map S) (m1 := ([s5_1] ++ (L).drop (j)).length) (xs1 := ([s5_1] ++ (L).drop (j)).map S) (M' := fun A10_5 c10_5 => [[⟨.slice (A10_5) (([s5_1] ++ (L).drop (j)).length) (c10_5), 9, 1, (([s5_1] ++ (L).drop (j)).length), ([s5_1] ++ (L).drop (j)).map S⟩], [⟨.slice (bl gr) 1 1, 66, 2, 1, [.slice (rA) ((rl).length) (rc), I ((((q + 2) + 1 : Nat) : Int))]⟩], [⟨.slice (bl b2_1) (7) (7), 3, 1, 7, ([4, 6, 8, 3, 1, 0, 12]).map I⟩], [⟨.slice (A2) ((L).length) (c2), 9, 1, ((L).length), (L).map S⟩]]) 0 0 hM10_1 rfl rfl rfl Try.underlying24 el9 ⟨rfl, by decide⟩ rfl rfl rfl (rd_drop1 (hM10_1.rd 3 rfl) (by first | omega | (simp; omega)) (by first | omega | (simp; omega))) (by simp) (all_map_one (fun _ => rfl) _) (by first | omega | (simp; omega)) (by first | omega | (simp; omega)) (by first | (simp; done) | (simp; omega)) (by simp) (fun _ _ => rfl) (fun w10_5 A10_5 c10_5 hc10_5 hM10_5 => ?_)
              try dsimp only at hM10_5
              refine O.val (v := .slice (A10_5) (([s5_1] ++ (L).drop (j)).length) (c10_5)) rfl (Ru.assign rfl) rfl ?_
              refine O.nil ?_
              refine C.region ?_
              refine O.mlit (sz := 1) (cs := []) hM10_5 rfl Try.underlying24 el9 rfl rfl rfl (by kernel_rfl) (by kernel_rfl) rfl rfl (fun w11_0 b11_0 hb11_0 (hM11_0 : Mem w w11_0 [some gr] [[⟨.slice (bl b11_0) (0) (0), 9, 1, 0, ([]).map S⟩], [⟨.slice (A10_5) (([s5_1] ++ (L).drop (j)).length) (c10_5), 9, 1, (([s5_1] ++ (L).drop (j)).length), ([s5_1] ++ (L).drop (j)).map S⟩], [⟨.slice (bl gr) 1 1, 66, 2, 1, [.slice (rA) ((rl).length) (rc), I ((((q + 2) + 1 : Nat) : Int))]⟩], [⟨.slice (bl b2_1) (7) (7), 3, 1, 7, ([4, 6, 8, 3, 1, 0, 12]).map I⟩], [⟨.slice (A2) ((L).length) (c2), 9, 1, ((L).length), (L).map S⟩]]) => ?_)
              refine O.val (v := .slice (A2) ((L).length) (c2)) rfl (Ru.move rfl) rfl ?_
              refine O.val (v := I (((j : Nat) : Int))) rfl (Ru.move rfl) rfl ?_
              have hcp11_3 := hM11_0.cap 4 rfl
              refine O.val (v := .slice (A2) (((L).take (j)).length) (c2)) rfl (Ru.congr (v := .slice (A2) (j) (c2)) (v' := .slice (A2) (((L).take (j)).length) (c2)) (Ru.lsliceTo (h := j) Try.underlying24 el9 rfl rfl (by omega) (by omega)) (sl_congr (by first | rfl | (simp; done) | omega | (simp; omega)))) rfl ?_
              refine O.mappend (sz := 1) (news := ((L).take (j)).map S) (m1 := ((L).take (j)).length) (xs1 := ((L).take (j)).map S) (M' := fun A11_4 c11_4 => [[⟨.slice (A11_4) (((L).take (j)).length) (c11_4), 9, 1, (((L).take (j)).length), ((L).take (j)).map S⟩], [⟨.slice (A10_5) (([s5_1] ++ (L).drop (j)).length) (c10_5), 9, 1, (([s5_1] ++ (L).drop (j)).length), ([s5_1] ++ (L).drop (j)).map S⟩], [⟨.slice (bl gr) 1 1, 66, 2, 1, [.slice (rA) ((rl).length) (rc), I ((((q + 2) + 1 : Nat) : Int))]⟩], [⟨.slice (bl b2_1) (7) (7), 3, 1, 7, ([4, 6, 8, 3, 1, 0, 12]).map I⟩], [⟨.slice (A2) ((L).length) (c2), 9, 1, ((L).length), (L).map S⟩]]) 0 0 hM11_0 rfl rfl rfl Try.underlying24 el9 ⟨rfl, by decide⟩ rfl rfl rfl (rd_take1 (hM11_0.rd 4 rfl)) (by first | (simp; done) | (simp; omega)) (all_map_one (fun _ => rfl) _) (by first | omega | (simp; omega)) (by first | omega | (simp; omega)) (by first | (simp; done) | (simp; omega)) (by simp) (fun _ _ => rfl) (fun w11_4 A11_4 c11_4 hc11_4 hM11_4 => ?_)
              try dsimp only at hM11_4
              refine O.val (v := .slice (A10_5) (([s5_1] ++ (L).drop (j)).length) (c10_5)) rfl (Ru.move rfl) rfl ?_
              refine O.mappend (sz := 1) (news := ([s5_1] ++ (L).drop (j)).map S) (m1 := ((L).take (j) ++ ([s5_1] ++ (L).drop (j))).length) (xs1 := ((L).take (j) ++ ([s5_1] ++ (L).drop (j))).map S) (M' := fun A11_6 c11_6 => [[⟨.slice (A11_6) (((L).take (j) ++ ([s5_1] ++ (L).drop (j))).length) (c11_6), 9, 1, (((L).take (j) ++ ([s5_1] ++ (L).drop (j))).length), ((L).take (j) ++ ([s5_1] ++ (L).drop (j))).map S⟩], [⟨.slice (A10_5) (([s5_1] ++ (L).drop (j)).length) (c10_5), 9, 1, (([s5_1] ++ (L).drop (j)).length), ([s5_1] ++ (L).drop (j)).map S⟩], [⟨.slice (bl gr) 1 1, 66, 2, 1, [.slice (rA) ((rl).length) (rc), I ((((q + 2) + 1 : Nat) : Int))]⟩], [⟨.slice (bl b2_1) (7) (7), 3, 1, 7, ([4, 6, 8, 3, 1, 0, 12]).map I⟩], [⟨.slice (A2) ((L).length) (c2), 9, 1, ((L).length), (L).map S⟩]]) 0 0 hM11_4 rfl rfl rfl Try.underlying24 el9 ⟨rfl, by decide⟩ rfl rfl rfl (hM11_4.rd 1 rfl) (by first | (simp; done) | (simp; omega)) (all_map_one (fun _ => rfl) _) (by first | omega | (simp; omega)) (by first | omega | (simp; omega)) (by first | (simp; done) | (simp; omega)) (by simp) (fun _ _ => rfl) (fun w11_6 A11_6 c11_6 hc11_6 hM11_6 => ?_)
              try dsimp only at hM11_6
              refine O.val (v := .slice (A11_6) (((L).take (j) ++ ([s5_1] ++ (L).drop (j))).length) (c11_6)) rfl (Ru.assign rfl) rfl ?_
              refine O.nil ?_
              refine C.region ?_
              refine O.val (v := I (k)) rfl (Ru.move rfl) rfl ?_
              refine O.val (v := I ((k - 1))) rfl (Ru.sub rfl rfl (by omega)) rfl ?_
              refine O.val (v := I ((k - 1))) rfl (Ru.assign rfl) rfl ?_
              refine O.nil ?_
              exact loopEnd (k - 1, (L).take (j) ++ ([s5_1] ++ (L).drop (j)), A11_6, c11_6, ((q + 2) + 1)) (by (try dsimp only); omega) (Has.cons rfl (Has.cons rfl (Has.cons (I_congr (by first | rfl | omega | (simp; omega) | simp)) Has.nil))) ⟨(by (try dsimp only); simp; omega), (by (try dsimp only); intro s hs; simp only [List.mem_append, List.mem_singleton] at hs; rcases hs with hs | rfl | hs <;> first | exact hi1_l3 _ (List.mem_of_mem_take hs) | exact hs5_1 | exact hi1_l3 _ (List.mem_of_mem_drop hs)), (by (try dsimp only); omega), (hM11_6.pick [2, 3, 0] (by decide) rfl)⟩
            · refine C.skip ?_
              refine C.region ?_
              refine O.val (v := I (k)) rfl (Ru.move rfl) rfl ?_
              refine O.val (v := I ((k - 1))) rfl (Ru.sub rfl rfl (by omega)) rfl ?_
              refine O.val (v := I ((k - 1))) rfl (Ru.assign rfl) rfl ?_
              refine O.nil ?_
              exact loopEnd (k - 1, L, A2, c2, ((q + 2) + 1)) (by (try dsimp only); omega) (Has.cons rfl (Has.cons rfl (Has.cons (I_congr (by first | rfl | omega | (simp; omega) | simp)) Has.nil))) ⟨(by (try dsimp only); omega), hi1_l3, (by (try dsimp only); omega), (hM9_14.pick [0, 1, 2] (by decide) rfl)⟩
    · refine O.pass rfl rfl rfl rfl rfl ?_
      refine O.pass rfl rfl rfl rfl rfl ?_
      refine O.pass rfl rfl rfl rfl rfl ?_
      refine O.pass rfl rfl rfl rfl rfl ?_
      refine O.pass rfl rfl rfl rfl rfl ?_
      refine O.pass rfl rfl rfl rfl rfl ?_
      refine O.val (v := .bool (false)) rfl (Ru.pickF rfl rfl) rfl ?_
      refine O.nil ?_
      refine C.condF rfl ?_
      refine C.exit ?_
      refine C.seq ?_
      refine C.region ?_
      refine O.val (v := I (((j : Nat) : Int))) rfl (Ru.move rfl) rfl ?_
      refine O.val (v := .slice (A2) ((L).length) (c2)) rfl (Ru.move rfl) rfl ?_
      refine O.val (v := I ((((L).length : Nat) : Int))) rfl (Ru.blenSlice Try.underlying24 rfl) rfl ?_
      refine O.val (v := .bool (decide (((j : Nat) : Int) = (((L).length : Nat) : Int)))) rfl (Ru.eql rfl rfl) rfl ?_
      refine O.val (v := .bool (decide (((j : Nat) : Int) = (((L).length : Nat) : Int)))) rfl (Ru.move rfl) rfl ?_
      refine O.partp 38 (((j : Nat) : Int) = (((L).length : Nat) : Int)) rfl (fun g38 => ?_) (fun g38 => ?_)
      · refine O.pass rfl rfl rfl rfl rfl ?_
        refine O.pass rfl rfl rfl rfl rfl ?_
        refine O.pass rfl rfl rfl rfl rfl ?_
        refine O.pass rfl rfl rfl rfl rfl ?_
        refine O.pass rfl rfl rfl rfl rfl ?_
        refine O.pass rfl rfl rfl rfl rfl ?_
        refine O.val (v := .bool (true)) rfl (Ru.pickT rfl rfl) rfl ?_
        refine O.val (v := .bool (true)) rfl (Ru.move rfl) rfl ?_
        refine O.pass rfl rfl rfl rfl rfl ?_
        refine O.pass rfl rfl rfl rfl rfl ?_
        refine O.pass rfl rfl rfl rfl rfl ?_
        refine O.val (v := .bool (true)) rfl (Ru.pickT rfl rfl) rfl ?_
        refine O.nil ?_
        refine C.condT rfl ?_
        refine C.seq ?_
        refine C.region ?_
        refine O.val (v := S (s5_1)) rfl (Ru.move rfl) rfl ?_
        refine O.mlit (sz := 1) (cs := [S (s5_1)]) hM_l7 rfl Try.underlying24 el9 rfl rfl rfl (by kernel_rfl) (by kernel_rfl) rfl rfl (fun w10_1 b10_1 hb10_1 (hM10_1 : Mem w w10_1 [some gr] [[⟨.slice (bl b10_1) (1) (1), 9, 1, 1, ([s5_1]).map S⟩], [⟨.slice (bl gr) 1 1, 66, 2, 1, [.slice (rA) ((rl).length) (rc), I (((q + 2 : Nat) : Int))]⟩], [⟨.slice (bl b2_1) (7) (7), 3, 1, 7, ([4, 6, 8, 3, 1, 0, 12]).map I⟩], [⟨.slice (A2) ((L).length) (c2), 9, 1, ((L).length), (L).map S⟩]]) => ?_)
        refine O.val (v := .slice (A2) ((L).length) (c2)) rfl (Ru.move rfl) rfl ?_
        refine O.val (v := I (((j : Nat) : Int))) rfl (Ru.move rfl) rfl ?_
        have hcp10_4 := hM10_1.cap 3 rfl
        refine O.val (v := .slice (if c2 = j then A2 else ofs (A2) (j * 1)) (((L).drop (j)).length) (c2 - j)) rfl (Ru.congr (v := .slice (if c2 = j then A2 else ofs (A2) (j * 1)) (((L).length) - j) (c2 - j)) (v' := .slice (if c2 = j then A2 else ofs (A2) (j * 1)) (((L).drop (j)).length) (c2 - j)) (Ru.lsliceFrom (l := j) Try.underlying24 el9 rfl rfl (by omega) (by omega)) (sl_congr (by first | rfl | (simp; done) | omega | (simp; omega)))) rfl ?_
        refine O.mappend (sz := 1) (news := ((L).drop (j)).map S) (m1 := ([s5_1] ++ (L).drop (j)).length) (xs1 := ([s5_1] ++ (L).drop (j)).map S) (M' := fun A10_5 c10_5 => [[⟨.slice (A10_5) (([s5_1] ++ (L).drop (j)).length) (c10_5), 9, 1, (([s5_1] ++ (L).drop (j)).length), ([s5_1] ++ (L).drop (j)).map S⟩], [⟨.slice (bl gr) 1 1, 66, 2, 1, [.slice (rA) ((rl).length) (rc), I (((q + 2 : Nat) : Int))]⟩], [⟨.slice (bl b2_1) (7) (7), 3, 1, 7, ([4, 6, 8, 3, 1, 0, 12]).map I⟩], [⟨.slice (A2) ((L).length) (c2), 9, 1, ((L).length), (L).map S⟩]]) 0 0 hM10_1 rfl rfl rfl Try.underlying24 el9 ⟨rfl, by decide⟩ rfl rfl rfl (rd_drop1 (hM10_1.rd 3 rfl) (by first | omega | (simp; omega)) (by first | omega | (simp; omega))) (by simp) (all_map_one (fun _ => rfl) _) (by first | omega | (simp; omega)) (by first | omega | (simp; omega)) (by first | (simp; done) | (simp; omega)) (by simp) (fun _ _ => rfl) (fun w10_5 A10_5 c10_5 hc10_5 hM10_5 => ?_)
        try dsimp only at hM10_5
        refine O.val (v := .slice (A10_5) (([s5_1] ++ (L).drop (j)).length) (c10_5)) rfl (Ru.assign rfl) rfl ?_
        refine O.nil ?_
        refine C.region ?_
        refine O.mlit (sz := 1) (cs := []) hM10_5 rfl Try.underlying24 el9 rfl rfl rfl (by kernel_rfl) (by kernel_rfl) rfl rfl (fun w11_0 b11_0 hb11_0 (hM11_0 : Mem w w11_0 [some gr] [[⟨.slice (bl b11_0) (0) (0), 9, 1, 0, ([]).map S⟩], [⟨.slice (A10_5) (([s5_1] ++ (L).drop (j)).length) (c10_5), 9, 1, (([s5_1] ++ (L).drop (j)).length), ([s5_1] ++ (L).drop (j)).map S⟩], [⟨.slice (bl gr) 1 1, 66, 2, 1, [.slice (rA) ((rl).length) (rc), I (((q + 2 : Nat) : Int))]⟩], [⟨.slice (bl b2_1) (7) (7), 3, 1, 7, ([4, 6, 8, 3, 1, 0, 12]).map I⟩], [⟨.slice (A2) ((L).length) (c2), 9, 1, ((L).length), (L).map S⟩]]) => ?_)
        refine O.val (v := .slice (A2) ((L).length) (c2)) rfl (Ru.move rfl) rfl ?_
        refine O.val (v := I (((j : Nat) : Int))) rfl (Ru.move rfl) rfl ?_
        have hcp11_3 := hM11_0.cap 4 rfl
        refine O.val (v := .slice (A2) (((L).take (j)).length) (c2)) rfl (Ru.congr (v := .slice (A2) (j) (c2)) (v' := .slice (A2) (((L).take (j)).length) (c2)) (Ru.lsliceTo (h := j) Try.underlying24 el9 rfl rfl (by omega) (by omega)) (sl_congr (by first | rfl | (simp; done) | omega | (simp; omega)))) rfl ?_
        refine O.mappend (sz := 1) (news := ((L).take (j)).map S) (m1 := ((L).take (j)).length) (xs1 := ((L).take (j)).map S) (M' := fun A11_4 c11_4 => [[⟨.slice (A11_4) (((L).take (j)).length) (c11_4), 9, 1, (((L).take (j)).length), ((L).take (j)).map S⟩], [⟨.slice (A10_5) (([s5_1] ++ (L).drop (j)).length) (c10_5), 9, 1, (([s5_1] ++ (L).drop (j)).length), ([s5_1] ++ (L).drop (j)).map S⟩], [⟨.slice (bl gr) 1 1, 66, 2, 1, [.slice (rA) ((rl).length) (rc), I (((q + 2 : Nat) : Int))]⟩], [⟨.slice (bl b2_1) (7) (7), 3, 1, 7, ([4, 6, 8, 3, 1, 0, 12]).map I⟩], [⟨.slice (A2) ((L).length) (c2), 9, 1, ((L).length), (L).map S⟩]]) 0 0 hM11_0 rfl rfl rfl Try.underlying24 el9 ⟨rfl, by decide⟩ rfl rfl rfl (rd_take1 (hM11_0.rd 4 rfl)) (by first | (simp; done) | (simp; omega)) (all_map_one (fun _ => rfl) _) (by first | omega | (simp; omega)) (by first | omega | (simp; omega)) (by first | (simp; done) | (simp; omega)) (by simp) (fun _ _ => rfl) (fun w11_4 A11_4 c11_4 hc11_4 hM11_4 => ?_)
        try dsimp only at hM11_4
        refine O.val (v := .slice (A10_5) (([s5_1] ++ (L).drop (j)).length) (c10_5)) rfl (Ru.move rfl) rfl ?_
        refine O.mappend (sz := 1) (news := ([s5_1] ++ (L).drop (j)).map S) (m1 := ((L).take (j) ++ ([s5_1] ++ (L).drop (j))).length) (xs1 := ((L).take (j) ++ ([s5_1] ++ (L).drop (j))).map S) (M' := fun A11_6 c11_6 => [[⟨.slice (A11_6) (((L).take (j) ++ ([s5_1] ++ (L).drop (j))).length) (c11_6), 9, 1, (((L).take (j) ++ ([s5_1] ++ (L).drop (j))).length), ((L).take (j) ++ ([s5_1] ++ (L).drop (j))).map S⟩], [⟨.slice (A10_5) (([s5_1] ++ (L).drop (j)).length) (c10_5), 9, 1, (([s5_1] ++ (L).drop (j)).length), ([s5_1] ++ (L).drop (j)).map S⟩], [⟨.slice (bl gr) 1 1, 66, 2, 1, [.slice (rA) ((rl).length) (rc), I (((q + 2 : Nat) : Int))]⟩], [⟨.slice (bl b2_1) (7) (7), 3, 1, 7, ([4, 6, 8, 3, 1, 0, 12]).map I⟩], [⟨.slice (A2) ((L).length) (c2), 9, 1, ((L).length), (L).map S⟩]]) 0 0 hM11_4 rfl rfl rfl Try.underlying24 el9 ⟨rfl, by decide⟩ rfl rfl rfl (hM11_4.rd 1 rfl) (by first | (simp; done) | (simp; omega)) (all_map_one (fun _ => rfl) _) (by first | omega | (simp; omega)) (by first | omega | (simp; omega)) (by first | (simp; done) | (simp; omega)) (by simp) (fun _ _ => rfl) (fun w11_6 A11_6 c11_6 hc11_6 hM11_6 => ?_)
        try dsimp only at hM11_6
        refine O.val (v := .slice (A11_6) (((L).take (j) ++ ([s5_1] ++ (L).drop (j))).length) (c11_6)) rfl (Ru.assign rfl) rfl ?_
        refine O.nil ?_
        refine C.region ?_
        refine O.val (v := I (k)) rfl (Ru.move rfl) rfl ?_
        refine O.val (v := I ((k - 1))) rfl (Ru.sub rfl rfl (by omega)) rfl ?_
        refine O.val (v := I ((k - 1))) rfl (Ru.assign rfl) rfl ?_
        refine O.nil ?_
        exact loopEnd (k - 1, (L).take (j) ++ ([s5_1] ++ (L).drop (j)), A11_6, c11_6, (q + 2)) (by (try dsimp only); omega) (Has.cons rfl (Has.cons rfl (Has.cons (I_congr (by first | rfl | omega | (simp; omega) | simp)) Has.nil))) ⟨(by (try dsimp only); simp; omega), (by (try dsimp only); intro s hs; simp only [List.mem_append, List.mem_singleton] at hs; rcases hs with hs | rfl | hs <;> first | exact hi1_l3 _ (List.mem_of_mem_take hs) | exact hs5_1 | exact hi1_l3 _ (List.mem_of_mem_drop hs)), (by (try dsimp only); omega), (hM11_6.pick [2, 3, 0] (by decide) rfl)⟩
      · refine O.val (v := .slice (A2) ((L).length) (c2)) rfl (Ru.move rfl) rfl ?_
        refine O.val (v := I (((j : Nat) : Int))) rfl (Ru.move rfl) rfl ?_
        have hx9_7 : j < (L).length := (by first | omega | (simp; omega))
        refine O.val (v := .pointer (ofs (A2) (j * 1))) rfl (Ru.indexA (j := j) Try.underlying24 el9 rfl rfl (smm (hM_l7.rd 2 rfl) hx9_7) (by omega) (by first | omega | (simp; omega))) rfl ?_
        refine O.val rfl (Ru.load1 el9 rfl (ldm (hM_l7.rd 2 rfl) hx9_7)) rfl ?_
        refine O.val (v := S (s5_1)) rfl (Ru.move rfl) rfl ?_
        refine O.val (v := .bool (decide ((L)[j]'hx9_7 ≠ s5_1))) rfl (Ru.sneq rfl rfl) rfl ?_
        refine O.val (v := .bool (decide ((L)[j]'hx9_7 ≠ s5_1))) rfl (Ru.pickF rfl rfl) rfl ?_
        refine O.val (v := .bool (decide ((L)[j]'hx9_7 ≠ s5_1))) rfl (Ru.move rfl) rfl ?_
        refine O.partp 46 ((L)[j]'hx9_7 ≠ s5_1) rfl (fun g46 => ?_) (fun g46 => ?_)
        · refine O.pass rfl rfl rfl rfl rfl ?_
          refine O.pass rfl rfl rfl rfl rfl ?_
          refine O.pass rfl rfl rfl rfl rfl ?_
          refine O.val (v := .bool (true)) rfl (Ru.pickT rfl rfl) rfl ?_
          refine O.nil ?_
          refine C.condT rfl ?_
          refine C.seq ?_
          refine C.region ?_
          refine O.val (v := S (s5_1)) rfl (Ru.move rfl) rfl ?_
          refine O.mlit (sz := 1) (cs := [S (s5_1)]) hM_l7 rfl Try.underlying24 el9 rfl rfl rfl (by kernel_rfl) (by kernel_rfl) rfl rfl (fun w10_1 b10_1 hb10_1 (hM10_1 : Mem w w10_1 [some gr] [[⟨.slice (bl b10_1) (1) (1), 9, 1, 1, ([s5_1]).map S⟩], [⟨.slice (bl gr) 1 1, 66, 2, 1, [.slice (rA) ((rl).length) (rc), I (((q + 2 : Nat) : Int))]⟩], [⟨.slice (bl b2_1) (7) (7), 3, 1, 7, ([4, 6, 8, 3, 1, 0, 12]).map I⟩], [⟨.slice (A2) ((L).length) (c2), 9, 1, ((L).length), (L).map S⟩]]) => ?_)
          refine O.val (v := .slice (A2) ((L).length) (c2)) rfl (Ru.move rfl) rfl ?_
          refine O.val (v := I (((j : Nat) : Int))) rfl (Ru.move rfl) rfl ?_
          have hcp10_4 := hM10_1.cap 3 rfl
          refine O.val (v := .slice (if c2 = j then A2 else ofs (A2) (j * 1)) (((L).drop (j)).length) (c2 - j)) rfl (Ru.congr (v := .slice (if c2 = j then A2 else ofs (A2) (j * 1)) (((L).length) - j) (c2 - j)) (v' := .slice (if c2 = j then A2 else ofs (A2) (j * 1)) (((L).drop (j)).length) (c2 - j)) (Ru.lsliceFrom (l := j) Try.underlying24 el9 rfl rfl (by omega) (by omega)) (sl_congr (by first | rfl | (simp; done) | omega | (simp; omega)))) rfl ?_
          refine O.mappend (sz := 1) (news := ((L).drop (j)).map S) (m1 := ([s5_1] ++ (L).drop (j)).length) (xs1 := ([s5_1] ++ (L).drop (j)).map S) (M' := fun A10_5 c10_5 => [[⟨.slice (A10_5) (([s5_1] ++ (L).drop (j)).length) (c10_5), 9, 1, (([s5_1] ++ (L).drop (j)).length), ([s5_1] ++ (L).drop (j)).map S⟩], [⟨.slice (bl gr) 1 1, 66, 2, 1, [.slice (rA) ((rl).length) (rc), I (((q + 2 : Nat) : Int))]⟩], [⟨.slice (bl b2_1) (7) (7), 3, 1, 7, ([4, 6, 8, 3, 1, 0, 12]).map I⟩], [⟨.slice (A2) ((L).length) (c2), 9, 1, ((L).length), (L).map S⟩]]) 0 0 hM10_1 rfl rfl rfl Try.underlying24 el9 ⟨rfl, by decide⟩ rfl rfl rfl (rd_drop1 (hM10_1.rd 3 rfl) (by first | omega | (simp; omega)) (by first | omega | (simp; omega))) (by simp) (all_map_one (fun _ => rfl) _) (by first | omega | (simp; omega)) (by first | omega | (simp; omega)) (by first | (simp; done) | (simp; omega)) (by simp) (fun _ _ => rfl) (fun w10_5 A10_5 c10_5 hc10_5 hM10_5 => ?_)
          try dsimp only at hM10_5
          refine O.val (v := .slice (A10_5) (([s5_1] ++ (L).drop (j)).length) (c10_5)) rfl (Ru.assign rfl) rfl ?_
          refine O.nil ?_
          refine C.region ?_
          refine O.mlit (sz := 1) (cs := []) hM10_5 rfl Try.underlying24 el9 rfl rfl rfl (by kernel_rfl) (by kernel_rfl) rfl rfl (fun w11_0 b11_0 hb11_0 (hM11_0 : Mem w w11_0 [some gr] [[⟨.slice (bl b11_0) (0) (0), 9, 1, 0, ([]).map S⟩], [⟨.slice (A10_5) (([s5_1] ++ (L).drop (j)).length) (c10_5), 9, 1, (([s5_1] ++ (L).drop (j)).length), ([s5_1] ++ (L).drop (j)).map S⟩], [⟨.slice (bl gr) 1 1, 66, 2, 1, [.slice (rA) ((rl).length) (rc), I (((q + 2 : Nat) : Int))]⟩], [⟨.slice (bl b2_1) (7) (7), 3, 1, 7, ([4, 6, 8, 3, 1, 0, 12]).map I⟩], [⟨.slice (A2) ((L).length) (c2), 9, 1, ((L).length), (L).map S⟩]]) => ?_)
          refine O.val (v := .slice (A2) ((L).length) (c2)) rfl (Ru.move rfl) rfl ?_
          refine O.val (v := I (((j : Nat) : Int))) rfl (Ru.move rfl) rfl ?_
          have hcp11_3 := hM11_0.cap 4 rfl
          refine O.val (v := .slice (A2) (((L).take (j)).length) (c2)) rfl (Ru.congr (v := .slice (A2) (j) (c2)) (v' := .slice (A2) (((L).take (j)).length) (c2)) (Ru.lsliceTo (h := j) Try.underlying24 el9 rfl rfl (by omega) (by omega)) (sl_congr (by first | rfl | (simp; done) | omega | (simp; omega)))) rfl ?_
          refine O.mappend (sz := 1) (news := ((L).take (j)).map S) (m1 := ((L).take (j)).length) (xs1 := ((L).take (j)).map S) (M' := fun A11_4 c11_4 => [[⟨.slice (A11_4) (((L).take (j)).length) (c11_4), 9, 1, (((L).take (j)).length), ((L).take (j)).map S⟩], [⟨.slice (A10_5) (([s5_1] ++ (L).drop (j)).length) (c10_5), 9, 1, (([s5_1] ++ (L).drop (j)).length), ([s5_1] ++ (L).drop (j)).map S⟩], [⟨.slice (bl gr) 1 1, 66, 2, 1, [.slice (rA) ((rl).length) (rc), I (((q + 2 : Nat) : Int))]⟩], [⟨.slice (bl b2_1) (7) (7), 3, 1, 7, ([4, 6, 8, 3, 1, 0, 12]).map I⟩], [⟨.slice (A2) ((L).length) (c2), 9, 1, ((L).length), (L).map S⟩]]) 0 0 hM11_0 rfl rfl rfl Try.underlying24 el9 ⟨rfl, by decide⟩ rfl rfl rfl (rd_take1 (hM11_0.rd 4 rfl)) (by first | (simp; done) | (simp; omega)) (all_map_one (fun _ => rfl) _) (by first | omega | (simp; omega)) (by first | omega | (simp; omega)) (by first | (simp; done) | (simp; omega)) (by simp) (fun _ _ => rfl) (fun w11_4 A11_4 c11_4 hc11_4 hM11_4 => ?_)
          try dsimp only at hM11_4
          refine O.val (v := .slice (A10_5) (([s5_1] ++ (L).drop (j)).length) (c10_5)) rfl (Ru.move rfl) rfl ?_
          refine O.mappend (sz := 1) (news := ([s5_1] ++ (L).drop (j)).map S) (m1 := ((L).take (j) ++ ([s5_1] ++ (L).drop (j))).length) (xs1 := ((L).take (j) ++ ([s5_1] ++ (L).drop (j))).map S) (M' := fun A11_6 c11_6 => [[⟨.slice (A11_6) (((L).take (j) ++ ([s5_1] ++ (L).drop (j))).length) (c11_6), 9, 1, (((L).take (j) ++ ([s5_1] ++ (L).drop (j))).length), ((L).take (j) ++ ([s5_1] ++ (L).drop (j))).map S⟩], [⟨.slice (A10_5) (([s5_1] ++ (L).drop (j)).length) (c10_5), 9, 1, (([s5_1] ++ (L).drop (j)).length), ([s5_1] ++ (L).drop (j)).map S⟩], [⟨.slice (bl gr) 1 1, 66, 2, 1, [.slice (rA) ((rl).length) (rc), I (((q + 2 : Nat) : Int))]⟩], [⟨.slice (bl b2_1) (7) (7), 3, 1, 7, ([4, 6, 8, 3, 1, 0, 12]).map I⟩], [⟨.slice (A2) ((L).length) (c2), 9, 1, ((L).length), (L).map S⟩]]) 0 0 hM11_4 rfl rfl rfl Try.underlying24 el9 ⟨rfl, by decide⟩ rfl rfl rfl (hM11_4.rd 1 rfl) (by first | (simp; done) | (simp; omega)) (all_map_one (fun _ => rfl) _) (by first | omega | (simp; omega)) (by first | omega | (simp; omega)) (by first | (simp; done) | (simp; omega)) (by simp) (fun _ _ => rfl) (fun w11_6 A11_6 c11_6 hc11_6 hM11_6 => ?_)
          try dsimp only at hM11_6
          refine O.val (v := .slice (A11_6) (((L).take (j) ++ ([s5_1] ++ (L).drop (j))).length) (c11_6)) rfl (Ru.assign rfl) rfl ?_
          refine O.nil ?_
          refine C.region ?_
          refine O.val (v := I (k)) rfl (Ru.move rfl) rfl ?_
          refine O.val (v := I ((k - 1))) rfl (Ru.sub rfl rfl (by omega)) rfl ?_
          refine O.val (v := I ((k - 1))) rfl (Ru.assign rfl) rfl ?_
          refine O.nil ?_
          exact loopEnd (k - 1, (L).take (j) ++ ([s5_1] ++ (L).drop (j)), A11_6, c11_6, (q + 2)) (by (try dsimp only); omega) (Has.cons rfl (Has.cons rfl (Has.cons (I_congr (by first | rfl | omega | (simp; omega) | simp)) Has.nil))) ⟨(by (try dsimp only); simp; omega), (by (try dsimp only); intro s hs; simp only [List.mem_append, List.mem_singleton] at hs; rcases hs with hs | rfl | hs <;> first | exact hi1_l3 _ (List.mem_of_mem_take hs) | exact hs5_1 | exact hi1_l3 _ (List.mem_of_mem_drop hs)), (by (try dsimp only); omega), (hM11_6.pick [2, 3, 0] (by decide) rfl)⟩
        · refine O.val (v := .pointer (ofs (bl gr) (0))) rfl (Ru.move rfl) rfl ?_
          refine O.callg [.pointer (ofs (bl gr) (0)), I (10)] rfl en55 rfl rfl (pick_fn gr rA rc rl (q + 2) 10 w_l7 (hrA.atR hM_l7 hro) hro hrl (Mem.focus (Ma := [[⟨.slice (bl gr) 1 1, 66, 2, 1, [.slice (rA) ((rl).length) (rc), I (((q + 2 : Nat) : Int))]⟩]]) (rest := [[⟨.slice (bl b2_1) (7) (7), 3, 1, 7, ([4, 6, 8, 3, 1, 0, 12]).map I⟩], [⟨.slice (A2) ((L).length) (c2), 9, 1, ((L).length), (L).map S⟩]]) hM_l7 rfl) (by first | omega | assumption | (simp; omega) | simp | (intros; omega))) ?_
          rintro _ w9_14 ⟨k9_14, rfl, hk9_14, hR9_14⟩
          have hM9_14 : Mem w w9_14 [some gr] [[⟨.slice (bl gr) 1 1, 66, 2, 1, [.slice (rA) ((rl).length) (rc), I ((((q + 2) + 1 : Nat) : Int))]⟩], [⟨.slice (bl b2_1) (7) (7), 3, 1, 7, ([4, 6, 8, 3, 1, 0, 12]).map I⟩], [⟨.slice (A2) ((L).length) (c2), 9, 1, ((L).length), (L).map S⟩]] := Mem.call (Ma := [[⟨.slice (bl gr) 1 1, 66, 2, 1, [.slice (rA) ((rl).length) (rc), I (((q + 2 : Nat) : Int))]⟩]]) hM_l7 hR9_14 rfl
          refine O.val (v := .bool (decide (k9_14 = 0))) rfl (Ru.eql rfl rfl) rfl ?_
          refine O.val (v := .bool (decide (k9_14 = 0))) rfl (Ru.pickF rfl rfl) rfl ?_
          refine O.nil ?_
          refine C.cond (p := k9_14 = 0) rfl (fun c50 => ?_) (fun c50 => ?_)
          · refine C.seq ?_
            refine C.region ?_
            refine O.val (v := S (s5_1)) rfl (Ru.move rfl) rfl ?_
            refine O.mlit (sz := 1) (cs := [S (s5_1)]) hM9_14 rfl Try.underlying24 el9 rfl rfl rfl (by kernel_rfl) (by kernel_rfl) rfl rfl (fun w10_1 b10_1 hb10_1 (hM10_1 : Mem w w10_1 [some gr] [[⟨.slice (bl b10_1) (1) (1), 9, 1, 1, ([s5_1]).map S⟩], [⟨.slice (bl gr) 1 1, 66, 2, 1, [.slice (rA) ((rl).length) (rc), I ((((q + 2) + 1 : Nat) : Int))]⟩], [⟨.slice (bl b2_1) (7) (7), 3, 1, 7, ([4, 6, 8, 3, 1, 0, 12]).map I⟩], [⟨.slice (A2) ((L).length) (c2), 9, 1, ((L).length), (L).map S⟩]]) => ?_)
            refine O.val (v := .slice (A2) ((L).length) (c2)) rfl (Ru.move rfl) rfl ?_
            refine O.val (v := I (((j : Nat) : Int))) rfl (Ru.move rfl) rfl ?_
            have hcp10_4 := hM10_1.cap 3 rfl
            refine O.val (v := .slice (if c2 = j then A2 else ofs (A2) (j * 1)) (((L).drop (j)).length) (c2 - j)) rfl (Ru.congr (v := .slice (if c2 = j then A2 else ofs (A2) (j * 1)) (((L).length) - j) (c2 - j)) (v' := .slice (if c2 = j then A2 else ofs (A2) (j * 1)) (((L).drop (j)).length) (c2 - j)) (Ru.lsliceFrom (l := j) Try.underlying24 el9 rfl rfl (by omega) (by omega)) (sl_congr (by first | rfl | (simp; done) | omega | (simp; omega)))) rfl ?_
            refine O.mappend (sz := 1) (news := ((L).drop (j)).map S) (m1 := ([s5_1] ++ (L).drop (j)).length) (xs1 := ([s5_1] ++ (L).drop (j)).map S) (M' := fun A10_5 c10_5 => [[⟨.slice (A10_5) (([s5_1] ++ (L).drop (j)).length) (c10_5), 9, 1, (([s5_1] ++ (L).drop (j)).length), ([s5_1] ++ (L).drop (j)).map S⟩], [⟨.slice (bl gr) 1 1, 66, 2, 1, [.slice (rA) ((rl).length) (rc), I ((((q + 2) + 1 : Nat) : Int))]⟩], [⟨.slice (bl b2_1) (7) (7), 3, 1, 7, ([4, 6, 8, 3, 1, 0, 12]).map I⟩], [⟨.slice (A2) ((L).length) (c2), 9, 1, ((L).length), (L).map S⟩]]) 0 0 hM10_1 rfl rfl rfl Try.underlying24 el9 ⟨rfl, by decide⟩ rfl rfl rfl (rd_drop1 (hM10_1.rd 3 rfl) (by first | omega | (simp; omega)) (by first | omega | (simp; omega))) (by simp) (all_map_one (fun _ => rfl) _) (by first | omega | (simp; omega)) (by first | omega | (simp; omega)) (by first | (simp; done) | (simp; omega)) (by simp) (fun _ _ => rfl) (fun w10_5 A10_5 c10_5 hc10_5 hM10_5 => ?_)
            try dsimp only at hM10_5
            refine O.val (v := .slice (A10_5) (([s5_1] ++ (L).drop (j)).length) (c10_5)) rfl (Ru.assign rfl) rfl ?_
            refine O.nil ?_
            refine C.region ?_
            refine O.mlit (sz := 1) (cs := []) hM10_5 rfl Try.underlying24 el9 rfl rfl rfl (by kernel_rfl) (by kernel_rfl) rfl rfl (fun w11_0 b11_0 hb11_0 (hM11_0 : Mem w w11_0 [some gr] [[⟨.slice (bl b11_0) (0) (0), 9, 1, 0, ([]).map S⟩], [⟨.slice (A10_5) (([s5_1] ++ (L).drop (j)).length) (c10_5), 9, 1, (([s5_1] ++ (L).drop (j)).length), ([s5_1] ++ (L).drop (j)).map S⟩], [⟨.slice (bl gr) 1 1, 66, 2, 1, [.slice (rA) ((rl).length) (rc), I ((((q + 2) + 1 : Nat) : Int))]⟩], [⟨.slice (bl b2_1) (7) (7), 3, 1, 7, ([4, 6, 8, 3, 1, 0, 12]).map I⟩], [⟨.slice (A2) ((L).length) (c2), 9, 1, ((L).length), (L).map S⟩]]) => ?_)
            refine O.val (v := .slice (A2) ((L).length) (c2)) rfl (Ru.move rfl) rfl ?_
            refine O.val (v := I (((j : Nat) : Int))) rfl (Ru.move rfl) rfl ?_
            have hcp11_3 := hM11_0.cap 4 rfl
            refine O.val (v := .slice (A2) (((L).take (j)).length) (c2)) rfl (Ru.congr (v := .slice (A2) (j) (c2)) (v' := .slice (A2) (((L).take (j)).length) (c2)) (Ru.lsliceTo (h := j) Try.underlying24 el9 rfl rfl (by omega) (by omega)) (sl_congr (by first | rfl | (simp; done) | omega | (simp; omega)))) rfl ?_
            refine O.mappend (sz := 1) (news := ((L).take (j)).map S) (m1 := ((L).take (j)).length) (xs1 := ((L).take (j)).map S) (M' := fun A11_4 c11_4 => [[⟨.slice (A11_4) (((L).take (j)).length) (c11_4), 9, 1, (((L).take (j)).length), ((L).take (j)).map S⟩], [⟨.slice (A10_5) (([s5_1] ++ (L).drop (j)).length) (c10_5), 9, 1, (([s5_1] ++ (L).drop (j)).length), ([s5_1] ++ (L).drop (j)).map S⟩], [⟨.slice (bl gr) 1 1, 66, 2, 1, [.slice (rA) ((rl).length) (rc), I ((((q + 2) + 1 : Nat) : Int))]⟩], [⟨.slice (bl b2_1) (7) (7), 3, 1, 7, ([4, 6, 8, 3, 1, 0, 12]).map I⟩], [⟨.slice (A2) ((L).length) (c2), 9, 1, ((L).length), (L).map S⟩]]) 0 0 hM11_0 rfl rfl rfl Try.underlying24 el9 ⟨rfl, by decide⟩ rfl rfl rfl (rd_take1 (hM11_0.rd 4 rfl)) (by first | (simp; done) | (simp; omega)) (all_map_one (fun _ => rfl) _) (by first | omega | (simp; omega)) (by first | omega | (simp; omega)) (by first | (simp; done) | (simp; omega)) (by simp) (fun _ _ => rfl) (fun w11_4 A11_4 c11_4 hc11_4 hM11_4 => ?_)
            try dsimp only at hM11_4
            refine O.val (v := .slice (A10_5) (([s5_1] ++ (L).drop (j)).length) (c10_5)) rfl (Ru.move rfl) rfl ?_
            refine O.mappend (sz := 1) (news := ([s5_1] ++ (L).drop (j)).map S) (m1 := ((L).take (j) ++ ([s5_1] ++ (L).drop (j))).length) (xs1 := ((L).take (j) ++ ([s5_1] ++ (L).drop (j))).map S) (M' := fun A11_6 c11_6 => [[⟨.slice (A11_6) (((L).take (j) ++ ([s5_1] ++ (L).drop (j))).length) (c11_6), 9, 1, (((L).take (j) ++ ([s5_1] ++ (L).drop (j))).length), ((L).take (j) ++ ([s5_1] ++ (L).drop (j))).map S⟩], [⟨.slice (A10_5) (([s5_1] ++ (L).drop (j)).length) (c10_5), 9, 1, (([s5_1] ++ (L).drop (j)).length), ([s5_1] ++ (L).drop (j)).map S⟩], [⟨.slice (bl gr) 1 1, 66, 2, 1, [.slice (rA) ((rl).length) (rc), I ((((q + 2) + 1 : Nat) : Int))]⟩], [⟨.slice (bl b2_1) (7) (7), 3, 1, 7, ([4, 6, 8, 3, 1, 0, 12]).map I⟩], [⟨.slice (A2) ((L).length) (c2), 9, 1, ((L).length), (L).map S⟩]]) 0 0 hM11_4 rfl rfl rfl Try.underlying24 el9 ⟨rfl, by decide⟩ rfl rfl rfl (hM11_4.rd 1 rfl) (by first | (simp; done) | (simp; omega)) (all_map_one (fun _ => rfl) _) (by first | omega | (simp; omega)) (by first | omega | (simp; omega)) (by first | (simp; done) | (simp; omega)) (by simp) (fun _ _ => rfl) (fun w11_6 A11_6 c11_6 hc11_6 hM11_6 => ?_)
            try dsimp only at hM11_6
            refine O.val (v := .slice (A11_6) (((L).take (j) ++ ([s5_1] ++ (L).drop (j))).length) (c11_6)) rfl (Ru.assign rfl) rfl ?_
            refine O.nil ?_
            refine C.region ?_
            refine O.val (v := I (k)) rfl (Ru.move rfl) rfl ?_
            refine O.val (v := I ((k - 1))) rfl (Ru.sub rfl rfl (by omega)) rfl ?_
            refine O.val (v := I ((k - 1))) rfl (Ru.assign rfl) rfl ?_
            refine O.nil ?_
            exact loopEnd (k - 1, (L).take (j) ++ ([s5_1] ++ (L).drop (j)), A11_6, c11_6, ((q + 2) + 1)) (by (try dsimp only); omega) (Has.cons rfl (Has.cons rfl (Has.cons (I_congr (by first | rfl | omega | (simp; omega) | simp)) Has.nil))) ⟨(by (try dsimp only); simp; omega), (by (try dsimp only); intro s hs; simp only [List.mem_append, List.mem_singleton] at hs; rcases hs with hs | rfl | hs <;> first | exact hi1_l3 _ (List.mem_of_mem_take hs) | exact hs5_1 | exact hi1_l3 _ (List.mem_of_mem_drop hs)), (by (try dsimp only); omega), (hM11_6.pick [2, 3, 0] (by decide) rfl)⟩
          · refine C.skip ?_
            refine C.region ?_
            refine O.val (v := I (k)) rfl (Ru.move rfl) rfl ?_
            refine O.val (v := I ((k - 1))) rfl (Ru.sub rfl rfl (by omega)) rfl ?_
            refine O.val (v := I ((k - 1))) rfl (Ru.assign rfl) rfl ?_
            refine O.nil ?_
            exact loopEnd (k - 1, L, A2, c2, ((q + 2) + 1)) (by (try dsimp only); omega) (Has.cons rfl (Has.cons rfl (Has.cons (I_congr (by first | rfl | omega | (simp; omega) | simp)) Has.nil))) ⟨(by (try dsimp only); omega), hi1_l3, (by (try dsimp only); omega), (hM9_14.pick [0, 1, 2] (by decide) rfl)⟩
  · refine C.exit ?_
    refine C.seq ?_
    refine C.seq ?_
    refine C.region ?_
    refine O.val (v := .pointer (ofs (bl gr) (0))) rfl (Ru.move rfl) rfl ?_
    refine O.callg [.pointer (ofs (bl gr) (0)), I (3)] rfl en55 rfl rfl (pick_fn gr rA rc rl q 3 w_l3 (hrA.atR hM_l3 hro) hro hrl (Mem.focus (Ma := [[⟨.slice (bl gr) 1 1, 66, 2, 1, [.slice (rA) ((rl).length) (rc), I (((q : Nat) : Int))]⟩]]) (rest := [[⟨.slice (bl b2_1) (7) (7), 3, 1, 7, ([4, 6, 8, 3, 1, 0, 12]).map I⟩], [⟨.slice (A2) ((L).length) (c2), 9, 1, ((L).length), (L).map S⟩]]) hM_l3 rfl) (by first | omega | assumption | (simp; omega) | simp | (intros; omega))) ?_
    rintro _ w12_1 ⟨k12_1, rfl, hk12_1, hR12_1⟩
    have hM12_1 : Mem w w12_1 [some gr] [[⟨.slice (bl gr) 1 1, 66, 2, 1, [.slice (rA) ((rl).length) (rc), I (((q + 1 : Nat) : Int))]⟩], [⟨.slice (bl b2_1) (7) (7), 3, 1, 7, ([4, 6, 8, 3, 1, 0, 12]).map I⟩], [⟨.slice (A2) ((L).length) (c2), 9, 1, ((L).length), (L).map S⟩]] := Mem.call (Ma := [[⟨.slice (bl gr) 1 1, 66, 2, 1, [.slice (rA) ((rl).length) (rc), I (((q : Nat) : Int))]⟩]]) hM_l3 hR12_1 rfl
    refine O.val (v := .bool (decide (k12_1 > 0))) rfl (Ru.gtr rfl rfl) rfl ?_
    refine O.nil ?_
    refine C.cond (p := k12_1 > 0) rfl (fun c66 => ?_) (fun c66 => ?_)
    · refine C.seq ?_
      refine C.region ?_
      refine O.mlit (sz := 1) (cs := []) hM12_1 rfl Try.underlying24 el9 rfl rfl rfl (by kernel_rfl) (by kernel_rfl) rfl rfl (fun w13_0 b13_0 hb13_0 (hM13_0 : Mem w w13_0 [some gr] [[⟨.slice (bl b13_0) (0) (0), 9, 1, 0, ([]).map S⟩], [⟨.slice (bl gr) 1 1, 66, 2, 1, [.slice (rA) ((rl).length) (rc), I (((q + 1 : Nat) : Int))]⟩], [⟨.slice (bl b2_1) (7) (7), 3, 1, 7, ([4, 6, 8, 3, 1, 0, 12]).map I⟩], [⟨.slice (A2) ((L).length) (c2), 9, 1, ((L).length), (L).map S⟩]]) => ?_)
      refine O.val (v := .slice (bl b13_0) (0) (0)) rfl (Ru.assign rfl) rfl ?_
      refine O.nil ?_
      refine C.seq ?_
      refine C.seq ?_
      refine C.region ?_
      refine O.val (v := I (0)) rfl (Ru.assign rfl) rfl ?_
      refine O.nil ?_
      refine C.block ?_
      refine C.loop (ι := Nat × (List Str) × (Option Addr) × Nat) (fun x_ => ([(3, .slice (A2) ((L).length) (c2)), (8, .slice (x_.2.2.1) ((x_.2.1).length) (x_.2.2.2)), (9, I (((x_.1 : Nat) : Int)))] : List (Nat × Value))) (fun x_ w_ => (x_.2.1.length ≤ 8) ∧ (∀ s ∈ x_.2.1, s.length ≤ 8) ∧ (Mem w w_ [some gr] [[⟨.slice (x_.2.2.1) ((x_.2.1).length) (x_.2.2.2), 9, 1, ((x_.2.1).length), (x_.2.1).map S⟩], [⟨.slice (bl gr) 1 1, 66, 2, 1, [.slice (rA) ((rl).length) (rc), I (((q + 1 : Nat) : Int))]⟩], [⟨.slice (bl b2_1) (7) (7), 3, 1, 7, ([4, 6, 8, 3, 1, 0, 12]).map I⟩], [⟨.slice (A2) ((L).length) (c2), 9, 1, ((L).length), (L).map S⟩]])) (fun x_ => L.length - x_.1) (0, [], bl b13_0, 0) (Has.cons rfl (Has.cons (sl_congr (by first | rfl | simp | omega | (simp []) | (simp; omega))) (Has.cons (I_congr (by first | rfl | omega | (simp; omega) | simp)) Has.nil))) ⟨(by (try dsimp only); simp), (by (try dsimp only); simp), (hM13_0.pick [0, 1, 2, 3] (by decide) rfl)⟩ (fun ⟨i, G, A3, c3⟩ σ w_l15 hI => ?_)
      try dsimp only at hI
      obtain ⟨hi0_l15, hi1_l15, hM_l15⟩ := hI
      have hls := hi1_l3
      refine C.seq ?_
      refine C.seq ?_
      refine C.region ?_
      refine O.val (v := I (((i : Nat) : Int))) rfl (Ru.move rfl) rfl ?_
      refine O.val (v := .slice (A2) ((L).length) (c2)) rfl (Ru.move rfl) rfl ?_
      refine O.val (v := I ((((L).length : Nat) : Int))) rfl (Ru.blenSlice Try.underlying24 rfl) rfl ?_
      refine O.val (v := .bool (decide (((i : Nat) : Int) < (((L).length : Nat) : Int)))) rfl (Ru.lss rfl rfl) rfl ?_
      refine O.nil ?_
      refine C.cond (p := ((i : Nat) : Int) < (((L).length : Nat) : Int)) rfl (fun c71 => ?_) (fun c71 => ?_)
      · refine C.skip ?_
        refine C.seq ?_
        refine C.block ?_
        refine C.seq ?_
        refine C.draws (fun w2 => Mem w w2 [some gr] [[⟨.slice (A3) ((G).length) (c3), 9, 1, ((G).length), (G).map S⟩], [⟨.slice (bl gr) 1 1, 66, 2, 1, [.slice (rA) ((rl).length) (rc), I (((q + 1 : Nat) : Int))]⟩], [⟨.slice (bl b2_1) (7) (7), 3, 1, 7, ([4, 6, 8, 3, 1, 0, 12]).map I⟩], [⟨.slice (A2) ((L).length) (c2), 9, 1, ((L).length), (L).map S⟩]]) mixed (by kernel_rfl) (hM_l15.ext (kdrawn _)) ?_
        refine QO.val (v := .slice (A2) ((L).length) (c2)) rfl (fun w2 hw2 => Ru.move rfl) rfl ?_
        refine QO.val (v := I (((i : Nat) : Int))) rfl (fun w2 hw2 => Ru.move rfl) rfl ?_
        have hx17_2 : i < (L).length := (by first | omega | (simp; omega))
        refine QO.val (v := .pointer (ofs (A2) (i * 1))) rfl (fun w2 hw2 => Ru.indexA (j := i) Try.underlying24 el9 rfl rfl (smm (hw2.rd 3 rfl) hx17_2) (by omega) (by first | omega | (simp; omega))) rfl ?_
        refine QO.val rfl (fun w2 hw2 => Ru.load1 el9 rfl (ldm (hw2.rd 3 rfl) hx17_2)) rfl ?_
        refine QO.callg (v := .bool (isWordB ((L)[i]'hx17_2))) [S ((L)[i]'hx17_2)] rfl en47 rfl rfl (fun w2 hw2 => (vvalidWord_fn ((L)[i]'hx17_2) w2 (by have := hls _ (List.getElem_mem hx17_2); omega)).mono fun _ _ h => ⟨h.1, Mem.call0 hw2 h.2⟩) ?_
        refine QO.val (v := .bool (isWordB ((L)[i]'hx17_2))) rfl (fun w2 hw2 => Ru.move rfl) rfl ?_
        refine QO.part 79 (isWordB ((L)[i]'hx17_2)) rfl (fun g79 => ?_) (fun g79 => ?_)
        · refine QO.val (v := .slice (A3) ((G).length) (c3)) rfl (fun w2 hw2 => Ru.move rfl) rfl ?_
          refine QO.val (v := I ((((G).length : Nat) : Int))) rfl (fun w2 hw2 => Ru.blenSlice Try.underlying24 rfl) rfl ?_
          refine QO.val (v := .bool (decide ((((G).length : Nat) : Int) = 0))) rfl (fun w2 hw2 => Ru.eql rfl rfl) rfl ?_
          refine QO.val (v := .bool (decide ((((G).length : Nat) : Int) = 0))) rfl (fun w2 hw2 => Ru.move rfl) rfl ?_
          refine QO.partp 83 ((((G).length : Nat) : Int) = 0) rfl (fun g83 => ?_) (fun g83 => ?_)
          · refine QO.pass rfl rfl rfl rfl rfl ?_
            refine QO.pass rfl rfl rfl rfl rfl ?_
            refine QO.pass rfl rfl rfl rfl rfl ?_
            refine QO.pass rfl rfl rfl rfl rfl ?_
            refine QO.pass rfl rfl rfl rfl rfl ?_
            refine QO.pass rfl rfl rfl rfl rfl ?_
            refine QO.pass rfl rfl rfl rfl rfl ?_
            refine QO.pass rfl rfl rfl rfl rfl ?_
            refine QO.pass rfl rfl rfl rfl rfl ?_
            refine QO.pass rfl rfl rfl rfl rfl ?_
            refine QO.pass rfl rfl rfl rfl rfl ?_
            refine QO.val (v := .bool (true)) rfl (fun w2 hw2 => Ru.pickT rfl rfl) rfl ?_
            refine QO.val (v := .bool (true)) rfl (fun w2 hw2 => Ru.pickT rfl rfl) rfl ?_
            refine QO.val (v := .bool (true)) rfl (fun w2 hw2 => Ru.move rfl) rfl ?_
            refine QO.val (v := .slice (A3) ((G).length) (c3)) rfl (fun w2 hw2 => Ru.move rfl) rfl ?_
            refine QO.val (v := I ((((G).length : Nat) : Int))) rfl (fun w2 hw2 => Ru.blenSlice Try.underlying24 rfl) rfl ?_
            refine QO.val (v := .bool (decide ((((G).length : Nat) : Int) < 8))) rfl (fun w2 hw2 => Ru.lss rfl rfl) rfl ?_
            refine QO.val (v := .bool (decide ((((G).length : Nat) : Int) < 8))) rfl (fun w2 hw2 => Ru.pickT rfl rfl) rfl ?_
            refine QO.nil ?_
            intro w17d hM17d
            refine C.cond (p := (((G).length : Nat) : Int) < 8) rfl (fun c101 => ?_) (fun c101 => ?_)
            · refine C.region ?_
              refine O.val (v := .slice (A3) ((G).length) (c3)) rfl (Ru.move rfl) rfl ?_
              refine O.val (v := .slice (A2) ((L).length) (c2)) rfl (Ru.move rfl) rfl ?_
              refine O.val (v := I (((i : Nat) : Int))) rfl (Ru.move rfl) rfl ?_
              have hx18_3 : i < (L).length := (by first | omega | (simp; omega))
              refine O.val (v := .pointer (ofs (A2) (i * 1))) rfl (Ru.indexA (j := i) Try.underlying24 el9 rfl rfl (smm (hM17d.rd 3 rfl) hx18_3) (by omega) (by first | omega | (simp; omega))) rfl ?_
              refine O.val rfl (Ru.load1 el9 rfl (ldm (hM17d.rd 3 rfl) hx18_3)) rfl ?_
              refine O.mlit (sz := 1) (cs := [S ((L)[i]'hx18_3)]) hM17d rfl Try.underlying24 el9 rfl rfl rfl (by kernel_rfl) (by kernel_rfl) rfl rfl (fun w18_5 b18_5 hb18_5 (hM18_5 : Mem w w18_5 [some gr] [[⟨.slice (bl b18_5) (1) (1), 9, 1, 1, ([(L)[i]'hx18_3]).map S⟩], [⟨.slice (A3) ((G).length) (c3), 9, 1, ((G).length), (G).map S⟩], [⟨.slice (bl gr) 1 1, 66, 2, 1, [.slice (rA) ((rl).length) (rc), I (((q + 1 : Nat) : Int))]⟩], [⟨.slice (bl b2_1) (7) (7), 3, 1, 7, ([4, 6, 8, 3, 1, 0, 12]).map I⟩], [⟨.slice (A2) ((L).length) (c2), 9, 1, ((L).length), (L).map S⟩]]) => ?_)
              refine O.mappend (sz := 1) (news := ([(L)[i]'hx18_3]).map S) (m1 := (G ++ [(L)[i]'hx18_3]).length) (xs1 := (G ++ [(L)[i]'hx18_3]).map S) (M' := fun A18_6 c18_6 => [[⟨.slice (bl b18_5) (1) (1), 9, 1, 1, ([(L)[i]'hx18_3]).map S⟩], [⟨.slice (A18_6) ((G ++ [(L)[i]'hx18_3]).length) (c18_6), 9, 1, ((G ++ [(L)[i]'hx18_3]).length), (G ++ [(L)[i]'hx18_3]).map S⟩], [⟨.slice (bl gr) 1 1, 66, 2, 1, [.slice (rA) ((rl).length) (rc), I (((q + 1 : Nat) : Int))]⟩], [⟨.slice (bl b2_1) (7) (7), 3, 1, 7, ([4, 6, 8, 3, 1, 0, 12]).map I⟩], [⟨.slice (A2) ((L).length) (c2), 9, 1, ((L).length), (L).map S⟩]]) 1 0 hM18_5 rfl rfl rfl Try.underlying24 el9 ⟨rfl, by decide⟩ rfl rfl rfl (hM18_5.rd 0 rfl) (by first | (simp; done) | (simp; omega)) (all_map_one (fun _ => rfl) _) (by first | omega | (simp; omega)) (by first | omega | (simp; omega)) (by first | (simp; done) | (simp; omega)) (by simp) (fun _ _ => rfl) (fun w18_6 A18_6 c18_6 hc18_6 hM18_6 => ?_)
              try dsimp only at hM18_6
              refine O.val (v := .slice (A18_6) ((G ++ [(L)[i]'hx18_3]).length) (c18_6)) rfl (Ru.assign rfl) rfl ?_
              refine O.nil ?_
              refine C.region ?_
              refine O.val (v := I (((i : Nat) : Int))) rfl (Ru.move rfl) rfl ?_
              refine O.val (v := I ((((i + 1) : Nat) : Int))) rfl (Ru.congr (v := I ((((i : Nat) : Int) + 1))) (v' := I ((((i + 1) : Nat) : Int))) (Ru.add rfl rfl (by omega)) (I_congr (by first | omega | simp))) rfl ?_
              refine O.val (v := I ((((i + 1) : Nat) : Int))) rfl (Ru.assign rfl) rfl ?_
              refine O.nil ?_
              exact loopEnd (i + 1, G ++ [(L)[i]'hx18_3], A18_6, c18_6) (by (try dsimp only); omega) (Has.cons rfl (Has.cons rfl (Has.cons (I_congr (by first | rfl | omega | (simp; omega) | simp)) Has.nil))) ⟨(by (try dsimp only); simp; omega), (by (try dsimp only); intro s hs; rcases List.mem_append.1 hs with hs | hs; exact hi1_l15 _ hs; simp at hs; subst hs; exact hls _ (List.getElem_mem _)), (hM18_6.pick [1, 2, 3, 4] (by decide) rfl)⟩
            · refine C.skip ?_
              refine C.region ?_
              refine O.val (v := I (((i : Nat) : Int))) rfl (Ru.move rfl) rfl ?_
              refine O.val (v := I ((((i + 1) : Nat) : Int))) rfl (Ru.congr (v := I ((((i : Nat) : Int) + 1))) (v' := I ((((i + 1) : Nat) : Int))) (Ru.add rfl rfl (by omega)) (I_congr (by first | omega | simp))) rfl ?_
              refine O.val (v := I ((((i + 1) : Nat) : Int))) rfl (Ru.assign rfl) rfl ?_
              refine O.nil ?_
              exact loopEnd (i + 1, G, A3, c3) (by (try dsimp only); omega) (Has.cons rfl (Has.cons rfl (Has.cons (I_congr (by first | rfl | omega | (simp; omega) | simp)) Has.nil))) ⟨hi0_l15, hi1_l15, (hM17d.pick [0, 1, 2, 3] (by decide) rfl)⟩
          · refine QO.val (v := .slice (A3) ((G).length) (c3)) rfl (fun w2 hw2 => Ru.move rfl) rfl ?_
            refine QO.val (v := .slice (A3) ((G).length) (c3)) rfl (fun w2 hw2 => Ru.move rfl) rfl ?_
            refine QO.val (v := I ((((G).length : Nat) : Int))) rfl (fun w2 hw2 => Ru.blenSlice Try.underlying24 rfl) rfl ?_
            refine QO.val (v := I (((((G).length : Nat) : Int) - 1))) rfl (fun w2 hw2 => Ru.sub rfl rfl (by omega)) rfl ?_
            have hx17_14 : ((G).length - 1) < (G).length := (by first | omega | (simp; omega))
            refine QO.val (v := .pointer (ofs (A3) (((G).length - 1) * 1))) rfl (fun w2 hw2 => Ru.indexA (j := ((G).length - 1)) Try.underlying24 el9 rfl rfl (smm (hw2.rd 0 rfl) hx17_14) (by omega) (by first | omega | (simp; omega))) rfl ?_
            refine QO.val rfl (fun w2 hw2 => Ru.load1 el9 rfl (ldm (hw2.rd 0 rfl) hx17_14)) rfl ?_
            refine QO.val (v := .slice (A2) ((L).length) (c2)) rfl (fun w2 hw2 => Ru.move rfl) rfl ?_
            refine QO.val (v := I (((i : Nat) : Int))) rfl (fun w2 hw2 => Ru.move rfl) rfl ?_
            have hx17_18 : i < (L).length := (by first | omega | (simp; omega))
            refine QO.val (v := .pointer (ofs (A2) (i * 1))) rfl (fun w2 hw2 => Ru.indexA (j := i) Try.underlying24 el9 rfl rfl (smm (hw2.rd 3 rfl) hx17_18) (by omega) (by first | omega | (simp; omega))) rfl ?_
            refine QO.val rfl (fun w2 hw2 => Ru.load1 el9 rfl (ldm (hw2.rd 3 rfl) hx17_18)) rfl ?_
            refine QO.val (v := .bool (decide ((G)[((G).length - 1)]'hx17_14 ≠ (L)[i]'hx17_18))) rfl (fun w2 hw2 => Ru.sneq rfl rfl) rfl ?_
            refine QO.val (v := .bool (decide ((G)[((G).length - 1)]'hx17_14 ≠ (L)[i]'hx17_18))) rfl (fun w2 hw2 => Ru.pickF rfl rfl) rfl ?_
            refine QO.val (v := .bool (decide ((G)[((G).length - 1)]'hx17_14 ≠ (L)[i]'hx17_18))) rfl (fun w2 hw2 => Ru.pickT rfl rfl) rfl ?_
            refine QO.val (v := .bool (decide ((G)[((G).length - 1)]'hx17_14 ≠ (L)[i]'hx17_18))) rfl (fun w2 hw2 => Ru.move rfl) rfl ?_
            refine QO.partp 97 ((G)[((G).length - 1)]'hx17_14 ≠ (L)[i]'hx17_18) rfl (fun g97 => ?_) (fun g97 => ?_)
            · refine QO.val (v := .slice (A3) ((G).length) (c3)) rfl (fun w2 hw2 => Ru.move rfl) rfl ?_
              refine QO.val (v := I ((((G).length : Nat) : Int))) rfl (fun w2 hw2 => Ru.blenSlice Try.underlying24 rfl) rfl ?_
              refine QO.val (v := .bool (decide ((((G).length : Nat) : Int) < 8))) rfl (fun w2 hw2 => Ru.lss rfl rfl) rfl ?_
              refine QO.val (v := .bool (decide ((((G).length : Nat) : Int) < 8))) rfl (fun w2 hw2 => Ru.pickT rfl rfl) rfl ?_
              refine QO.nil ?_
              intro w17d hM17d
              refine C.cond (p := (((G).length : Nat) : Int) < 8) rfl (fun c101 => ?_) (fun c101 => ?_)
              · refine C.region ?_
                refine O.val (v := .slice (A3) ((G).length) (c3)) rfl (Ru.move rfl) rfl ?_
                refine O.val (v := .slice (A2) ((L).length) (c2)) rfl (Ru.move rfl) rfl ?_
                refine O.val (v := I (((i : Nat) : Int))) rfl (Ru.move rfl) rfl ?_
                have hx18_3 : i < (L).length := (by first | omega | (simp; omega))
                refine O.val (v := .pointer (ofs (A2) (i * 1))) rfl (Ru.indexA (j := i) Try.underlying24 el9 rfl rfl (smm (hM17d.rd 3 rfl) hx18_3) (by omega) (by first | omega | (simp; omega))) rfl ?_
                refine O.val rfl (Ru.load1 el9 rfl (ldm (hM17d.rd 3 rfl) hx18_3)) rfl ?_
                refine O.mlit (sz := 1) (cs := [S ((L)[i]'hx18_3)]) hM17d rfl Try.underlying24 el9 rfl rfl rfl (by kernel_rfl) (by kernel_rfl) rfl rfl (fun w18_5 b18_5 hb18_5 (hM18_5 : Mem w w18_5 [some gr] [[⟨.slice (bl b18_5) (1) (1), 9, 1, 1, ([(L)[i]'hx18_3]).map S⟩], [⟨.slice (A3) ((G).length) (c3), 9, 1, ((G).length), (G).map S⟩], [⟨.slice (bl gr) 1 1, 66, 2, 1, [.slice (rA) ((rl).length) (rc), I (((q + 1 : Nat) : Int))]⟩], [⟨.slice (bl b2_1) (7) (7), 3, 1, 7, ([4, 6, 8, 3, 1, 0, 12]).map I⟩], [⟨.slice (A2) ((L).length) (c2), 9, 1, ((L).length), (L).map S⟩]]) => ?_)
                refine O.mappend (sz := 1) (news := ([(L)[i]'hx18_3]).map S) (m1 := (G ++ [(L)[i]'hx18_3]).length) (xs1 := (G ++ [(L)[i]'hx18_3]).map S) (M' := fun A18_6 c18_6 => [[⟨.slice (bl b18_5) (1) (1), 9, 1, 1, ([(L)[i]'hx18_3]).map S⟩], [⟨.slice (A18_6) ((G ++ [(L)[i]'hx18_3]).length) (c18_6), 9, 1, ((G ++ [(L)[i]'hx18_3]).length), (G ++ [(L)[i]'hx18_3]).map S⟩], [⟨.slice (bl gr) 1 1, 66, 2, 1, [.slice (rA) ((rl).length) (rc), I (((q + 1 : Nat) : Int))]⟩], [⟨.slice (bl b2_1) (7) (7), 3, 1, 7, ([4, 6, 8, 3, 1, 0, 12]).map I⟩], [⟨.slice (A2) ((L).length) (c2), 9, 1, ((L).length), (L).map S⟩]]) 1 0 hM18_5 rfl rfl rfl Try.underlying24 el9 ⟨rfl, by decide⟩ rfl rfl rfl (hM18_5.rd 0 rfl) (by first | (simp; done) | (simp; omega)) (all_map_one (fun _ => rfl) _) (by first | omega | (simp; omega)) (by first | omega | (simp; omega)) (by first | (simp; done) | (simp; omega)) (by simp) (fun _ _ => rfl) (fun w18_6 A18_6 c18_6 hc18_6 hM18_6 => ?_)
                try dsimp only at hM18_6
                refine O.val (v := .slice (A18_6) ((G ++ [(L)[i]'hx18_3]).length) (c18_6)) rfl (Ru.assign rfl) rfl ?_
                refine O.nil ?_
                refine C.region ?_
                refine O.val (v := I (((i : Nat) : Int))) rfl (Ru.move rfl) rfl ?_
                refine O.val (v := I ((((i + 1) : Nat) : Int))) rfl (Ru.congr (v := I ((((i : Nat) : Int) + 1))) (v' := I ((((i + 1) : Nat) : Int))) (Ru.add rfl rfl (by omega)) (I_congr (by first | omega | simp))) rfl ?_
                refine O.val (v := I ((((i + 1) : Nat) : Int))) rfl (Ru.assign rfl) rfl ?_
                refine O.nil ?_
                exact loopEnd (i + 1, G ++ [(L)[i]'hx18_3], A18_6, c18_6) (by (try dsimp only); omega) (Has.cons rfl (Has.cons rfl (Has.cons (I_congr (by first | rfl | omega | (simp; omega) | simp)) Has.nil))) ⟨(by (try dsimp only); simp; omega), (by (try dsimp only); intro s hs; rcases List.mem_append.1 hs with hs | hs; exact hi1_l15 _ hs; simp at hs; subst hs; exact hls _ (List.getElem_mem _)), (hM18_6.pick [1, 2, 3, 4] (by decide) rfl)⟩
              · refine C.skip ?_
                refine C.region ?_
                refine O.val (v := I (((i : Nat) : Int))) rfl (Ru.move rfl) rfl ?_
                refine O.val (v := I ((((i + 1) : Nat) : Int))) rfl (Ru.congr (v := I ((((i : Nat) : Int) + 1))) (v' := I ((((i + 1) : Nat) : Int))) (Ru.add rfl rfl (by omega)) (I_congr (by first | omega | simp))) rfl ?_
                refine O.val (v := I ((((i + 1) : Nat) : Int))) rfl (Ru.assign rfl) rfl ?_
                refine O.nil ?_
                exact loopEnd (i + 1, G, A3, c3) (by (try dsimp only); omega) (Has.cons rfl (Has.cons rfl (Has.cons (I_congr (by first | rfl | omega | (simp; omega) | simp)) Has.nil))) ⟨hi0_l15, hi1_l15, (hM17d.pick [0, 1, 2, 3] (by decide) rfl)⟩
            · refine QO.pass rfl rfl rfl rfl rfl ?_
              refine QO.pass rfl rfl rfl rfl rfl ?_
              refine QO.pass rfl rfl rfl rfl rfl ?_
              refine QO.val (v := .bool (false)) rfl (fun w2 hw2 => Ru.pickF rfl rfl) rfl ?_
              refine QO.nil ?_
              intro w17d hM17d
              refine C.condF rfl ?_
              refine C.skip ?_
              refine C.region ?_
              refine O.val (v := I (((i : Nat) : Int))) rfl (Ru.move rfl) rfl ?_
              refine O.val (v := I ((((i + 1) : Nat) : Int))) rfl (Ru.congr (v := I ((((i : Nat) : Int) + 1))) (v' := I ((((i + 1) : Nat) : Int))) (Ru.add rfl rfl (by omega)) (I_congr (by first | omega | simp))) rfl ?_
              refine O.val (v := I ((((i + 1) : Nat) : Int))) rfl (Ru.assign rfl) rfl ?_
              refine O.nil ?_
              exact loopEnd (i + 1, G, A3, c3) (by (try dsimp only); omega) (Has.cons rfl (Has.cons rfl (Has.cons (I_congr (by first | rfl | omega | (simp; omega) | simp)) Has.nil))) ⟨hi0_l15, hi1_l15, (hM17d.pick [0, 1, 2, 3] (by decide) rfl)⟩
        · refine QO.pass rfl rfl rfl rfl rfl ?_
          refine QO.pass rfl rfl rfl rfl rfl ?_
          refine QO.pass rfl rfl rfl rfl rfl ?_
          refine QO.pass rfl rfl rfl rfl rfl ?_
          refine QO.passU rfl rfl rfl rfl ?_
          refine QO.passU rfl rfl rfl rfl ?_
          refine QO.passU rfl rfl rfl rfl ?_
          refine QO.passU rfl rfl rfl rfl ?_
          refine QO.passU rfl rfl rfl rfl ?_
          refine QO.passU rfl rfl rfl rfl ?_
          refine QO.passU rfl rfl rfl rfl ?_
          refine QO.passU rfl rfl rfl rfl ?_
          refine QO.passU rfl rfl rfl rfl ?_
          refine QO.passU rfl rfl rfl rfl ?_
          refine QO.passU rfl rfl rfl rfl ?_
          refine QO.pass rfl rfl rfl rfl rfl ?_
          refine QO.val (v := .bool (false)) rfl (fun w2 hw2 => Ru.pickF rfl rfl) rfl ?_
          refine QO.val (v := .bool (false)) rfl (fun w2 hw2 => Ru.move rfl) rfl ?_
          refine QO.pass rfl rfl rfl rfl rfl ?_
          refine QO.pass rfl rfl rfl rfl rfl ?_
          refine QO.pass rfl rfl rfl rfl rfl ?_
          refine QO.val (v := .bool (false)) rfl (fun w2 hw2 => Ru.pickF rfl rfl) rfl ?_
          refine QO.nil ?_
          intro w17d hM17d
          refine C.condF rfl ?_
          refine C.skip ?_
          refine C.region ?_
          refine O.val (v := I (((i : Nat) : Int))) rfl (Ru.move rfl) rfl ?_
          refine O.val (v := I ((((i + 1) : Nat) : Int))) rfl (Ru.congr (v := I ((((i : Nat) : Int) + 1))) (v' := I ((((i + 1) : Nat) : Int))) (Ru.add rfl rfl (by omega)) (I_congr (by first | omega | simp))) rfl ?_
          refine O.val (v := I ((((i + 1) : Nat) : Int))) rfl (Ru.assign rfl) rfl ?_
          refine O.nil ?_
          exact loopEnd (i + 1, G, A3, c3) (by (try dsimp only); omega) (Has.cons rfl (Has.cons rfl (Has.cons (I_congr (by first | rfl | omega | (simp; omega) | simp)) Has.nil))) ⟨hi0_l15, hi1_l15, (hM17d.pick [0, 1, 2, 3] (by decide) rfl)⟩
      · refine C.exit ?_
        refine C.seq ?_
        refine C.region ?_
        refine O.val (v := .slice (A3) ((G).length) (c3)) rfl (Ru.move rfl) rfl ?_
        refine O.val (v := .slice (A3) ((G).length) (c3)) rfl (Ru.assign rfl) rfl ?_
        refine O.nil ?_
        refine C.ret ?_
        refine P1 (v := .slice (A3) ((G).length) (c3)) rfl ?_
        exact ⟨G, A3, c3, _, (by first | rfl | exact sl_congr (by simp) | (simp; done)), (by omega), hi1_l15, (by omega), (hM_l15.pick [1, 0] (by decide) rfl)⟩
    · refine C.skip ?_
      refine C.seq ?_
      refine C.region ?_
      refine O.val (v := .slice (A2) ((L).length) (c2)) rfl (Ru.move rfl) rfl ?_
      refine O.val (v := .slice (A2) ((L).length) (c2)) rfl (Ru.assign rfl) rfl ?_
      refine O.nil ?_
      refine C.ret ?_
      refine P1 (v := .slice (A2) ((L).length) (c2)) rfl ?_
      exact ⟨L, A2, c2, _, (by first | rfl | exact sl_congr (by simp) | (simp; done)), (by omega), hi1_l3, (by omega), (hM12_1.pick [0, 2] (by decide) rfl)⟩
end Go.Proofs.Ytekfncmhinbghaa.V
