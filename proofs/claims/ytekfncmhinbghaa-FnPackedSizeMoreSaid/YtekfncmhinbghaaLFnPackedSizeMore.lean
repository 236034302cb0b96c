/- The statement Rows.FnPackedSizeMoreSaid: the Go function laws.FnPackedSizeMore returns true for every input, and each argument reads afterwards as it read before. No conditions. -/
import Derived.Test.YtekfncmhinbghaaRows
import Derived.Test.YtekfncmhinbghaaPxO
import Derived.Test.YtekfncmhinbghaaWI
import Derived.Test.YtekfncmhinbghaaH0
import Derived.WalkKit
import Derived.ProofKit
import Derived.OpenShut
import Derived.ShutString
import Derived.ChangeOld
import Derived.SliceStrings
import Derived.Deep.Slices
import Derived.Deep.Fields
import Derived.ChangeSame
import Derived.Below
set_option linter.unusedVariables false
set_option linter.unusedSimpArgs false
namespace Go.Proofs.Ytekfncmhinbghaa.V
open Go.Px
set_option linter.unusedVariables false
theorem FnPackedSizeMore_fn (A : Option Addr) (c : Nat) (l : List UInt8) (w : World) (hA : Rd w A ((l).map byteV)) (hl : l.length ≤ 9223372036854775807) (hc : l.length ≤ c) :
    Does Try.prog 13 [.slice (A) ((l).length) (c)] w (fun v w1 => v = .bool (true) ∧ Mem w w1 [] []) := by
  have hM : Mem w w [] [] := Mem.refl
  refine Does.enter1 Try.func13 rfl Try.results13 Try.ntmps13 rfl ?_
  refine C.seq ?_
  refine C.region ?_
  refine O.val (v := .bool (false)) rfl (Ru.assign rfl) rfl ?_
  refine O.nil ?_
  refine C.seq ?_
  refine C.seq ?_
  refine C.region ?_
  refine O.val (v := .slice (A) ((l).length) (c)) rfl (Ru.move rfl) rfl ?_
  refine O.val (v := I ((((l).length : Nat) : Int))) rfl (Ru.blenSlice Try.underlying29 rfl) rfl ?_
  refine O.val (v := .bool (decide ((((l).length : Nat) : Int) > 1048576))) rfl (Ru.gtr rfl rfl) rfl ?_
  refine O.nil ?_
  refine C.cond (p := (((l).length : Nat) : Int) > 1048576) rfl (fun c9 => ?_) (fun c9 => ?_)
  · refine C.seq ?_
    refine C.region ?_
    refine O.val (v := .bool (true)) rfl (Ru.assign rfl) rfl ?_
    refine O.nil ?_
    refine C.ret ?_
    refine P1 (v := .bool (true)) rfl ?_
    exact ⟨rfl, (Mem.none hM)⟩
  · refine C.skip ?_
    refine C.seq ?_
    refine C.region ?_
    refine O.val (v := .slice (A) ((l).length) (c)) rfl (Ru.move rfl) rfl ?_
    refine O.callg [.slice (A) ((l).length) (c)] rfl en35 rfl rfl (vDrawPackedSize_fn A c l w (hA.at hM) (by first | omega | assumption | (simp; omega) | simp | (intros; omega)) (by first | omega | assumption | (simp; omega) | simp | (intros; omega))) ?_
    rintro _ w3_1 ⟨l13_1, A13_1, c13_1, rfl, hl3_1, hs3_1, hR3_1⟩
    have hM3_1 : Mem w w3_1 [] [[⟨.slice (A13_1) ((l13_1).length) (c13_1), 9, 1, ((l13_1).length), (l13_1).map S⟩]] := Mem.call (Ma := []) hM hR3_1 rfl
    refine O.val (v := .slice (A13_1) ((l13_1).length) (c13_1)) rfl (Ru.assign rfl) rfl ?_
    refine O.nil ?_
    refine C.seq ?_
    refine C.region ?_
    refine O.val (v := .slice (A13_1) ((l13_1).length) (c13_1)) rfl (Ru.move rfl) rfl ?_
    refine O.callg [.slice (A13_1) ((l13_1).length) (c13_1)] rfl en30 rfl rfl (vPackedSize_fn A13_1 c13_1 l13_1 w3_1 (hM3_1.rd 0 rfl) (by omega) (by intro s hs; have := hs3_1 s hs; omega)) ?_
    rintro _ w4_1 ⟨rfl, hR4_1⟩
    have hM4_1 : Mem w w4_1 [] [[⟨.slice (A13_1) ((l13_1).length) (c13_1), 9, 1, ((l13_1).length), (l13_1).map S⟩]] := Mem.call (Ma := []) hM3_1 hR4_1 rfl
    refine O.val (v := I (pszF l13_1)) rfl (Ru.assign rfl) rfl ?_
    refine O.nil ?_
    refine C.seq ?_
    refine C.seq ?_
    refine C.region ?_
    refine O.val (v := I (pszF l13_1)) rfl (Ru.move rfl) rfl ?_
    refine O.val (v := .slice (A13_1) ((l13_1).length) (c13_1)) rfl (Ru.move rfl) rfl ?_
    refine O.callg [.slice (A13_1) ((l13_1).length) (c13_1)] rfl en29 rfl rfl (vSPackedSize_fn A13_1 c13_1 l13_1 w4_1 (hM4_1.rd 0 rfl) (by omega) (by intro s hs; have := hs3_1 s hs; omega)) ?_
    rintro _ w5_2 ⟨rfl, hR5_2⟩
    have hM5_2 : Mem w w5_2 [] [[⟨.slice (A13_1) ((l13_1).length) (c13_1), 9, 1, ((l13_1).length), (l13_1).map S⟩]] := Mem.call (Ma := []) hM4_1 hR5_2 rfl
    refine O.val (v := .bool (false)) rfl (Ru.congr (v := .bool (decide (pszF l13_1 ≠ pszF l13_1))) (v' := .bool (false)) (Ru.neq rfl rfl) (congrArg Value.bool (by simp))) rfl ?_
    refine O.val (v := .bool (false)) rfl (Ru.move rfl) rfl ?_
    refine O.val (v := I (pszF l13_1)) rfl (Ru.move rfl) rfl ?_
    refine O.val (v := .bool (decide (pszF l13_1 < 0))) rfl (Ru.lss rfl rfl) rfl ?_
    refine O.val (v := .bool (decide (pszF l13_1 < 0))) rfl (Ru.pickF rfl rfl) rfl ?_
    refine O.val (v := .bool (decide (pszF l13_1 < 0))) rfl (Ru.move rfl) rfl ?_
    refine O.partp 22 (pszF l13_1 < 0) rfl (fun g22 => ?_) (fun g22 => ?_)
    · refine O.pass rfl rfl rfl rfl rfl ?_
      refine O.pass rfl rfl rfl rfl rfl ?_
      refine O.pass rfl rfl rfl rfl rfl ?_
      refine O.val (v := .bool (true)) rfl (Ru.pickT rfl rfl) rfl ?_
      refine O.nil ?_
      refine C.condT rfl ?_
      refine C.seq ?_
      refine C.region ?_
      refine O.val (v := I (pszF l13_1)) rfl (Ru.move rfl) rfl ?_
      refine O.val (v := .slice (A13_1) ((l13_1).length) (c13_1)) rfl (Ru.move rfl) rfl ?_
      refine O.callg [.slice (A13_1) ((l13_1).length) (c13_1)] rfl en29 rfl rfl (vSPackedSize_fn A13_1 c13_1 l13_1 w5_2 (hM5_2.rd 0 rfl) (by omega) (by intro s hs; have := hs3_1 s hs; omega)) ?_
      rintro _ w6_2 ⟨rfl, hR6_2⟩
      have hM6_2 : Mem w w6_2 [] [[⟨.slice (A13_1) ((l13_1).length) (c13_1), 9, 1, ((l13_1).length), (l13_1).map S⟩]] := Mem.call (Ma := []) hM5_2 hR6_2 rfl
      refine O.val (v := .bool (true)) rfl (Ru.congr (v := .bool (decide (pszF l13_1 = pszF l13_1))) (v' := .bool (true)) (Ru.eql rfl rfl) (congrArg Value.bool (by simp))) rfl ?_
      refine O.val (v := .bool (true)) rfl (Ru.assign rfl) rfl ?_
      refine O.nil ?_
      refine C.ret ?_
      refine P1 (v := .bool (true)) rfl ?_
      exact ⟨rfl, (Mem.none hM6_2)⟩
    · refine O.val (v := .slice (A13_1) ((l13_1).length) (c13_1)) rfl (Ru.move rfl) rfl ?_
      refine O.val (v := I ((((l13_1).length : Nat) : Int))) rfl (Ru.blenSlice Try.underlying24 rfl) rfl ?_
      refine O.val (v := .bool (decide ((((l13_1).length : Nat) : Int) = 0))) rfl (Ru.eql rfl rfl) rfl ?_
      refine O.val (v := .bool (decide ((((l13_1).length : Nat) : Int) = 0))) rfl (Ru.pickF rfl rfl) rfl ?_
      refine O.nil ?_
      refine C.cond (p := (((l13_1).length : Nat) : Int) = 0) rfl (fun c26 => ?_) (fun c26 => ?_)
      · refine C.seq ?_
        refine C.region ?_
        refine O.val (v := I (pszF l13_1)) rfl (Ru.move rfl) rfl ?_
        refine O.val (v := .slice (A13_1) ((l13_1).length) (c13_1)) rfl (Ru.move rfl) rfl ?_
        refine O.callg [.slice (A13_1) ((l13_1).length) (c13_1)] rfl en29 rfl rfl (vSPackedSize_fn A13_1 c13_1 l13_1 w5_2 (hM5_2.rd 0 rfl) (by omega) (by intro s hs; have := hs3_1 s hs; omega)) ?_
        rintro _ w6_2 ⟨rfl, hR6_2⟩
        have hM6_2 : Mem w w6_2 [] [[⟨.slice (A13_1) ((l13_1).length) (c13_1), 9, 1, ((l13_1).length), (l13_1).map S⟩]] := Mem.call (Ma := []) hM5_2 hR6_2 rfl
        refine O.val (v := .bool (true)) rfl (Ru.congr (v := .bool (decide (pszF l13_1 = pszF l13_1))) (v' := .bool (true)) (Ru.eql rfl rfl) (congrArg Value.bool (by simp))) rfl ?_
        refine O.val (v := .bool (true)) rfl (Ru.assign rfl) rfl ?_
        refine O.nil ?_
        refine C.ret ?_
        refine P1 (v := .bool (true)) rfl ?_
        exact ⟨rfl, (Mem.none hM6_2)⟩
      · have hv : validW l13_1 = true := by cases hh : validW l13_1 with | true => rfl | false => rw [pszF_no hh] at *; omega
        have hp := pszF_yes hv
        have hb := sum_bounds hv
        have hp2 := pszF_yes (valid_take (k := l13_1.length - 1) hv)
        have hmo := psz_more hv (by omega)
        have h8 := valid_len hv
        have h64 := sumL_le (l := l13_1) (n := 8) hs3_1
        have hlen := packF_length hv
        have hb2 := sum_bounds (valid_take (k := l13_1.length - 1) hv)
        refine C.skip ?_
        refine C.seq ?_
        refine C.region ?_
        refine O.val (v := .slice (A13_1) ((l13_1).length) (c13_1)) rfl (Ru.move rfl) rfl ?_
        refine O.val (v := .slice (A13_1) ((l13_1).length) (c13_1)) rfl (Ru.move rfl) rfl ?_
        refine O.val (v := I ((((l13_1).length : Nat) : Int))) rfl (Ru.blenSlice Try.underlying24 rfl) rfl ?_
        refine O.val (v := I (((((l13_1).length : Nat) : Int) - 1))) rfl (Ru.sub rfl rfl (by omega)) rfl ?_
        have hcp7_4 := hM5_2.cap 0 rfl
        refine O.val (v := .slice (A13_1) (((l13_1).take (((l13_1).length - 1))).length) (c13_1)) rfl (Ru.congr (v := .slice (A13_1) (((l13_1).length - 1)) (c13_1)) (v' := .slice (A13_1) (((l13_1).take (((l13_1).length - 1))).length) (c13_1)) (Ru.lsliceTo (h := ((l13_1).length - 1)) Try.underlying24 el9 rfl rfl (by omega) (by omega)) (sl_congr (by first | rfl | (simp; done) | omega | (simp; omega)))) rfl ?_
        refine O.callg [.slice (A13_1) (((l13_1).take (((l13_1).length - 1))).length) (c13_1)] rfl en30 rfl rfl (vPackedSize_fn A13_1 c13_1 ((l13_1).take (((l13_1).length - 1))) w5_2 (rd_take1 (hM5_2.rd 0 rfl)) (by simp; omega) (by intro s hs; have := hs3_1 s (List.mem_of_mem_take hs); omega)) ?_
        rintro _ w7_5 ⟨rfl, hR7_5⟩
        have hM7_5 : Mem w w7_5 [] [[⟨.slice (A13_1) ((l13_1).length) (c13_1), 9, 1, ((l13_1).length), (l13_1).map S⟩]] := Mem.call (Ma := []) hM5_2 hR7_5 rfl
        refine O.val (v := I (pszF ((l13_1).take (((l13_1).length - 1))))) rfl (Ru.assign rfl) rfl ?_
        refine O.nil ?_
        refine C.seq ?_
        refine C.region ?_
        refine O.val (v := .slice (A13_1) ((l13_1).length) (c13_1)) rfl (Ru.move rfl) rfl ?_
        refine O.callg [.slice (A13_1) ((l13_1).length) (c13_1)] rfl en32 rfl rfl (vPackWords_fn A13_1 c13_1 l13_1 w7_5 (hM7_5.rd 0 rfl) (by omega) (by intro s hs; have := hs3_1 s hs; omega)) ?_
        rintro _ w8_1 ⟨A18_1, c18_1, rfl, hR8_1⟩
        have hM8_1 : Mem w w8_1 [] [[⟨.slice (A18_1) ((packF l13_1).length) (c18_1), 39, 2, ((packF l13_1).length), (packF l13_1).flatMap encR⟩], [⟨.slice (A13_1) ((l13_1).length) (c13_1), 9, 1, ((l13_1).length), (l13_1).map S⟩]] := Mem.call (Ma := []) hM7_5 hR8_1 rfl
        refine O.val (v := .slice (A18_1) ((packF l13_1).length) (c18_1)) rfl (Ru.assign rfl) rfl ?_
        refine O.nil ?_
        refine C.seq ?_
        refine C.region ?_
        refine O.val (v := .slice (A18_1) ((packF l13_1).length) (c18_1)) rfl (Ru.move rfl) rfl ?_
        refine O.val (v := I ((((packF l13_1).length : Nat) : Int))) rfl (Ru.blenSlice Try.underlying35 rfl) rfl ?_
        refine O.val (v := .slice (A13_1) ((l13_1).length) (c13_1)) rfl (Ru.move rfl) rfl ?_
        refine O.val (v := I ((((l13_1).length : Nat) : Int))) rfl (Ru.blenSlice Try.underlying24 rfl) rfl ?_
        refine O.val (v := .bool (decide ((((packF l13_1).length : Nat) : Int) = (((l13_1).length : Nat) : Int)))) rfl (Ru.eql rfl rfl) rfl ?_
        refine O.val (v := .bool (decide ((((packF l13_1).length : Nat) : Int) = (((l13_1).length : Nat) : Int)))) rfl (Ru.move rfl) rfl ?_
        refine O.partp 44 ((((packF l13_1).length : Nat) : Int) = (((l13_1).length : Nat) : Int)) rfl (fun g44 => ?_) (fun g44 => ?_)
        · refine O.val (v := I (pszF l13_1)) rfl (Ru.move rfl) rfl ?_
          refine O.val (v := I (pszF ((l13_1).take (((l13_1).length - 1))))) rfl (Ru.move rfl) rfl ?_
          refine O.val (v := I ((pszF ((l13_1).take (((l13_1).length - 1))) + 1))) rfl (Ru.add rfl rfl (by omega)) rfl ?_
          refine O.val (v := .slice (A18_1) ((packF l13_1).length) (c18_1)) rfl (Ru.move rfl) rfl ?_
          refine O.val (v := .slice (A18_1) ((packF l13_1).length) (c18_1)) rfl (Ru.move rfl) rfl ?_
          refine O.val (v := I ((((packF l13_1).length : Nat) : Int))) rfl (Ru.blenSlice Try.underlying35 rfl) rfl ?_
          refine O.val (v := I (((((packF l13_1).length : Nat) : Int) - 1))) rfl (Ru.sub rfl rfl (by omega)) rfl ?_
          have hx9_13 : ((packF l13_1).length - 1) < (packF l13_1).length := (by first | omega | (simp; omega))
          refine O.val (v := .pointer (ofs (A18_1) (((packF l13_1).length - 1) * 2))) rfl (Ru.indexA (j := ((packF l13_1).length - 1)) Try.underlying35 el39 rfl rfl (smf encR_len (hM8_1.rd 0 rfl) hx9_13 rfl) (by omega) (by first | omega | (simp; omega))) rfl ?_
          refine O.val (v := .pointer (ofs (A18_1) (((packF l13_1).length - 1) * 2 + 1))) rfl (Ru.fieldA fl39_1 rfl (smf encR_len (hM8_1.rd 0 rfl) hx9_13 rfl)) rfl ?_
          refine O.val rfl (Ru.load1 el9 rfl (ldf encR_len (hM8_1.rd 0 rfl) hx9_13 rfl)) rfl ?_
          have hpk : ((packF l13_1)[(packF l13_1).length - 1]).tail.length = ((packW l13_1)[l13_1.length - 1]'(by rw [packW_length]; omega)).tail.length := by simp only [packF_yes hv, packW_length]
          refine O.val (v := I (((((packF l13_1)[((packF l13_1).length - 1)]'hx9_13).tail).length : Int))) rfl (Ru.slen Try.underlying9 rfl) rfl ?_
          refine O.val (v := I (((pszF ((l13_1).take (((l13_1).length - 1))) + 1) + ((((packF l13_1)[((packF l13_1).length - 1)]'hx9_13).tail).length : Int)))) rfl (Ru.add rfl rfl (by omega)) rfl ?_
          refine O.val (v := .bool (decide (pszF l13_1 = ((pszF ((l13_1).take (((l13_1).length - 1))) + 1) + ((((packF l13_1)[((packF l13_1).length - 1)]'hx9_13).tail).length : Int))))) rfl (Ru.eql rfl rfl) rfl ?_
          refine O.val (v := .bool (decide (pszF l13_1 = ((pszF ((l13_1).take (((l13_1).length - 1))) + 1) + ((((packF l13_1)[((packF l13_1).length - 1)]'hx9_13).tail).length : Int))))) rfl (Ru.pickT rfl rfl) rfl ?_
          refine O.val (v := .bool (decide (pszF l13_1 = ((pszF ((l13_1).take (((l13_1).length - 1))) + 1) + ((((packF l13_1)[((packF l13_1).length - 1)]'hx9_13).tail).length : Int))))) rfl (Ru.move rfl) rfl ?_
          refine O.partp 59 (pszF l13_1 = ((pszF ((l13_1).take (((l13_1).length - 1))) + 1) + ((((packF l13_1)[((packF l13_1).length - 1)]'hx9_13).tail).length : Int))) rfl (fun g59 => ?_) (fun g59 => ?_)
          · refine O.callg [.slice (none) (0) (0)] rfl en30 rfl rfl (vPackedSize_fn none 0 [] w8_1 Rd.nil (by simp) (by simp)) ?_
            rintro _ w9_21 ⟨rfl, hR9_21⟩
            have hM9_21 : Mem w w9_21 [] [[⟨.slice (A18_1) ((packF l13_1).length) (c18_1), 39, 2, ((packF l13_1).length), (packF l13_1).flatMap encR⟩], [⟨.slice (A13_1) ((l13_1).length) (c13_1), 9, 1, ((l13_1).length), (l13_1).map S⟩]] := Mem.call (Ma := []) hM8_1 hR9_21 rfl
            refine O.val (v := .bool (decide (pszF [] = 0))) rfl (Ru.eql rfl rfl) rfl ?_
            refine O.val (v := .bool (decide (pszF [] = 0))) rfl (Ru.pickT rfl rfl) rfl ?_
            refine O.val (v := .bool (decide (pszF [] = 0))) rfl (Ru.assign rfl) rfl ?_
            refine O.nil ?_
            refine C.ret ?_
            refine P1 (v := .bool (decide (pszF [] = 0))) rfl ?_
            exact ⟨(by first | (rw [psz_nil]; rfl) | exact absurd (by omega) g44 | exact absurd (by rw [hp, hp2]; simp at *; omega) g59), (Mem.none hM9_21)⟩
          · refine O.pass rfl rfl rfl rfl rfl ?_
            refine O.pass rfl rfl rfl rfl rfl ?_
            refine O.val (v := .bool (false)) rfl (Ru.pickF rfl rfl) rfl ?_
            refine O.val (v := .bool (false)) rfl (Ru.assign rfl) rfl ?_
            refine O.nil ?_
            refine C.ret ?_
            refine P1 (v := .bool (false)) rfl ?_
            exact ⟨(by first | (rw [psz_nil]; rfl) | exact absurd (by omega) g44 | exact absurd (by rw [hp, hp2]; simp at *; omega) g59), (Mem.none hM8_1)⟩
        · refine O.pass rfl rfl rfl rfl rfl ?_
          refine O.pass rfl rfl rfl rfl rfl ?_
          refine O.pass rfl rfl rfl rfl rfl ?_
          refine O.pass rfl rfl rfl rfl rfl ?_
          refine O.pass rfl rfl rfl rfl rfl ?_
          refine O.pass rfl rfl rfl rfl rfl ?_
          refine O.pass rfl rfl rfl rfl rfl ?_
          refine O.pass rfl rfl rfl rfl rfl ?_
          refine O.pass rfl rfl rfl rfl rfl ?_
          refine O.pass rfl rfl rfl rfl rfl ?_
          refine O.pass rfl rfl rfl rfl rfl ?_
          refine O.pass rfl rfl rfl rfl rfl ?_
          refine O.pass rfl rfl rfl rfl rfl ?_
          refine O.val (v := .bool (false)) rfl (Ru.pickF rfl rfl) rfl ?_
          refine O.val (v := .bool (false)) rfl (Ru.move rfl) rfl ?_
          refine O.pass rfl rfl rfl rfl rfl ?_
          refine O.pass rfl rfl rfl rfl rfl ?_
          refine O.val (v := .bool (false)) rfl (Ru.pickF rfl rfl) rfl ?_
          refine O.val (v := .bool (false)) rfl (Ru.assign rfl) rfl ?_
          refine O.nil ?_
          refine C.ret ?_
          refine P1 (v := .bool (false)) rfl ?_
          exact ⟨(by first | (rw [psz_nil]; rfl) | exact absurd (by omega) g44 | exact absurd (by rw [hp, hp2]; simp at *; omega) g59), (Mem.none hM8_1)⟩
end Go.Proofs.Ytekfncmhinbghaa.V
namespace Go.Proofs.Ytekfncmhinbghaa.fnPackedSizeMore
open Go.ChangeShapes Go.WideShapes Go.ChangeAt Go.RowKit Go.Px
open Go.ChangeMaps (open_string shut_string)
set_option linter.unusedVariables false

theorem own : ownKnob Try.prog.godebug = none := by kernel_rfl
theorem laidOut : laidOutB Try.prog = true := by kernel_rfl

set_option maxRecDepth 100000 in
theorem lifted (os : Os) (started : os.Started) (H : Type) (enc : TypeId × Value → H) :
    ReturnsInHanded {} Try.checked os 13 .any (Rows.fnPackedSizeMoreSpec.pre6 enc Try.prog Try.f13 Rows.fnPackedSizeMoreRow.domain false) (Rows.fnPackedSizeMoreSpec.post enc Try.prog Try.f13 false true false false) := by
  refine returnsInHanded_of_change (C := Try.checked) own started (by kernel_rfl) Try.func13
    (ChangeSpec.witness6 (enc := enc) (C := Try.checked) false ⟨#[], #[.slice none 0 0], []⟩ 8 (by kernel_rfl) (by kernel_rfl) (by kernel_rfl) (by kernel_rfl)) ?_
  intro W base args ds gs before hval0 hW hcnd _
  have hval : ∀ (j : Nat) t v, Try.f13.params[j]? = some t → args[j]? = some v → Value.okWide Try.prog W .any base t v := hval0
  have hW' := hW
  obtain ⟨p, q, hA0, hV, rfl, hfz, hnd⟩ := hW
  have hA : DataW.TrodAll enc Try.prog W 0 (fun _ => true) true Try.f13.params.toList args.toList ds p := hA0
  rw [Try.params13] at hA hval
  obtain ⟨v0, vs0, d0, ds0, p0, q0, hargs, rfl, rfl, h0, r0⟩ := trodAll_cons hA
  obtain ⟨rfl, rfl, rfl⟩ := trodAll_nil r0
  obtain rfl : args = #[v0] := by cases args; simp_all
  obtain ⟨rfl, rfl⟩ := trodVars_none hV
  have k0 := h0
  have lt0 : ∀ x ∈ p0, x.block < W.heap.size := by obtain ⟨m, hm⟩ := k0; exact DataW.trod_lt m _ _ _ hm
  obtain ⟨a0, len0, cap0, rfl⟩ := okWide_slice Try.underlying29 (hval 0 29 v0 rfl rfl)
  have kk0 := k0
  obtain ⟨fuel0, hf0⟩ := kk0
  obtain ⟨z0, rfl, hz0, hc0, hw0, hRd0⟩ := slice_in (α := UInt8) (f := fun a : UInt8 => [byteV a]) (c := 1) Try.underlying29 (by kernel_rfl) (fun _ => rfl) (byte_el Try.underlying5) hf0
  rw [flat_one] at hRd0
  clear hA0 hval0
  refine (V.FnPackedSizeMore_fn a0 cap0 z0 W hRd0 hz0 hc0).out.mono fun e W' ⟨v, he, hv, hg⟩ => ?_
  subst he hv
  have bel : Below W.heap.size W W' := ⟨hg.os, hg.tape, hg.output, hg.size, fun k hk => hg.block k hk (by simp)⟩
  exact ⟨_, rfl, _, _, _, [], _, [], hW', trodAll_mk1 (shut_bool Try.underlying4 _), (trodAll_cons_mk (Below.trod laidOut (by kernel_rfl) (of_decide_eq_true (by kernel_rfl)) k0 bel lt0) trodAll_mk0), rfl, bel.frame _, fun h => by cases h⟩

theorem named_ : Try.prog.funcNamed Rows.fnPackedSizeMoreRow.func = some 13 := by kernel_rfl
theorem closed : joinedFacts Try.prog 13 Try.f13 Rows.fnPackedSizeMoreSpec Rows.fnPackedSizeMoreRow = true := by
  unfold joinedFacts
  rw [enter_, lifts_, made_]
  kernel_rfl
theorem inst_ : Try.f13.isInstance Try.prog Rows.fnPackedSizeMoreRow.origin Rows.fnPackedSizeMoreRow.targs := of_decide_eq_true (by kernel_rfl)
theorem wrap_ : Try.f13.isWrapper Try.prog Rows.fnPackedSizeMoreRow.wrapper Rows.fnPackedSizeMoreRow.mainSum := by
  unfold Func.isWrapper
  rw [if_neg (by decide +kernel)]
  exact ⟨rfl, rfl⟩
theorem over : Rows.fnPackedSizeMoreRow.holds Try.pinned (OpenSpec.ofChange Rows.fnPackedSizeMoreSpec) :=
  OpenClaim.holds_of_wide 13 Try.f13 rfl rfl rfl rfl rfl rfl rfl ⟨rfl, rfl, rfl, rfl, rfl⟩ rfl rfl rfl rfl rfl named_ Try.func13 closed inst_ wrap_
    (fun os started H enc _ => lifted os started H enc)
theorem proved : Rows.FnPackedSizeMoreSaid := over
end Go.Proofs.Ytekfncmhinbghaa.fnPackedSizeMore
