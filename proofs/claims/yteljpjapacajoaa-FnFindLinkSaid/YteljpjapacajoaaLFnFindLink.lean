/- The statement Rows.FnFindLinkSaid: the Go function laws.FnFindLink returns true for every input, and each argument reads afterwards as it read before. No conditions. -/
import Derived.Test.YteljpjapacajoaaRows
import Derived.Test.YteljpjapacajoaaPxO
import Derived.Test.YteljpjapacajoaaDZ
import Derived.Test.YteljpjapacajoaaH0
import Derived.WalkKit
import Derived.ProofKit
import Derived.OpenShut
import Derived.ShutString
import Derived.ChangeOld
import Derived.SliceStrings
import Derived.Deep.Slices
import Derived.Deep.Fields
import Derived.ChangeSame
import Derived.Below
set_option linter.unusedVariables false
set_option linter.unusedSimpArgs false
namespace Go.Proofs.Yteljpjapacajoaa
open Go.Px
set_option linter.unusedVariables false
theorem FnFindLink_fn (A : Option Addr) (c : Nat) (l : List UInt8) (w : World) (hA : Rd w A ((l).map byteV)) (hl : l.length ≤ 9223372036854775807) (hc : l.length ≤ c) :
    Does Try.prog 8 [.slice (A) ((l).length) (c)] w (fun v w1 => v = .bool (true) ∧ Mem w w1 [] []) := by
  have hM : Mem w w [] [] := Mem.refl
  refine Does.enter1 Try.func8 rfl Try.results8 Try.ntmps8 rfl ?_
  refine C.seq ?_
  refine C.region ?_
  refine O.val (v := .bool (false)) rfl (Ru.assign rfl) rfl ?_
  refine O.nil ?_
  refine C.seq ?_
  refine C.seq ?_
  refine C.region ?_
  refine O.val (v := .slice (A) ((l).length) (c)) rfl (Ru.move rfl) rfl ?_
  refine O.val (v := I ((((l).length : Nat) : Int))) rfl (Ru.blenSlice Try.underlying22 rfl) rfl ?_
  refine O.val (v := .bool (decide ((((l).length : Nat) : Int) > 1048576))) rfl (Ru.gtr rfl rfl) rfl ?_
  refine O.nil ?_
  refine C.cond (p := (((l).length : Nat) : Int) > 1048576) rfl (fun c10 => ?_) (fun c10 => ?_)
  · refine C.seq ?_
    refine C.region ?_
    refine O.val (v := .bool (true)) rfl (Ru.assign rfl) rfl ?_
    refine O.nil ?_
    refine C.ret ?_
    refine P1 (v := .bool (true)) rfl ?_
    exact ⟨rfl, (Mem.none hM)⟩
  · refine C.skip ?_
    refine C.seq ?_
    refine C.region ?_
    refine O.val (v := .slice (A) ((l).length) (c)) rfl (Ru.move rfl) rfl ?_
    refine O.callg [.slice (A) ((l).length) (c)] rfl en20 rfl rfl (DrawFindLink_fn A c l w (hA.at hM) (by first | omega | assumption | (simp; omega) | simp | (intros; omega)) (by first | omega | assumption | (simp; omega) | simp | (intros; omega))) ?_
    rintro _ w3_1 ⟨l13_1, A13_1, c13_1, G3_1, at13_1, k13_1, rfl, hl3_1, hk3_1, hG3_1, hcp3_1, hR3_1⟩
    have hM3_1 : Mem w w3_1 [] [[⟨.slice (A13_1) ((l13_1).length) (c13_1), 28, 3, ((l13_1).length), (l13_1).flatMap encL⟩], G3_1] := Mem.call (Ma := []) hM hR3_1 rfl
    have hcr3_1_0 := (hM3_1.cap 0 rfl).1
    refine O.val (v := .tuple #[.slice (A13_1) ((l13_1).length) (c13_1), I (at13_1), I (k13_1)]) rfl (Ru.move rfl) rfl ?_
    refine O.val (v := .slice (A13_1) ((l13_1).length) (c13_1)) rfl (Ru.extract rfl rfl) rfl ?_
    refine O.val (v := I (at13_1)) rfl (Ru.extract rfl rfl) rfl ?_
    refine O.val (v := I (k13_1)) rfl (Ru.extract rfl rfl) rfl ?_
    refine O.val (v := .slice (A13_1) ((l13_1).length) (c13_1)) rfl (Ru.assign rfl) rfl ?_
    refine O.val (v := I (at13_1)) rfl (Ru.assign rfl) rfl ?_
    refine O.val (v := I (k13_1)) rfl (Ru.assign rfl) rfl ?_
    refine O.nil ?_
    refine C.seq ?_
    refine C.region ?_
    refine O.val (v := .slice (A13_1) ((l13_1).length) (c13_1)) rfl (Ru.move rfl) rfl ?_
    refine O.val (v := I (at13_1)) rfl (Ru.move rfl) rfl ?_
    refine O.val (v := I (k13_1)) rfl (Ru.move rfl) rfl ?_
    refine O.callg [.slice (A13_1) ((l13_1).length) (c13_1), I (at13_1), I (k13_1)] rfl en21 rfl rfl (FindLink_fn A13_1 c13_1 l13_1 at13_1 k13_1 w3_1 (hM3_1.rd 0 rfl) (hG3_1 _ (Mem.gown hM3_1 1 rfl)) (by omega)) ?_
    rintro _ w4_3 ⟨rfl, hR4_3⟩
    have hM4_3 : Mem w w4_3 [] [[⟨.slice (A13_1) ((l13_1).length) (c13_1), 28, 3, ((l13_1).length), (l13_1).flatMap encL⟩], G3_1] := Mem.call (Ma := []) hM3_1 hR4_3 rfl
    refine O.val (v := I (findC (tsL l13_1) at13_1 k13_1)) rfl (Ru.assign rfl) rfl ?_
    refine O.nil ?_
    refine C.seq ?_
    refine C.seq ?_
    refine C.region ?_
    refine O.val (v := I (findC (tsL l13_1) at13_1 k13_1)) rfl (Ru.move rfl) rfl ?_
    refine O.val (v := .slice (A13_1) ((l13_1).length) (c13_1)) rfl (Ru.move rfl) rfl ?_
    refine O.val (v := I (at13_1)) rfl (Ru.move rfl) rfl ?_
    refine O.val (v := I (k13_1)) rfl (Ru.move rfl) rfl ?_
    refine O.callg [.slice (A13_1) ((l13_1).length) (c13_1), I (at13_1), I (k13_1)] rfl en22 rfl rfl (sFindLink_fn A13_1 c13_1 l13_1 at13_1 k13_1 w4_3 (hM4_3.rd 0 rfl) (hG3_1 _ (Mem.gown hM4_3 1 rfl)) (by omega)) ?_
    rintro _ w5_4 ⟨rfl, hR5_4⟩
    have hM5_4 : Mem w w5_4 [] [[⟨.slice (A13_1) ((l13_1).length) (c13_1), 28, 3, ((l13_1).length), (l13_1).flatMap encL⟩], G3_1] := Mem.call (Ma := []) hM4_3 hR5_4 rfl
    refine O.val (v := .bool (false)) rfl (Ru.congr (v := .bool (decide (findC (tsL l13_1) at13_1 k13_1 ≠ findC (tsL l13_1) at13_1 k13_1))) (v' := .bool (false)) (Ru.neq rfl rfl) ((congrArg Value.bool (decide_eq_false (by simp))))) rfl ?_
    refine O.val (v := .bool (false)) rfl (Ru.move rfl) rfl ?_
    refine O.val (v := I (findC (tsL l13_1) at13_1 k13_1)) rfl (Ru.move rfl) rfl ?_
    refine O.val (v := .bool (decide (findC (tsL l13_1) at13_1 k13_1 < 0))) rfl (Ru.lss rfl rfl) rfl ?_
    refine O.val (v := .bool (decide (findC (tsL l13_1) at13_1 k13_1 < 0))) rfl (Ru.pickF rfl rfl) rfl ?_
    refine O.val (v := .bool (decide (findC (tsL l13_1) at13_1 k13_1 < 0))) rfl (Ru.move rfl) rfl ?_
    refine O.partp 31 (findC (tsL l13_1) at13_1 k13_1 < 0) rfl (fun g31 => ?_) (fun g31 => ?_)
    · refine O.pass rfl rfl rfl rfl rfl ?_
      refine O.pass rfl rfl rfl rfl rfl ?_
      refine O.pass rfl rfl rfl rfl rfl ?_
      refine O.pass rfl rfl rfl rfl rfl ?_
      refine O.val (v := .bool (true)) rfl (Ru.pickT rfl rfl) rfl ?_
      refine O.nil ?_
      refine C.condT rfl ?_
      refine C.seq ?_
      refine C.region ?_
      refine O.val (v := I (findC (tsL l13_1) at13_1 k13_1)) rfl (Ru.move rfl) rfl ?_
      refine O.val (v := .slice (A13_1) ((l13_1).length) (c13_1)) rfl (Ru.move rfl) rfl ?_
      refine O.val (v := I (at13_1)) rfl (Ru.move rfl) rfl ?_
      refine O.val (v := I (k13_1)) rfl (Ru.move rfl) rfl ?_
      refine O.callg [.slice (A13_1) ((l13_1).length) (c13_1), I (at13_1), I (k13_1)] rfl en22 rfl rfl (sFindLink_fn A13_1 c13_1 l13_1 at13_1 k13_1 w5_4 (hM5_4.rd 0 rfl) (hG3_1 _ (Mem.gown hM5_4 1 rfl)) (by omega)) ?_
      rintro _ w6_4 ⟨rfl, hR6_4⟩
      have hM6_4 : Mem w w6_4 [] [[⟨.slice (A13_1) ((l13_1).length) (c13_1), 28, 3, ((l13_1).length), (l13_1).flatMap encL⟩], G3_1] := Mem.call (Ma := []) hM5_4 hR6_4 rfl
      refine O.val (v := .bool (true)) rfl (Ru.congr (v := .bool (decide (findC (tsL l13_1) at13_1 k13_1 = findC (tsL l13_1) at13_1 k13_1))) (v' := .bool (true)) (Ru.eql rfl rfl) ((congrArg Value.bool (decide_eq_true rfl)))) rfl ?_
      refine O.val (v := .bool (true)) rfl (Ru.assign rfl) rfl ?_
      refine O.nil ?_
      refine C.ret ?_
      refine P1 (v := .bool (true)) rfl ?_
      exact ⟨rfl, (Mem.none hM6_4)⟩
    · refine O.val (v := I (findC (tsL l13_1) at13_1 k13_1)) rfl (Ru.move rfl) rfl ?_
      refine O.val (v := .slice (A13_1) ((l13_1).length) (c13_1)) rfl (Ru.move rfl) rfl ?_
      refine O.val (v := I ((((l13_1).length : Nat) : Int))) rfl (Ru.blenSlice Try.underlying23 rfl) rfl ?_
      refine O.val (v := .bool (decide (findC (tsL l13_1) at13_1 k13_1 ≥ (((l13_1).length : Nat) : Int)))) rfl (Ru.geq rfl rfl) rfl ?_
      refine O.val (v := .bool (decide (findC (tsL l13_1) at13_1 k13_1 ≥ (((l13_1).length : Nat) : Int)))) rfl (Ru.pickF rfl rfl) rfl ?_
      refine O.nil ?_
      refine C.cond (p := findC (tsL l13_1) at13_1 k13_1 ≥ (((l13_1).length : Nat) : Int)) rfl (fun c36 => ?_) (fun c36 => ?_)
      · refine C.seq ?_
        refine C.region ?_
        refine O.val (v := I (findC (tsL l13_1) at13_1 k13_1)) rfl (Ru.move rfl) rfl ?_
        refine O.val (v := .slice (A13_1) ((l13_1).length) (c13_1)) rfl (Ru.move rfl) rfl ?_
        refine O.val (v := I (at13_1)) rfl (Ru.move rfl) rfl ?_
        refine O.val (v := I (k13_1)) rfl (Ru.move rfl) rfl ?_
        refine O.callg [.slice (A13_1) ((l13_1).length) (c13_1), I (at13_1), I (k13_1)] rfl en22 rfl rfl (sFindLink_fn A13_1 c13_1 l13_1 at13_1 k13_1 w5_4 (hM5_4.rd 0 rfl) (hG3_1 _ (Mem.gown hM5_4 1 rfl)) (by omega)) ?_
        rintro _ w6_4 ⟨rfl, hR6_4⟩
        have hM6_4 : Mem w w6_4 [] [[⟨.slice (A13_1) ((l13_1).length) (c13_1), 28, 3, ((l13_1).length), (l13_1).flatMap encL⟩], G3_1] := Mem.call (Ma := []) hM5_4 hR6_4 rfl
        refine O.val (v := .bool (true)) rfl (Ru.congr (v := .bool (decide (findC (tsL l13_1) at13_1 k13_1 = findC (tsL l13_1) at13_1 k13_1))) (v' := .bool (true)) (Ru.eql rfl rfl) ((congrArg Value.bool (decide_eq_true rfl)))) rfl ?_
        refine O.val (v := .bool (true)) rfl (Ru.assign rfl) rfl ?_
        refine O.nil ?_
        refine C.ret ?_
        refine P1 (v := .bool (true)) rfl ?_
        exact ⟨rfl, (Mem.none hM6_4)⟩
      · have hg := good_key (l := tsL l13_1) (at_ := at13_1) (key := k13_1) (by omega)
        have hv := (goodF_iff.1 hg).1
        have hky := isKey_iff.2 (goodF_iff.1 hg).2.2
        have hg0 := good0 hv hky
        have hr := find_range hg
        have hr0 := find_range hg0
        simp only [List.length_map] at hr hr0
        refine C.skip ?_
        refine C.seq ?_
        refine C.region ?_
        refine O.val (v := .slice (A13_1) ((l13_1).length) (c13_1)) rfl (Ru.move rfl) rfl ?_
        refine O.val (v := I (k13_1)) rfl (Ru.move rfl) rfl ?_
        refine O.callg [.slice (A13_1) ((l13_1).length) (c13_1), I (0), I (k13_1)] rfl en21 rfl rfl (FindLink_fn A13_1 c13_1 l13_1 0 k13_1 w5_4 (hM5_4.rd 0 rfl) (hG3_1 _ (Mem.gown hM5_4 1 rfl)) (by omega)) ?_
        rintro _ w7_2 ⟨rfl, hR7_2⟩
        have hM7_2 : Mem w w7_2 [] [[⟨.slice (A13_1) ((l13_1).length) (c13_1), 28, 3, ((l13_1).length), (l13_1).flatMap encL⟩], G3_1] := Mem.call (Ma := []) hM5_4 hR7_2 rfl
        refine O.val (v := I (findC (tsL l13_1) 0 k13_1)) rfl (Ru.assign rfl) rfl ?_
        refine O.nil ?_
        refine C.seq ?_
        refine C.region ?_
        refine O.val (v := I (k13_1)) rfl (Ru.move rfl) rfl ?_
        refine O.val (v := .slice (A13_1) ((l13_1).length) (c13_1)) rfl (Ru.move rfl) rfl ?_
        refine O.val (v := I (findC (tsL l13_1) at13_1 k13_1)) rfl (Ru.move rfl) rfl ?_
        have hx8_3 : (findC (tsL l13_1) at13_1 k13_1).toNat < (l13_1).length := (by omega)
        refine O.val (v := .pointer (ofs (A13_1) (((findC (tsL l13_1) at13_1 k13_1).toNat) * 3))) rfl (Ru.indexA (j := (findC (tsL l13_1) at13_1 k13_1).toNat) Try.underlying23 el28 rfl rfl (smf encL_len (hM7_2.rd 0 rfl) hx8_3 rfl) (by omega) (by omega)) rfl ?_
        refine O.val (v := .pointer (ofs (A13_1) (((findC (tsL l13_1) at13_1 k13_1).toNat) * 3 + 1))) rfl (Ru.fieldA fl28_1 rfl (smf encL_len (hM7_2.rd 0 rfl) hx8_3 rfl)) rfl ?_
        refine O.val rfl (Ru.load1 el3 rfl (ldf encL_len (hM7_2.rd 0 rfl) hx8_3 rfl)) rfl ?_
        refine O.val (v := .bool (true)) rfl (Ru.congr (v := .bool (decide (k13_1 < ((l13_1)[(findC (tsL l13_1) at13_1 k13_1).toNat]'hx8_3).t.high))) (v' := .bool (true)) (Ru.lss rfl rfl) ((congrArg Value.bool (decide_eq_true (by have h9 := hr.2.2; rw [gL_ts (by omega)] at h9; exact h9))))) rfl ?_
        refine O.val (v := .bool (true)) rfl (Ru.move rfl) rfl ?_
        refine O.val (v := I (findC (tsL l13_1) 0 k13_1)) rfl (Ru.move rfl) rfl ?_
        refine O.val (v := .bool (true)) rfl (Ru.congr (v := .bool (decide (findC (tsL l13_1) 0 k13_1 ≥ 0))) (v' := .bool (true)) (Ru.geq rfl rfl) ((congrArg Value.bool (decide_eq_true (by omega))))) rfl ?_
        refine O.val (v := .bool (true)) rfl (Ru.pickT rfl rfl) rfl ?_
        refine O.val (v := .bool (true)) rfl (Ru.move rfl) rfl ?_
        refine O.val (v := I (findC (tsL l13_1) 0 k13_1)) rfl (Ru.move rfl) rfl ?_
        refine O.val (v := .slice (A13_1) ((l13_1).length) (c13_1)) rfl (Ru.move rfl) rfl ?_
        refine O.val (v := I ((((l13_1).length : Nat) : Int))) rfl (Ru.blenSlice Try.underlying23 rfl) rfl ?_
        refine O.val (v := .bool (true)) rfl (Ru.congr (v := .bool (decide (findC (tsL l13_1) 0 k13_1 < (((l13_1).length : Nat) : Int)))) (v' := .bool (true)) (Ru.lss rfl rfl) ((congrArg Value.bool (decide_eq_true (by omega))))) rfl ?_
        refine O.val (v := .bool (true)) rfl (Ru.pickT rfl rfl) rfl ?_
        refine O.val (v := .bool (true)) rfl (Ru.move rfl) rfl ?_
        refine O.val (v := .slice (A13_1) ((l13_1).length) (c13_1)) rfl (Ru.move rfl) rfl ?_
        refine O.val (v := I (findC (tsL l13_1) 0 k13_1)) rfl (Ru.move rfl) rfl ?_
        have hx8_20 : (findC (tsL l13_1) 0 k13_1).toNat < (l13_1).length := (by omega)
        refine O.val (v := .pointer (ofs (A13_1) (((findC (tsL l13_1) 0 k13_1).toNat) * 3))) rfl (Ru.indexA (j := (findC (tsL l13_1) 0 k13_1).toNat) Try.underlying23 el28 rfl rfl (smf encL_len (hM7_2.rd 0 rfl) hx8_20 rfl) (by omega) (by omega)) rfl ?_
        refine O.val (v := .pointer (ofs (A13_1) (((findC (tsL l13_1) 0 k13_1).toNat) * 3 + 0))) rfl (Ru.fieldA fl28_0 rfl (smf encL_len (hM7_2.rd 0 rfl) hx8_20 rfl)) rfl ?_
        refine O.val rfl (Ru.load1 el26 rfl (ldf encL_len (hM7_2.rd 0 rfl) hx8_20 rfl)) rfl ?_
        refine O.val (v := I (k13_1)) rfl (Ru.move rfl) rfl ?_
        refine O.callg [.slice (((l13_1)[(findC (tsL l13_1) 0 k13_1).toNat]'hx8_20).A) ((((l13_1)[(findC (tsL l13_1) 0 k13_1).toNat]'hx8_20).t.keys).length) (((l13_1)[(findC (tsL l13_1) 0 k13_1).toNat]'hx8_20).cp), I (k13_1)] rfl en28 (by first | rfl | (rw [show (((l13_1)[(findC (tsL l13_1) 0 k13_1).toNat]'hx8_20).t.keys).length = ((l13_1)[(findC (tsL l13_1) 0 k13_1).toNat]'hx8_20).t.keys.length from (by first | rfl | (simp; done) | omega | (simp; omega))]; rfl)) rfl (lisIn_fn (((l13_1)[(findC (tsL l13_1) 0 k13_1).toNat]'hx8_20).A) (((l13_1)[(findC (tsL l13_1) 0 k13_1).toNat]'hx8_20).cp) (((l13_1)[(findC (tsL l13_1) 0 k13_1).toNat]'hx8_20).t.keys) k13_1 w7_2 ((hG3_1 _ (Mem.gown hM7_2 1 rfl)).get hx8_20) (by have := (valid_all hv _ (List.getElem_mem hx8_20)).1; omega)) ?_
        rintro _ w8_24 ⟨rfl, hR8_24⟩
        have hM8_24 : Mem w w8_24 [] [[⟨.slice (A13_1) ((l13_1).length) (c13_1), 28, 3, ((l13_1).length), (l13_1).flatMap encL⟩], G3_1] := Mem.call (Ma := []) hM7_2 hR8_24 rfl
        refine O.val (v := .slice (A13_1) ((l13_1).length) (c13_1)) rfl (Ru.move rfl) rfl ?_
        refine O.callg [.slice (A13_1) ((l13_1).length) (c13_1)] rfl en24 rfl rfl (ChainKeys_fn A13_1 c13_1 l13_1 w8_24 (hM8_24.rd 0 rfl) (hG3_1 _ (Mem.gown hM8_24 1 rfl)) (by omega)) ?_
        rintro _ w8_26 ⟨A18_26, c18_26, rfl, hR8_26⟩
        have hM8_26 : Mem w w8_26 [] [[⟨.slice (A18_26) ((keysC (tsL l13_1)).length) (c18_26), 3, 1, ((keysC (tsL l13_1)).length), (keysC (tsL l13_1)).map I⟩], [⟨.slice (A13_1) ((l13_1).length) (c13_1), 28, 3, ((l13_1).length), (l13_1).flatMap encL⟩], G3_1] := Mem.call (Ma := []) hM8_24 hR8_26 rfl
        have hcr8_26_0 := (hM8_26.cap 0 rfl).1
        refine O.val (v := I (k13_1)) rfl (Ru.move rfl) rfl ?_
        refine O.callg [.slice (A18_26) ((keysC (tsL l13_1)).length) (c18_26), I (k13_1)] rfl en28 rfl rfl (lisIn_fn A18_26 c18_26 (keysC (tsL l13_1)) k13_1 w8_26 (hM8_26.rd 0 rfl) (by exact Nat.le_trans (validK_len keys_valid) (by omega))) ?_
        rintro _ w8_28 ⟨rfl, hR8_28⟩
        have hM8_28 : Mem w w8_28 [] [[⟨.slice (A18_26) ((keysC (tsL l13_1)).length) (c18_26), 3, 1, ((keysC (tsL l13_1)).length), (keysC (tsL l13_1)).map I⟩], [⟨.slice (A13_1) ((l13_1).length) (c13_1), 28, 3, ((l13_1).length), (l13_1).flatMap encL⟩], G3_1] := Mem.call (Ma := []) hM8_26 hR8_28 rfl
        refine O.val (v := .bool (true)) rfl (Ru.congr (v := .bool (decide (decide (k13_1 ∈ (((l13_1)[(findC (tsL l13_1) 0 k13_1).toNat]'hx8_20).t.keys)) = decide (k13_1 ∈ (keysC (tsL l13_1)))))) (v' := .bool (true)) (Ru.beql Try.underlying4 rfl rfl) ((congrArg Value.bool (decide_eq_true (by rw [decide_eq_decide, ← gL_ts (by omega)]; exact find_key hv hky))))) rfl ?_
        refine O.val (v := .bool (true)) rfl (Ru.pickT rfl rfl) rfl ?_
        refine O.val (v := .bool (true)) rfl (Ru.assign rfl) rfl ?_
        refine O.nil ?_
        refine C.ret ?_
        refine P1 (v := .bool (true)) rfl ?_
        exact ⟨rfl, (Mem.none hM8_28)⟩
end Go.Proofs.Yteljpjapacajoaa
namespace Go.Proofs.Yteljpjapacajoaa.fnFindLink
open Go.ChangeShapes Go.WideShapes Go.ChangeAt Go.RowKit Go.Px
open Go.ChangeMaps (open_string shut_string)
set_option linter.unusedVariables false

theorem own : ownKnob Try.prog.godebug = none := by kernel_rfl
theorem laidOut : laidOutB Try.prog = true := by kernel_rfl

set_option maxRecDepth 100000 in
theorem lifted (os : Os) (started : os.Started) (H : Type) (enc : TypeId × Value → H) :
    ReturnsInHanded {} Try.checked os 8 .any (Rows.fnFindLinkSpec.pre6 enc Try.prog Try.f8 Rows.fnFindLinkRow.domain false) (Rows.fnFindLinkSpec.post enc Try.prog Try.f8 false true false false) := by
  refine returnsInHanded_of_change (C := Try.checked) own started (by kernel_rfl) Try.func8
    (ChangeSpec.witness6 (enc := enc) (C := Try.checked) false ⟨#[], #[.slice none 0 0], []⟩ 8 (by kernel_rfl) (by kernel_rfl) (by kernel_rfl) (by kernel_rfl)) ?_
  intro W base args ds gs before hval0 hW hcnd _
  have hval : ∀ (j : Nat) t v, Try.f8.params[j]? = some t → args[j]? = some v → Value.okWide Try.prog W .any base t v := hval0
  have hW' := hW
  obtain ⟨p, q, hA0, hV, rfl, hfz, hnd⟩ := hW
  have hA : DataW.TrodAll enc Try.prog W 0 (fun _ => true) true Try.f8.params.toList args.toList ds p := hA0
  rw [Try.params8] at hA hval
  obtain ⟨v0, vs0, d0, ds0, p0, q0, hargs, rfl, rfl, h0, r0⟩ := trodAll_cons hA
  obtain ⟨rfl, rfl, rfl⟩ := trodAll_nil r0
  obtain rfl : args = #[v0] := by cases args; simp_all
  obtain ⟨rfl, rfl⟩ := trodVars_none hV
  have k0 := h0
  have lt0 : ∀ x ∈ p0, x.block < W.heap.size := by obtain ⟨m, hm⟩ := k0; exact DataW.trod_lt m _ _ _ hm
  obtain ⟨a0, len0, cap0, rfl⟩ := okWide_slice Try.underlying22 (hval 0 22 v0 rfl rfl)
  have kk0 := k0
  obtain ⟨fuel0, hf0⟩ := kk0
  obtain ⟨z0, rfl, hz0, hc0, hw0, hRd0⟩ := slice_in (α := UInt8) (f := fun a : UInt8 => [byteV a]) (c := 1) Try.underlying22 (by kernel_rfl) (fun _ => rfl) (byte_el Try.underlying5) hf0
  rw [flat_one] at hRd0
  clear hA0 hval0
  refine (FnFindLink_fn a0 cap0 z0 W hRd0 hz0 hc0).out.mono fun e W' ⟨v, he, hv, hg⟩ => ?_
  subst he hv
  have bel : Below W.heap.size W W' := ⟨hg.os, hg.tape, hg.output, hg.size, fun k hk => hg.block k hk (by simp)⟩
  exact ⟨_, rfl, _, _, _, [], _, [], hW', trodAll_mk1 (shut_bool Try.underlying4 _), (trodAll_cons_mk (Below.trod laidOut (by kernel_rfl) (of_decide_eq_true (by kernel_rfl)) k0 bel lt0) trodAll_mk0), rfl, bel.frame _, fun h => by cases h⟩

theorem named_ : Try.prog.funcNamed Rows.fnFindLinkRow.func = some 8 := by kernel_rfl
theorem closed : joinedFacts Try.prog 8 Try.f8 Rows.fnFindLinkSpec Rows.fnFindLinkRow = true := by
  unfold joinedFacts
  rw [enter_, lifts_, made_]
  kernel_rfl
theorem inst_ : Try.f8.isInstance Try.prog Rows.fnFindLinkRow.origin Rows.fnFindLinkRow.targs := of_decide_eq_true (by kernel_rfl)
theorem wrap_ : Try.f8.isWrapper Try.prog Rows.fnFindLinkRow.wrapper Rows.fnFindLinkRow.mainSum := by
  unfold Func.isWrapper
  rw [if_neg (by decide +kernel)]
  exact ⟨rfl, rfl⟩
theorem over : Rows.fnFindLinkRow.holds Try.pinned (OpenSpec.ofChange Rows.fnFindLinkSpec) :=
  OpenClaim.holds_of_wide 8 Try.f8 rfl rfl rfl rfl rfl rfl rfl ⟨rfl, rfl, rfl, rfl, rfl⟩ rfl rfl rfl rfl rfl named_ Try.func8 closed inst_ wrap_
    (fun os started H enc _ => lifted os started H enc)
theorem proved : Rows.FnFindLinkSaid := over
end Go.Proofs.Yteljpjapacajoaa.fnFindLink
