/- Own layer: part of this seat (EH). Plain theorems; no conditions. -/
import Derived.Test.YtfdlmimgooeioaaDoorEG
set_option linter.unusedVariables false
set_option linter.unusedSimpArgs false
namespace Go.Proofs.YtfdlmimgooeioaaDoor
open Go.Px
set_option maxHeartbeats 2000000 in
theorem FormatRow_fn (A : Option Addr) (c : Nat) (l : List PairT) (w : World) (hA : Rd w A ((l).flatMap encP)) (hl : l.length ≤ 1048576) (htab : TAB w) :
    Does Tryd.prog 16 [.slice (A) ((l).length) (c)] w (fun v w1 => v = S (fmtR l) ∧ Mem w w1 [] []) := by
  have hM : Mem w w [] [] := Mem.refl
  refine Does.enter1 Tryd.func16 rfl Tryd.results16 Tryd.ntmps16 rfl ?_
  refine C.seq ?_
  refine C.region ?_
  refine O.val (v := S ([])) rfl (Ru.assign rfl) rfl ?_
  refine O.nil ?_
  refine C.seq ?_
  refine C.seq ?_
  refine C.region ?_
  refine O.val (v := .slice (A) ((l).length) (c)) rfl (Ru.move rfl) rfl ?_
  refine O.callg [.slice (A) ((l).length) (c)] rfl en34 rfl rfl (ValidRow_fn A c l w (hA.at hM) (by first | omega | assumption | (simp; omega) | simp | (intros; omega))) ?_
  rintro _ w1_1 ⟨rfl, hR1_1⟩
  have hM1_1 : Mem w w1_1 [] [] := Mem.call (Ma := []) hM hR1_1 rfl
  refine O.val (v := .bool (!(validR l))) rfl (Ru.not rfl) rfl ?_
  refine O.nil ?_
  refine C.condn (b := (validR l)) rfl (fun c8 => ?_) (fun c8 => ?_)
  · refine C.seq ?_
    refine C.region ?_
    refine O.val (v := S ([])) rfl (Ru.assign rfl) rfl ?_
    refine O.nil ?_
    refine C.ret ?_
    refine P1 (v := S ([])) rfl ?_
    exact ⟨(by rw [fmtR_no (by simpa using c8)]), (Mem.none hM1_1)⟩
  · have hv : validR l = true := by simpa using c8
    have hvs := valid_small hv
    have h24 := validR_len hv
    refine C.skip ?_
    refine C.seq ?_
    refine C.region ?_
    refine O.malloc (k := 2) hM1_1 rfl rfl el66 rfl (fun w3_0 b3_0 hb3_0 (hM3_0 : Mem w w3_0 [] [[⟨.slice (bl b3_0) 1 1, 66, 2, 1, [(.pointer none), .slice (none) (0) (0)]⟩]]) => ?_)
    refine O.nil ?_
    refine C.seq ?_
    refine C.seq ?_
    refine C.region ?_
    refine O.val (v := .slice (A) ((l).length) (c)) rfl (Ru.move rfl) rfl ?_
    refine O.val (v := I ((((l).length : Nat) : Int))) rfl (Ru.blenSlice Tryd.underlying25 rfl) rfl ?_
    refine O.val (v := I (0)) rfl (Ru.move rfl) rfl ?_
    refine O.nil ?_
    refine C.block ?_
    have hMn1 : Mem w w3_0 [] [[⟨.slice (none) (0) (0), 5, 1, 0, ([]).map byteV⟩], [⟨.slice (bl b3_0) 1 1, 66, 2, 1, [(.pointer none), .slice (none) (0) (0)]⟩]] := Mem.addNil hM3_0
    have hq2 : ([] : List UInt8) = fmtL (l.take 0) := (by simp [fmtL])
    have hMn2 : Mem w w3_0 [] [[⟨.slice (none) ((fmtL (l.take 0)).length) (0), 5, 1, ((fmtL (l.take 0)).length), (fmtL (l.take 0)).map byteV⟩], [⟨.slice (bl b3_0) 1 1, 66, 2, 1, [(.pointer none), .slice (none) (0) (0)]⟩]] := hMn1.relen 0 (n' := (fmtL (l.take 0)).length) (xs' := (fmtL (l.take 0)).map byteV) rfl (by first | rfl | exact congrArg List.length hq2 | (have hqq := congrArg List.length hq2; first | omega | (simp at hqq ⊢; omega)) | (simp; done) | (simp; omega)) (congrArg (fun z_ => (z_).map byteV) hq2) rfl
    have hMn3 : Mem w w3_0 [] [[⟨.slice (none) ((fmtL (l.take 0)).length) (0), 5, 1, ((fmtL (l.take 0)).length), (fmtL (l.take 0)).map byteV⟩], [⟨.slice (bl b3_0) 1 1, 66, 2, 1, [(.pointer none), .slice (none) ((fmtL (l.take 0)).length) (0)]⟩]] := Mem.cast hMn2 (congrArg (fun z_ : Nat => ([[⟨.slice (none) ((fmtL (l.take 0)).length) (0), 5, 1, ((fmtL (l.take 0)).length), (fmtL (l.take 0)).map byteV⟩], [⟨.slice (bl b3_0) 1 1, 66, 2, 1, [(.pointer none), .slice (none) (z_) (0)]⟩]] : List (List FE))) (show 0 = (fmtL (l.take 0)).length from (by simp [fmtL])))
    refine C.loop (ι := Nat × Value × (Option Addr) × Nat) (fun x_ => ([(3, .pointer (ofs (bl b3_0) (0))), (9, .slice (A) ((l).length) (c)), (10, I ((((l).length : Nat) : Int))), (11, I (((x_.1 : Nat) : Int)))] : List (Nat × Value))) (fun x_ w_ => (x_.1 ≤ l.length) ∧ (x_.2.1 = .pointer none ∨ x_.2.1 = .pointer (ofs (bl b3_0) 0)) ∧ (Mem w w_ [] [[⟨.slice (x_.2.2.1) ((fmtL (l.take x_.1)).length) (x_.2.2.2), 5, 1, ((fmtL (l.take x_.1)).length), (fmtL (l.take x_.1)).map byteV⟩], [⟨.slice (bl b3_0) 1 1, 66, 2, 1, [(x_.2.1), .slice (x_.2.2.1) ((fmtL (l.take x_.1)).length) (x_.2.2.2)]⟩]])) (fun x_ => l.length - x_.1) (0, (.pointer none), none, 0) (Has.cons rfl (Has.cons rfl (Has.cons rfl (Has.cons (I_congr (by first | rfl | omega | (simp; omega) | simp)) Has.nil)))) ⟨(Nat.zero_le _), (.inl rfl), (hMn3.pick [0, 1] (by decide) rfl)⟩ (fun ⟨k, pv, A2, c2⟩ σ w_l5 hI => ?_)
    try dsimp only at hI
    obtain ⟨hi0_l5, hi1_l5, hM_l5⟩ := hI
    have hcl0_l5 := (hM_l5.cap 0 rfl).1
    refine C.seq ?_
    refine C.region ?_
    refine O.val (v := .bool (decide (((k : Nat) : Int) < (((l).length : Nat) : Int)))) rfl (Ru.lss rfl rfl) rfl ?_
    refine O.nil ?_
    refine C.seq ?_
    refine C.cond (p := ((k : Nat) : Int) < (((l).length : Nat) : Int)) rfl (fun c12 => ?_) (fun c12 => ?_)
    · have hkl : k < l.length := by omega
      have hsm := hvs _ (List.getElem_mem hkl)
      have hfl := fmtL_len (l := l) k hvs hi0_l5
      have hl1 := itoa_len (n := l[k].key) (by have := hsm.1; omega) (by have := hsm.1; omega)
      have hl2 := itoa_len (n := l[k].val) (by have := hsm.2; omega) (by have := hsm.2; omega)
      have hs1 := hsm.1
      have hs2 := hsm.2
      refine C.skip ?_
      refine C.seq ?_
      refine C.block ?_
      refine C.seq ?_
      refine C.region ?_
      refine O.val (v := I (((k : Nat) : Int))) rfl (Ru.move rfl) rfl ?_
      have hx6_1 : k < (l).length := (by first | omega | (simp; omega))
      refine O.val (v := .pointer (ofs (A) (k * 2))) rfl (Ru.indexA (j := k) Tryd.underlying25 el61 rfl rfl (smf encP_len (hA.at hM_l5) hx6_1 rfl) (by omega) (by first | omega | (simp; omega))) rfl ?_
      refine O.val rfl (Ru.loadN (vs := [I (((l)[k]'hx6_1).key), I (((l)[k]'hx6_1).val)]) el61 rfl rfl (smf encP_len (hA.at hM_l5) hx6_1 rfl) (ldn encP_len (hA.at hM_l5) hx6_1)) rfl ?_
      refine O.malloc (k := 2) hM_l5 rfl rfl el61 rfl (fun w6_3 b6_3 hb6_3 (hM6_3 : Mem w w6_3 [] [[⟨.slice (bl b6_3) 1 1, 61, 2, 1, [I (0), I (0)]⟩], [⟨.slice (A2) ((fmtL (l.take k)).length) (c2), 5, 1, ((fmtL (l.take k)).length), (fmtL (l.take k)).map byteV⟩], [⟨.slice (bl b3_0) 1 1, 66, 2, 1, [(pv), .slice (A2) ((fmtL (l.take k)).length) (c2)]⟩]]) => ?_)
      refine O.val (v := I (((k : Nat) : Int))) rfl (Ru.assign rfl) rfl ?_
      refine O.mstore (vs := [I (((l)[k]'hx6_1).key), I (((l)[k]'hx6_1).val)]) (xs' := [I (((l)[k]'hx6_1).key), I (((l)[k]'hx6_1).val)]) 0 0 hM6_3 rfl rfl rfl el61 rfl rfl rfl rfl rfl (by simp) (by simp) rfl rfl (fun w6_5 (hM6_5 : Mem w w6_5 [] [[⟨.slice (bl b6_3) 1 1, 61, 2, 1, [I (((l)[k]'hx6_1).key), I (((l)[k]'hx6_1).val)]⟩], [⟨.slice (A2) ((fmtL (l.take k)).length) (c2), 5, 1, ((fmtL (l.take k)).length), (fmtL (l.take k)).map byteV⟩], [⟨.slice (bl b3_0) 1 1, 66, 2, 1, [(pv), .slice (A2) ((fmtL (l.take k)).length) (c2)]⟩]]) => ?_)
      refine O.nil ?_
      refine C.seq ?_
      refine C.seq ?_
      refine C.region ?_
      refine O.val (v := I (((k : Nat) : Int))) rfl (Ru.move rfl) rfl ?_
      refine O.val (v := .bool (decide (((k : Nat) : Int) > 0))) rfl (Ru.gtr rfl rfl) rfl ?_
      refine O.nil ?_
      refine C.cond (p := ((k : Nat) : Int) > 0) rfl (fun c17 => ?_) (fun c17 => ?_)
      · have hk0 : k ≠ 0 := by omega
        refine C.region ?_
        have hMf8_0 : Mem w w6_5 [] [[⟨.slice (bl b3_0) 1 1, 66, 2, 1, [(pv), .slice (A2) ((fmtL (l.take k)).length) (c2)]⟩], [⟨.slice (A2) ((fmtL (l.take k)).length) (c2), 5, 1, ((fmtL (l.take k)).length), (fmtL (l.take k)).map byteV⟩], [⟨.slice (bl b6_3) 1 1, 61, 2, 1, [I (((l)[k]'hx6_1).key), I (((l)[k]'hx6_1).val)]⟩]] := hM6_5.pick [2, 1, 0] (by decide) rfl
        refine O.callg [.pointer (ofs (bl b3_0) (0)), .int .u8 (44)] rfl en45 rfl rfl (WriteByte_fn b3_0 A2 c2 (fmtL (l.take k)) (pv) (44 : UInt8) w6_5 (Mem.focus (Ma := [[⟨.slice (bl b3_0) 1 1, 66, 2, 1, [(pv), .slice (A2) ((fmtL (l.take k)).length) (c2)]⟩], [⟨.slice (A2) ((fmtL (l.take k)).length) (c2), 5, 1, ((fmtL (l.take k)).length), (fmtL (l.take k)).map byteV⟩]]) (rest := [[⟨.slice (bl b6_3) 1 1, 61, 2, 1, [I (((l)[k]'hx6_1).key), I (((l)[k]'hx6_1).val)]⟩]]) hMf8_0 rfl) (by first | exact .inl rfl | exact .inr rfl | assumption) (by first | omega | (simp; omega))) ?_
        rintro _ w8_0 ⟨A18_0, c18_0, rfl, hR8_0⟩
        have hM8_0 : Mem w w8_0 [] [[⟨.slice (bl b3_0) 1 1, 66, 2, 1, [.pointer (ofs (bl b3_0) (0)), .slice (A18_0) (((fmtL (l.take k)) ++ [(44 : UInt8)]).length) (c18_0)]⟩], [⟨.slice (A18_0) (((fmtL (l.take k)) ++ [(44 : UInt8)]).length) (c18_0), 5, 1, (((fmtL (l.take k)) ++ [(44 : UInt8)]).length), ((fmtL (l.take k)) ++ [(44 : UInt8)]).map byteV⟩], [⟨.slice (bl b6_3) 1 1, 61, 2, 1, [I (((l)[k]'hx6_1).key), I (((l)[k]'hx6_1).val)]⟩]] := Mem.call (Ma := [[⟨.slice (bl b3_0) 1 1, 66, 2, 1, [(pv), .slice (A2) ((fmtL (l.take k)).length) (c2)]⟩], [⟨.slice (A2) ((fmtL (l.take k)).length) (c2), 5, 1, ((fmtL (l.take k)).length), (fmtL (l.take k)).map byteV⟩]]) hMf8_0 hR8_0 rfl
        have hcr8_0_1 := (hM8_0.cap 1 rfl).1
        refine O.nil ?_
        refine C.seq ?_
        refine C.region ?_
        refine O.val (v := .pointer (ofs (bl b6_3) (0))) rfl (Ru.fieldA fl61_0 rfl rfl) rfl ?_
        refine O.val rfl (Ru.load1 el3 rfl ((hM8_0.rd 2 rfl).ld rfl)) rfl ?_
        refine O.callg [I (((l)[k]'hx6_1).key)] rfl en47 rfl rfl (Itoa_fn (((l)[k]'hx6_1).key) w8_0 (tab_at htab hM8_0) (by first | omega | (constructor <;> omega))) ?_
        rintro _ w9_2 ⟨rfl, hR9_2⟩
        have hM9_2 : Mem w w9_2 [] [[⟨.slice (bl b3_0) 1 1, 66, 2, 1, [.pointer (ofs (bl b3_0) (0)), .slice (A18_0) (((fmtL (l.take k)) ++ [(44 : UInt8)]).length) (c18_0)]⟩], [⟨.slice (A18_0) (((fmtL (l.take k)) ++ [(44 : UInt8)]).length) (c18_0), 5, 1, (((fmtL (l.take k)) ++ [(44 : UInt8)]).length), ((fmtL (l.take k)) ++ [(44 : UInt8)]).map byteV⟩], [⟨.slice (bl b6_3) 1 1, 61, 2, 1, [I (((l)[k]'hx6_1).key), I (((l)[k]'hx6_1).val)]⟩]] := Mem.call (Ma := []) hM8_0 hR9_2 rfl
        refine O.callg [.pointer (ofs (bl b3_0) (0)), S (itoaS (((l)[k]'hx6_1).key))] rfl en46 rfl rfl (WriteString_fn b3_0 A18_0 c18_0 ((fmtL (l.take k)) ++ [(44 : UInt8)]) (.pointer (ofs (bl b3_0) (0))) (itoaS (((l)[k]'hx6_1).key)) w9_2 (Mem.focus (Ma := [[⟨.slice (bl b3_0) 1 1, 66, 2, 1, [.pointer (ofs (bl b3_0) (0)), .slice (A18_0) (((fmtL (l.take k)) ++ [(44 : UInt8)]).length) (c18_0)]⟩], [⟨.slice (A18_0) (((fmtL (l.take k)) ++ [(44 : UInt8)]).length) (c18_0), 5, 1, (((fmtL (l.take k)) ++ [(44 : UInt8)]).length), ((fmtL (l.take k)) ++ [(44 : UInt8)]).map byteV⟩]]) (rest := [[⟨.slice (bl b6_3) 1 1, 61, 2, 1, [I (((l)[k]'hx6_1).key), I (((l)[k]'hx6_1).val)]⟩]]) hM9_2 rfl) (by first | exact .inl rfl | exact .inr rfl | assumption) (by first | omega | (simp; omega))) ?_
        rintro _ w9_3 ⟨A19_3, c19_3, rfl, hR9_3⟩
        have hM9_3 : Mem w w9_3 [] [[⟨.slice (bl b3_0) 1 1, 66, 2, 1, [.pointer (ofs (bl b3_0) (0)), .slice (A19_3) ((((fmtL (l.take k)) ++ [(44 : UInt8)]) ++ (itoaS (((l)[k]'hx6_1).key))).length) (c19_3)]⟩], [⟨.slice (A19_3) ((((fmtL (l.take k)) ++ [(44 : UInt8)]) ++ (itoaS (((l)[k]'hx6_1).key))).length) (c19_3), 5, 1, ((((fmtL (l.take k)) ++ [(44 : UInt8)]) ++ (itoaS (((l)[k]'hx6_1).key))).length), (((fmtL (l.take k)) ++ [(44 : UInt8)]) ++ (itoaS (((l)[k]'hx6_1).key))).map byteV⟩], [⟨.slice (bl b6_3) 1 1, 61, 2, 1, [I (((l)[k]'hx6_1).key), I (((l)[k]'hx6_1).val)]⟩]] := Mem.call (Ma := [[⟨.slice (bl b3_0) 1 1, 66, 2, 1, [.pointer (ofs (bl b3_0) (0)), .slice (A18_0) (((fmtL (l.take k)) ++ [(44 : UInt8)]).length) (c18_0)]⟩], [⟨.slice (A18_0) (((fmtL (l.take k)) ++ [(44 : UInt8)]).length) (c18_0), 5, 1, (((fmtL (l.take k)) ++ [(44 : UInt8)]).length), ((fmtL (l.take k)) ++ [(44 : UInt8)]).map byteV⟩]]) hM9_2 hR9_3 rfl
        have hcr9_3_1 := (hM9_3.cap 1 rfl).1
        refine O.nil ?_
        refine C.seq ?_
        refine C.region ?_
        refine O.callg [.pointer (ofs (bl b3_0) (0)), .int .u8 (58)] rfl en45 rfl rfl (WriteByte_fn b3_0 A19_3 c19_3 (((fmtL (l.take k)) ++ [(44 : UInt8)]) ++ (itoaS (((l)[k]'hx6_1).key))) (.pointer (ofs (bl b3_0) (0))) (58 : UInt8) w9_3 (Mem.focus (Ma := [[⟨.slice (bl b3_0) 1 1, 66, 2, 1, [.pointer (ofs (bl b3_0) (0)), .slice (A19_3) ((((fmtL (l.take k)) ++ [(44 : UInt8)]) ++ (itoaS (((l)[k]'hx6_1).key))).length) (c19_3)]⟩], [⟨.slice (A19_3) ((((fmtL (l.take k)) ++ [(44 : UInt8)]) ++ (itoaS (((l)[k]'hx6_1).key))).length) (c19_3), 5, 1, ((((fmtL (l.take k)) ++ [(44 : UInt8)]) ++ (itoaS (((l)[k]'hx6_1).key))).length), (((fmtL (l.take k)) ++ [(44 : UInt8)]) ++ (itoaS (((l)[k]'hx6_1).key))).map byteV⟩]]) (rest := [[⟨.slice (bl b6_3) 1 1, 61, 2, 1, [I (((l)[k]'hx6_1).key), I (((l)[k]'hx6_1).val)]⟩]]) hM9_3 rfl) (by first | exact .inl rfl | exact .inr rfl | assumption) (by first | omega | (simp; omega))) ?_
        rintro _ w10_0 ⟨A110_0, c110_0, rfl, hR10_0⟩
        have hM10_0 : Mem w w10_0 [] [[⟨.slice (bl b3_0) 1 1, 66, 2, 1, [.pointer (ofs (bl b3_0) (0)), .slice (A110_0) (((((fmtL (l.take k)) ++ [(44 : UInt8)]) ++ (itoaS (((l)[k]'hx6_1).key))) ++ [(58 : UInt8)]).length) (c110_0)]⟩], [⟨.slice (A110_0) (((((fmtL (l.take k)) ++ [(44 : UInt8)]) ++ (itoaS (((l)[k]'hx6_1).key))) ++ [(58 : UInt8)]).length) (c110_0), 5, 1, (((((fmtL (l.take k)) ++ [(44 : UInt8)]) ++ (itoaS (((l)[k]'hx6_1).key))) ++ [(58 : UInt8)]).length), ((((fmtL (l.take k)) ++ [(44 : UInt8)]) ++ (itoaS (((l)[k]'hx6_1).key))) ++ [(58 : UInt8)]).map byteV⟩], [⟨.slice (bl b6_3) 1 1, 61, 2, 1, [I (((l)[k]'hx6_1).key), I (((l)[k]'hx6_1).val)]⟩]] := Mem.call (Ma := [[⟨.slice (bl b3_0) 1 1, 66, 2, 1, [.pointer (ofs (bl b3_0) (0)), .slice (A19_3) ((((fmtL (l.take k)) ++ [(44 : UInt8)]) ++ (itoaS (((l)[k]'hx6_1).key))).length) (c19_3)]⟩], [⟨.slice (A19_3) ((((fmtL (l.take k)) ++ [(44 : UInt8)]) ++ (itoaS (((l)[k]'hx6_1).key))).length) (c19_3), 5, 1, ((((fmtL (l.take k)) ++ [(44 : UInt8)]) ++ (itoaS (((l)[k]'hx6_1).key))).length), (((fmtL (l.take k)) ++ [(44 : UInt8)]) ++ (itoaS (((l)[k]'hx6_1).key))).map byteV⟩]]) hM9_3 hR10_0 rfl
        have hcr10_0_1 := (hM10_0.cap 1 rfl).1
        refine O.nil ?_
        refine C.region ?_
        refine O.val (v := .pointer (ofs (bl b6_3) (1))) rfl (Ru.fieldA fl61_1 rfl rfl) rfl ?_
        refine O.val rfl (Ru.load1 el3 rfl ((hM10_0.rd 2 rfl).ld rfl)) rfl ?_
        refine O.callg [I (((l)[k]'hx6_1).val)] rfl en47 rfl rfl (Itoa_fn (((l)[k]'hx6_1).val) w10_0 (tab_at htab hM10_0) (by first | omega | (constructor <;> omega))) ?_
        rintro _ w11_2 ⟨rfl, hR11_2⟩
        have hM11_2 : Mem w w11_2 [] [[⟨.slice (bl b3_0) 1 1, 66, 2, 1, [.pointer (ofs (bl b3_0) (0)), .slice (A110_0) (((((fmtL (l.take k)) ++ [(44 : UInt8)]) ++ (itoaS (((l)[k]'hx6_1).key))) ++ [(58 : UInt8)]).length) (c110_0)]⟩], [⟨.slice (A110_0) (((((fmtL (l.take k)) ++ [(44 : UInt8)]) ++ (itoaS (((l)[k]'hx6_1).key))) ++ [(58 : UInt8)]).length) (c110_0), 5, 1, (((((fmtL (l.take k)) ++ [(44 : UInt8)]) ++ (itoaS (((l)[k]'hx6_1).key))) ++ [(58 : UInt8)]).length), ((((fmtL (l.take k)) ++ [(44 : UInt8)]) ++ (itoaS (((l)[k]'hx6_1).key))) ++ [(58 : UInt8)]).map byteV⟩], [⟨.slice (bl b6_3) 1 1, 61, 2, 1, [I (((l)[k]'hx6_1).key), I (((l)[k]'hx6_1).val)]⟩]] := Mem.call (Ma := []) hM10_0 hR11_2 rfl
        refine O.callg [.pointer (ofs (bl b3_0) (0)), S (itoaS (((l)[k]'hx6_1).val))] rfl en46 rfl rfl (WriteString_fn b3_0 A110_0 c110_0 ((((fmtL (l.take k)) ++ [(44 : UInt8)]) ++ (itoaS (((l)[k]'hx6_1).key))) ++ [(58 : UInt8)]) (.pointer (ofs (bl b3_0) (0))) (itoaS (((l)[k]'hx6_1).val)) w11_2 (Mem.focus (Ma := [[⟨.slice (bl b3_0) 1 1, 66, 2, 1, [.pointer (ofs (bl b3_0) (0)), .slice (A110_0) (((((fmtL (l.take k)) ++ [(44 : UInt8)]) ++ (itoaS (((l)[k]'hx6_1).key))) ++ [(58 : UInt8)]).length) (c110_0)]⟩], [⟨.slice (A110_0) (((((fmtL (l.take k)) ++ [(44 : UInt8)]) ++ (itoaS (((l)[k]'hx6_1).key))) ++ [(58 : UInt8)]).length) (c110_0), 5, 1, (((((fmtL (l.take k)) ++ [(44 : UInt8)]) ++ (itoaS (((l)[k]'hx6_1).key))) ++ [(58 : UInt8)]).length), ((((fmtL (l.take k)) ++ [(44 : UInt8)]) ++ (itoaS (((l)[k]'hx6_1).key))) ++ [(58 : UInt8)]).map byteV⟩]]) (rest := [[⟨.slice (bl b6_3) 1 1, 61, 2, 1, [I (((l)[k]'hx6_1).key), I (((l)[k]'hx6_1).val)]⟩]]) hM11_2 rfl) (by first | exact .inl rfl | exact .inr rfl | assumption) (by first | omega | (simp; omega))) ?_
        rintro _ w11_3 ⟨A111_3, c111_3, rfl, hR11_3⟩
        have hM11_3 : Mem w w11_3 [] [[⟨.slice (bl b3_0) 1 1, 66, 2, 1, [.pointer (ofs (bl b3_0) (0)), .slice (A111_3) ((((((fmtL (l.take k)) ++ [(44 : UInt8)]) ++ (itoaS (((l)[k]'hx6_1).key))) ++ [(58 : UInt8)]) ++ (itoaS (((l)[k]'hx6_1).val))).length) (c111_3)]⟩], [⟨.slice (A111_3) ((((((fmtL (l.take k)) ++ [(44 : UInt8)]) ++ (itoaS (((l)[k]'hx6_1).key))) ++ [(58 : UInt8)]) ++ (itoaS (((l)[k]'hx6_1).val))).length) (c111_3), 5, 1, ((((((fmtL (l.take k)) ++ [(44 : UInt8)]) ++ (itoaS (((l)[k]'hx6_1).key))) ++ [(58 : UInt8)]) ++ (itoaS (((l)[k]'hx6_1).val))).length), (((((fmtL (l.take k)) ++ [(44 : UInt8)]) ++ (itoaS (((l)[k]'hx6_1).key))) ++ [(58 : UInt8)]) ++ (itoaS (((l)[k]'hx6_1).val))).map byteV⟩], [⟨.slice (bl b6_3) 1 1, 61, 2, 1, [I (((l)[k]'hx6_1).key), I (((l)[k]'hx6_1).val)]⟩]] := Mem.call (Ma := [[⟨.slice (bl b3_0) 1 1, 66, 2, 1, [.pointer (ofs (bl b3_0) (0)), .slice (A110_0) (((((fmtL (l.take k)) ++ [(44 : UInt8)]) ++ (itoaS (((l)[k]'hx6_1).key))) ++ [(58 : UInt8)]).length) (c110_0)]⟩], [⟨.slice (A110_0) (((((fmtL (l.take k)) ++ [(44 : UInt8)]) ++ (itoaS (((l)[k]'hx6_1).key))) ++ [(58 : UInt8)]).length) (c110_0), 5, 1, (((((fmtL (l.take k)) ++ [(44 : UInt8)]) ++ (itoaS (((l)[k]'hx6_1).key))) ++ [(58 : UInt8)]).length), ((((fmtL (l.take k)) ++ [(44 : UInt8)]) ++ (itoaS (((l)[k]'hx6_1).key))) ++ [(58 : UInt8)]).map byteV⟩]]) hM11_2 hR11_3 rfl
        have hcr11_3_1 := (hM11_3.cap 1 rfl).1
        refine O.nil ?_
        refine C.region ?_
        refine O.val (v := I ((((k + 1) : Nat) : Int))) rfl (Ru.congr (v := I ((((k : Nat) : Int) + 1))) (v' := I ((((k + 1) : Nat) : Int))) (Ru.add rfl rfl (by omega)) (I_congr (by first | omega | simp))) rfl ?_
        refine O.val (v := I ((((k + 1) : Nat) : Int))) rfl (Ru.move rfl) rfl ?_
        refine O.nil ?_
        have hq4 : (((((fmtL (l.take k)) ++ [(44 : UInt8)]) ++ (itoaS (((l)[k]'hx6_1).key))) ++ [(58 : UInt8)]) ++ (itoaS (((l)[k]'hx6_1).val)) : List UInt8) = fmtL (l.take (k + 1)) := (by rw [fmtL_take hkl]; simp [fmtP, hk0])
        have hMn4 : Mem w w11_3 [] [[⟨.slice (bl b3_0) 1 1, 66, 2, 1, [.pointer (ofs (bl b3_0) (0)), .slice (A111_3) ((((((fmtL (l.take k)) ++ [(44 : UInt8)]) ++ (itoaS (((l)[k]'hx6_1).key))) ++ [(58 : UInt8)]) ++ (itoaS (((l)[k]'hx6_1).val))).length) (c111_3)]⟩], [⟨.slice (A111_3) ((fmtL (l.take (k + 1))).length) (c111_3), 5, 1, ((fmtL (l.take (k + 1))).length), (fmtL (l.take (k + 1))).map byteV⟩], [⟨.slice (bl b6_3) 1 1, 61, 2, 1, [I (((l)[k]'hx6_1).key), I (((l)[k]'hx6_1).val)]⟩]] := hM11_3.relen 1 (n' := (fmtL (l.take (k + 1))).length) (xs' := (fmtL (l.take (k + 1))).map byteV) rfl (by first | rfl | exact congrArg List.length hq4 | (have hqq := congrArg List.length hq4; first | omega | (simp at hqq ⊢; omega)) | (simp; done) | (simp; omega)) (congrArg (fun z_ => (z_).map byteV) hq4) rfl
        have hMn5 : Mem w w11_3 [] [[⟨.slice (bl b3_0) 1 1, 66, 2, 1, [.pointer (ofs (bl b3_0) (0)), .slice (A111_3) ((fmtL (l.take (k + 1))).length) (c111_3)]⟩], [⟨.slice (A111_3) ((fmtL (l.take (k + 1))).length) (c111_3), 5, 1, ((fmtL (l.take (k + 1))).length), (fmtL (l.take (k + 1))).map byteV⟩], [⟨.slice (bl b6_3) 1 1, 61, 2, 1, [I (((l)[k]'hx6_1).key), I (((l)[k]'hx6_1).val)]⟩]] := Mem.cast hMn4 (congrArg (fun z_ : Nat => ([[⟨.slice (bl b3_0) 1 1, 66, 2, 1, [.pointer (ofs (bl b3_0) (0)), .slice (A111_3) (z_) (c111_3)]⟩], [⟨.slice (A111_3) ((fmtL (l.take (k + 1))).length) (c111_3), 5, 1, ((fmtL (l.take (k + 1))).length), (fmtL (l.take (k + 1))).map byteV⟩], [⟨.slice (bl b6_3) 1 1, 61, 2, 1, [I (((l)[k]'hx6_1).key), I (((l)[k]'hx6_1).val)]⟩]] : List (List FE))) (show (((((fmtL (l.take k)) ++ [(44 : UInt8)]) ++ (itoaS (((l)[k]'hx6_1).key))) ++ [(58 : UInt8)]) ++ (itoaS (((l)[k]'hx6_1).val))).length = (fmtL (l.take (k + 1))).length from congrArg List.length hq4))
        exact loopEnd (k + 1, (.pointer (ofs (bl b3_0) (0))), A111_3, c111_3) (by (try dsimp only); omega) (Has.cons rfl (Has.cons rfl (Has.cons rfl (Has.cons (I_congr (by first | rfl | omega | (simp; omega) | simp)) Has.nil)))) ⟨(by (try dsimp only); omega), (.inr rfl), (hMn5.pick [1, 0] (by decide) rfl)⟩
      · have hk0 : k = 0 := by omega
        refine C.skip ?_
        refine C.seq ?_
        refine C.region ?_
        refine O.val (v := .pointer (ofs (bl b6_3) (0))) rfl (Ru.fieldA fl61_0 rfl rfl) rfl ?_
        refine O.val rfl (Ru.load1 el3 rfl ((hM6_5.rd 0 rfl).ld rfl)) rfl ?_
        refine O.callg [I (((l)[k]'hx6_1).key)] rfl en47 rfl rfl (Itoa_fn (((l)[k]'hx6_1).key) w6_5 (tab_at htab hM6_5) (by first | omega | (constructor <;> omega))) ?_
        rintro _ w9_2 ⟨rfl, hR9_2⟩
        have hM9_2 : Mem w w9_2 [] [[⟨.slice (bl b6_3) 1 1, 61, 2, 1, [I (((l)[k]'hx6_1).key), I (((l)[k]'hx6_1).val)]⟩], [⟨.slice (A2) ((fmtL (l.take k)).length) (c2), 5, 1, ((fmtL (l.take k)).length), (fmtL (l.take k)).map byteV⟩], [⟨.slice (bl b3_0) 1 1, 66, 2, 1, [(pv), .slice (A2) ((fmtL (l.take k)).length) (c2)]⟩]] := Mem.call (Ma := []) hM6_5 hR9_2 rfl
        have hMf9_3 : Mem w w9_2 [] [[⟨.slice (bl b3_0) 1 1, 66, 2, 1, [(pv), .slice (A2) ((fmtL (l.take k)).length) (c2)]⟩], [⟨.slice (A2) ((fmtL (l.take k)).length) (c2), 5, 1, ((fmtL (l.take k)).length), (fmtL (l.take k)).map byteV⟩], [⟨.slice (bl b6_3) 1 1, 61, 2, 1, [I (((l)[k]'hx6_1).key), I (((l)[k]'hx6_1).val)]⟩]] := hM9_2.pick [2, 1, 0] (by decide) rfl
        refine O.callg [.pointer (ofs (bl b3_0) (0)), S (itoaS (((l)[k]'hx6_1).key))] rfl en46 rfl rfl (WriteString_fn b3_0 A2 c2 (fmtL (l.take k)) (pv) (itoaS (((l)[k]'hx6_1).key)) w9_2 (Mem.focus (Ma := [[⟨.slice (bl b3_0) 1 1, 66, 2, 1, [(pv), .slice (A2) ((fmtL (l.take k)).length) (c2)]⟩], [⟨.slice (A2) ((fmtL (l.take k)).length) (c2), 5, 1, ((fmtL (l.take k)).length), (fmtL (l.take k)).map byteV⟩]]) (rest := [[⟨.slice (bl b6_3) 1 1, 61, 2, 1, [I (((l)[k]'hx6_1).key), I (((l)[k]'hx6_1).val)]⟩]]) hMf9_3 rfl) (by first | exact .inl rfl | exact .inr rfl | assumption) (by first | omega | (simp; omega))) ?_
        rintro _ w9_3 ⟨A19_3, c19_3, rfl, hR9_3⟩
        have hM9_3 : Mem w w9_3 [] [[⟨.slice (bl b3_0) 1 1, 66, 2, 1, [.pointer (ofs (bl b3_0) (0)), .slice (A19_3) (((fmtL (l.take k)) ++ (itoaS (((l)[k]'hx6_1).key))).length) (c19_3)]⟩], [⟨.slice (A19_3) (((fmtL (l.take k)) ++ (itoaS (((l)[k]'hx6_1).key))).length) (c19_3), 5, 1, (((fmtL (l.take k)) ++ (itoaS (((l)[k]'hx6_1).key))).length), ((fmtL (l.take k)) ++ (itoaS (((l)[k]'hx6_1).key))).map byteV⟩], [⟨.slice (bl b6_3) 1 1, 61, 2, 1, [I (((l)[k]'hx6_1).key), I (((l)[k]'hx6_1).val)]⟩]] := Mem.call (Ma := [[⟨.slice (bl b3_0) 1 1, 66, 2, 1, [(pv), .slice (A2) ((fmtL (l.take k)).length) (c2)]⟩], [⟨.slice (A2) ((fmtL (l.take k)).length) (c2), 5, 1, ((fmtL (l.take k)).length), (fmtL (l.take k)).map byteV⟩]]) hMf9_3 hR9_3 rfl
        have hcr9_3_1 := (hM9_3.cap 1 rfl).1
        refine O.nil ?_
        refine C.seq ?_
        refine C.region ?_
        refine O.callg [.pointer (ofs (bl b3_0) (0)), .int .u8 (58)] rfl en45 rfl rfl (WriteByte_fn b3_0 A19_3 c19_3 ((fmtL (l.take k)) ++ (itoaS (((l)[k]'hx6_1).key))) (.pointer (ofs (bl b3_0) (0))) (58 : UInt8) w9_3 (Mem.focus (Ma := [[⟨.slice (bl b3_0) 1 1, 66, 2, 1, [.pointer (ofs (bl b3_0) (0)), .slice (A19_3) (((fmtL (l.take k)) ++ (itoaS (((l)[k]'hx6_1).key))).length) (c19_3)]⟩], [⟨.slice (A19_3) (((fmtL (l.take k)) ++ (itoaS (((l)[k]'hx6_1).key))).length) (c19_3), 5, 1, (((fmtL (l.take k)) ++ (itoaS (((l)[k]'hx6_1).key))).length), ((fmtL (l.take k)) ++ (itoaS (((l)[k]'hx6_1).key))).map byteV⟩]]) (rest := [[⟨.slice (bl b6_3) 1 1, 61, 2, 1, [I (((l)[k]'hx6_1).key), I (((l)[k]'hx6_1).val)]⟩]]) hM9_3 rfl) (by first | exact .inl rfl | exact .inr rfl | assumption) (by first | omega | (simp; omega))) ?_
        rintro _ w10_0 ⟨A110_0, c110_0, rfl, hR10_0⟩
        have hM10_0 : Mem w w10_0 [] [[⟨.slice (bl b3_0) 1 1, 66, 2, 1, [.pointer (ofs (bl b3_0) (0)), .slice (A110_0) ((((fmtL (l.take k)) ++ (itoaS (((l)[k]'hx6_1).key))) ++ [(58 : UInt8)]).length) (c110_0)]⟩], [⟨.slice (A110_0) ((((fmtL (l.take k)) ++ (itoaS (((l)[k]'hx6_1).key))) ++ [(58 : UInt8)]).length) (c110_0), 5, 1, ((((fmtL (l.take k)) ++ (itoaS (((l)[k]'hx6_1).key))) ++ [(58 : UInt8)]).length), (((fmtL (l.take k)) ++ (itoaS (((l)[k]'hx6_1).key))) ++ [(58 : UInt8)]).map byteV⟩], [⟨.slice (bl b6_3) 1 1, 61, 2, 1, [I (((l)[k]'hx6_1).key), I (((l)[k]'hx6_1).val)]⟩]] := Mem.call (Ma := [[⟨.slice (bl b3_0) 1 1, 66, 2, 1, [.pointer (ofs (bl b3_0) (0)), .slice (A19_3) (((fmtL (l.take k)) ++ (itoaS (((l)[k]'hx6_1).key))).length) (c19_3)]⟩], [⟨.slice (A19_3) (((fmtL (l.take k)) ++ (itoaS (((l)[k]'hx6_1).key))).length) (c19_3), 5, 1, (((fmtL (l.take k)) ++ (itoaS (((l)[k]'hx6_1).key))).length), ((fmtL (l.take k)) ++ (itoaS (((l)[k]'hx6_1).key))).map byteV⟩]]) hM9_3 hR10_0 rfl
        have hcr10_0_1 := (hM10_0.cap 1 rfl).1
        refine O.nil ?_
        refine C.region ?_
        refine O.val (v := .pointer (ofs (bl b6_3) (1))) rfl (Ru.fieldA fl61_1 rfl rfl) rfl ?_
        refine O.val rfl (Ru.load1 el3 rfl ((hM10_0.rd 2 rfl).ld rfl)) rfl ?_
        refine O.callg [I (((l)[k]'hx6_1).val)] rfl en47 rfl rfl (Itoa_fn (((l)[k]'hx6_1).val) w10_0 (tab_at htab hM10_0) (by first | omega | (constructor <;> omega))) ?_
        rintro _ w11_2 ⟨rfl, hR11_2⟩
        have hM11_2 : Mem w w11_2 [] [[⟨.slice (bl b3_0) 1 1, 66, 2, 1, [.pointer (ofs (bl b3_0) (0)), .slice (A110_0) ((((fmtL (l.take k)) ++ (itoaS (((l)[k]'hx6_1).key))) ++ [(58 : UInt8)]).length) (c110_0)]⟩], [⟨.slice (A110_0) ((((fmtL (l.take k)) ++ (itoaS (((l)[k]'hx6_1).key))) ++ [(58 : UInt8)]).length) (c110_0), 5, 1, ((((fmtL (l.take k)) ++ (itoaS (((l)[k]'hx6_1).key))) ++ [(58 : UInt8)]).length), (((fmtL (l.take k)) ++ (itoaS (((l)[k]'hx6_1).key))) ++ [(58 : UInt8)]).map byteV⟩], [⟨.slice (bl b6_3) 1 1, 61, 2, 1, [I (((l)[k]'hx6_1).key), I (((l)[k]'hx6_1).val)]⟩]] := Mem.call (Ma := []) hM10_0 hR11_2 rfl
        refine O.callg [.pointer (ofs (bl b3_0) (0)), S (itoaS (((l)[k]'hx6_1).val))] rfl en46 rfl rfl (WriteString_fn b3_0 A110_0 c110_0 (((fmtL (l.take k)) ++ (itoaS (((l)[k]'hx6_1).key))) ++ [(58 : UInt8)]) (.pointer (ofs (bl b3_0) (0))) (itoaS (((l)[k]'hx6_1).val)) w11_2 (Mem.focus (Ma := [[⟨.slice (bl b3_0) 1 1, 66, 2, 1, [.pointer (ofs (bl b3_0) (0)), .slice (A110_0) ((((fmtL (l.take k)) ++ (itoaS (((l)[k]'hx6_1).key))) ++ [(58 : UInt8)]).length) (c110_0)]⟩], [⟨.slice (A110_0) ((((fmtL (l.take k)) ++ (itoaS (((l)[k]'hx6_1).key))) ++ [(58 : UInt8)]).length) (c110_0), 5, 1, ((((fmtL (l.take k)) ++ (itoaS (((l)[k]'hx6_1).key))) ++ [(58 : UInt8)]).length), (((fmtL (l.take k)) ++ (itoaS (((l)[k]'hx6_1).key))) ++ [(58 : UInt8)]).map byteV⟩]]) (rest := [[⟨.slice (bl b6_3) 1 1, 61, 2, 1, [I (((l)[k]'hx6_1).key), I (((l)[k]'hx6_1).val)]⟩]]) hM11_2 rfl) (by first | exact .inl rfl | exact .inr rfl | assumption) (by first | omega | (simp; omega))) ?_
        rintro _ w11_3 ⟨A111_3, c111_3, rfl, hR11_3⟩
        have hM11_3 : Mem w w11_3 [] [[⟨.slice (bl b3_0) 1 1, 66, 2, 1, [.pointer (ofs (bl b3_0) (0)), .slice (A111_3) (((((fmtL (l.take k)) ++ (itoaS (((l)[k]'hx6_1).key))) ++ [(58 : UInt8)]) ++ (itoaS (((l)[k]'hx6_1).val))).length) (c111_3)]⟩], [⟨.slice (A111_3) (((((fmtL (l.take k)) ++ (itoaS (((l)[k]'hx6_1).key))) ++ [(58 : UInt8)]) ++ (itoaS (((l)[k]'hx6_1).val))).length) (c111_3), 5, 1, (((((fmtL (l.take k)) ++ (itoaS (((l)[k]'hx6_1).key))) ++ [(58 : UInt8)]) ++ (itoaS (((l)[k]'hx6_1).val))).length), ((((fmtL (l.take k)) ++ (itoaS (((l)[k]'hx6_1).key))) ++ [(58 : UInt8)]) ++ (itoaS (((l)[k]'hx6_1).val))).map byteV⟩], [⟨.slice (bl b6_3) 1 1, 61, 2, 1, [I (((l)[k]'hx6_1).key), I (((l)[k]'hx6_1).val)]⟩]] := Mem.call (Ma := [[⟨.slice (bl b3_0) 1 1, 66, 2, 1, [.pointer (ofs (bl b3_0) (0)), .slice (A110_0) ((((fmtL (l.take k)) ++ (itoaS (((l)[k]'hx6_1).key))) ++ [(58 : UInt8)]).length) (c110_0)]⟩], [⟨.slice (A110_0) ((((fmtL (l.take k)) ++ (itoaS (((l)[k]'hx6_1).key))) ++ [(58 : UInt8)]).length) (c110_0), 5, 1, ((((fmtL (l.take k)) ++ (itoaS (((l)[k]'hx6_1).key))) ++ [(58 : UInt8)]).length), (((fmtL (l.take k)) ++ (itoaS (((l)[k]'hx6_1).key))) ++ [(58 : UInt8)]).map byteV⟩]]) hM11_2 hR11_3 rfl
        have hcr11_3_1 := (hM11_3.cap 1 rfl).1
        refine O.nil ?_
        refine C.region ?_
        refine O.val (v := I ((((k + 1) : Nat) : Int))) rfl (Ru.congr (v := I ((((k : Nat) : Int) + 1))) (v' := I ((((k + 1) : Nat) : Int))) (Ru.add rfl rfl (by omega)) (I_congr (by first | omega | simp))) rfl ?_
        refine O.val (v := I ((((k + 1) : Nat) : Int))) rfl (Ru.move rfl) rfl ?_
        refine O.nil ?_
        have hq6 : ((((fmtL (l.take k)) ++ (itoaS (((l)[k]'hx6_1).key))) ++ [(58 : UInt8)]) ++ (itoaS (((l)[k]'hx6_1).val)) : List UInt8) = fmtL (l.take (k + 1)) := (by rw [fmtL_take hkl]; simp [fmtP, hk0])
        have hMn6 : Mem w w11_3 [] [[⟨.slice (bl b3_0) 1 1, 66, 2, 1, [.pointer (ofs (bl b3_0) (0)), .slice (A111_3) (((((fmtL (l.take k)) ++ (itoaS (((l)[k]'hx6_1).key))) ++ [(58 : UInt8)]) ++ (itoaS (((l)[k]'hx6_1).val))).length) (c111_3)]⟩], [⟨.slice (A111_3) ((fmtL (l.take (k + 1))).length) (c111_3), 5, 1, ((fmtL (l.take (k + 1))).length), (fmtL (l.take (k + 1))).map byteV⟩], [⟨.slice (bl b6_3) 1 1, 61, 2, 1, [I (((l)[k]'hx6_1).key), I (((l)[k]'hx6_1).val)]⟩]] := hM11_3.relen 1 (n' := (fmtL (l.take (k + 1))).length) (xs' := (fmtL (l.take (k + 1))).map byteV) rfl (by first | rfl | exact congrArg List.length hq6 | (have hqq := congrArg List.length hq6; first | omega | (simp at hqq ⊢; omega)) | (simp; done) | (simp; omega)) (congrArg (fun z_ => (z_).map byteV) hq6) rfl
        have hMn7 : Mem w w11_3 [] [[⟨.slice (bl b3_0) 1 1, 66, 2, 1, [.pointer (ofs (bl b3_0) (0)), .slice (A111_3) ((fmtL (l.take (k + 1))).length) (c111_3)]⟩], [⟨.slice (A111_3) ((fmtL (l.take (k + 1))).length) (c111_3), 5, 1, ((fmtL (l.take (k + 1))).length), (fmtL (l.take (k + 1))).map byteV⟩], [⟨.slice (bl b6_3) 1 1, 61, 2, 1, [I (((l)[k]'hx6_1).key), I (((l)[k]'hx6_1).val)]⟩]] := Mem.cast hMn6 (congrArg (fun z_ : Nat => ([[⟨.slice (bl b3_0) 1 1, 66, 2, 1, [.pointer (ofs (bl b3_0) (0)), .slice (A111_3) (z_) (c111_3)]⟩], [⟨.slice (A111_3) ((fmtL (l.take (k + 1))).length) (c111_3), 5, 1, ((fmtL (l.take (k + 1))).length), (fmtL (l.take (k + 1))).map byteV⟩], [⟨.slice (bl b6_3) 1 1, 61, 2, 1, [I (((l)[k]'hx6_1).key), I (((l)[k]'hx6_1).val)]⟩]] : List (List FE))) (show ((((fmtL (l.take k)) ++ (itoaS (((l)[k]'hx6_1).key))) ++ [(58 : UInt8)]) ++ (itoaS (((l)[k]'hx6_1).val))).length = (fmtL (l.take (k + 1))).length from congrArg List.length hq6))
        exact loopEnd (k + 1, (.pointer (ofs (bl b3_0) (0))), A111_3, c111_3) (by (try dsimp only); omega) (Has.cons rfl (Has.cons rfl (Has.cons rfl (Has.cons (I_congr (by first | rfl | omega | (simp; omega) | simp)) Has.nil)))) ⟨(by (try dsimp only); omega), (.inr rfl), (hMn7.pick [1, 0] (by decide) rfl)⟩
    · refine C.exit ?_
      refine C.seq ?_
      refine C.region ?_
      refine O.callg [.pointer (ofs (bl b3_0) (0))] rfl en48 rfl rfl (String_fn (l := fmtL (l.take k)) w_l5 hM_l5.size (hM_l5.builder 1 0 rfl rfl (by exact hi1_l5))) ?_
      rintro _ w13_0 ⟨rfl, hB13_0⟩
      have hM13_0 : Mem w w13_0 [] [] := mem_below hM_l5 hB13_0
      refine O.val (v := S (fmtL (l.take k))) rfl (Ru.assign rfl) rfl ?_
      refine O.nil ?_
      refine C.ret ?_
      refine P1 (v := S (fmtL (l.take k))) rfl ?_
      exact ⟨(congrArg S (by rw [fmtR_yes hv, take_all (by omega)])), (Mem.none hM13_0)⟩

theorem DrawFormatRow_fn (A : Option Addr) (c : Nat) (l : List UInt8) (w : World) (hA : Rd w A ((l).map byteV)) (hl : l.length ≤ 1048576) (hc : l.length ≤ c) :
    Does Tryd.prog 18 [.slice (A) ((l).length) (c)] w (fun v w1 => ∃ (l1 : List PairT) (A1 : Option Addr) (c1 : Nat), v = .slice (A1) ((l1).length) (c1) ∧ (l1.length ≤ 26) ∧ Mem w w1 [] [[⟨.slice (A1) ((l1).length) (c1), 61, 2, ((l1).length), (l1).flatMap encP⟩]]) := by
  have hM : Mem w w [] [] := Mem.refl
  refine Does.enter1 Tryd.func18 rfl Tryd.results18 Tryd.ntmps18 rfl ?_
  refine C.seq ?_
  refine C.region ?_
  refine O.val (v := .slice (none) (0) (0)) rfl (Ru.assign rfl) rfl ?_
  refine O.nil ?_
  refine C.seq ?_
  refine C.region ?_
  refine O.val (v := .slice (A) ((l).length) (c)) rfl (Ru.move rfl) rfl ?_
  refine O.callg [.slice (A) ((l).length) (c)] rfl en51 rfl rfl (newReader_fn A c l w (hA.at hM) (by first | omega | assumption | (simp; omega) | simp | (intros; omega)) (by first | omega | assumption | (simp; omega) | simp | (intros; omega))) ?_
  rintro _ w1_1 ⟨gr1_1, l11_1, rfl, hl11_1, hlen1_1, hR1_1⟩
  have hM1_1 : Mem w w1_1 [] [[⟨.slice (bl gr1_1) 1 1, 105, 2, 1, [.slice (A) ((l11_1).length) (c), I (((0 : Nat) : Int))]⟩]] := Mem.call (Ma := []) hM hR1_1 rfl
  have hrA : Rd w A (List.map byteV l11_1) := by rcases hl11_1 with h | h <;> rw [h]; exact hA; exact rd_take1 hA
  have hrl := hlen1_1
  refine O.callg [.pointer (ofs (bl gr1_1) (0))] rfl en50 rfl rfl (anyRow_fn gr1_1 A c l11_1 0 w1_1 (hrA.at hM1_1) (Mem.ng_old hM1_1 hrA 0 rfl) hrl (Mem.focus (Ma := [[⟨.slice (bl gr1_1) 1 1, 105, 2, 1, [.slice (A) ((l11_1).length) (c), I (((0 : Nat) : Int))]⟩]]) (rest := []) hM1_1 rfl) (by first | omega | assumption | (simp; omega) | simp | (intros; omega))) ?_
  rintro _ w1_2 ⟨l11_2, A11_2, c11_2, q11_2, rfl, hl1_2, hq1_2, hR1_2⟩
  have hM1_2 : Mem w w1_2 [] [[⟨.slice (bl gr1_1) 1 1, 105, 2, 1, [.slice (A) ((l11_1).length) (c), I (((q11_2 : Nat) : Int))]⟩], [⟨.slice (A11_2) ((l11_2).length) (c11_2), 61, 2, ((l11_2).length), (l11_2).flatMap encP⟩]] := Mem.call (Ma := [[⟨.slice (bl gr1_1) 1 1, 105, 2, 1, [.slice (A) ((l11_1).length) (c), I (((0 : Nat) : Int))]⟩]]) hM1_1 hR1_2 rfl
  have hcr1_2_1 := (hM1_2.cap 1 rfl).1
  refine O.val (v := .slice (A11_2) ((l11_2).length) (c11_2)) rfl (Ru.assign rfl) rfl ?_
  refine O.nil ?_
  refine C.ret ?_
  refine P1 (v := .slice (A11_2) ((l11_2).length) (c11_2)) rfl ?_
  exact ⟨l11_2, A11_2, c11_2, (by first | rfl | exact sl_congr (by first | omega | (simp; done) | (simp; omega)) | (simp; done)), (by omega), (hM1_2.pick [1] (by decide) rfl)⟩
end Go.Proofs.YtfdlmimgooeioaaDoor
