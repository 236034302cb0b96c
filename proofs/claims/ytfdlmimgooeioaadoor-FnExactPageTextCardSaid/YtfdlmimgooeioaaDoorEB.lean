/- Own layer: part of this seat (EB). Plain theorems; no conditions. -/
import Derived.Test.YtfdlmimgooeioaaDoorEA
set_option linter.unusedVariables false
set_option linter.unusedSimpArgs false
namespace Go.Proofs.YtfdlmimgooeioaaDoor
open Go.Px
theorem sput_fn (A : Option Addr) (c : Nat) (l : List PairT) (x : PairT) (w : World) (hA : Rd w A ((l).flatMap encP)) (hl : l.length ≤ 1048576) (ha : asc (keysP l) = true) (hc : l.length ≤ c) :
    Does Tryd.prog 108 [.slice (A) ((l).length) (c), .agg #[I ((x).key), I ((x).val)]] w (fun v w1 => ∃ (A1 : Option Addr) (c1 : Nat), v = .slice (A1) ((putP l x).length) (c1) ∧ Mem w w1 [] [[⟨.slice (A1) ((putP l x).length) (c1), 61, 2, ((putP l x).length), (putP l x).flatMap encP⟩]]) := by
  have hM : Mem w w [] [] := Mem.refl
  refine Does.enter1 Tryd.func108 rfl Tryd.results108 Tryd.ntmps108 rfl ?_
  refine C.seq ?_
  refine C.region ?_
  refine O.mbox (k := 2) (vs := [I ((x).key), I ((x).val)]) hM rfl rfl rfl rfl rfl (fun w0_0 b0_0 hb0_0 (hM0_0 : Mem w w0_0 [] [[⟨.slice (bl b0_0) 1 1, 61, 2, 1, [I ((x).key), I ((x).val)]⟩]]) => ?_)
  refine O.val (v := .slice (none) (0) (0)) rfl (Ru.assign rfl) rfl ?_
  refine O.nil ?_
  refine C.cut (ι := Unit) (fun _u => ([(0, .slice (A) ((l).length) (c)), (3, .pointer (ofs (bl b0_0) (0))), (5, I (((plc l x.key : Nat) : Int)))] : List (Nat × Value))) (fun _u w_ => (Mem w w_ [] [[⟨.slice (bl b0_0) 1 1, 61, 2, 1, [I ((x).key), I ((x).val)]⟩]])) ?_ (fun _ σ w_r1 hI => ?_)
  · refine C.any (f := 6) (ls := [false, false, false, false, false, false]) (fun w2 => Mem w w2 [] [[⟨.slice (bl b0_0) 1 1, 61, 2, 1, [I ((x).key), I ((x).val)]⟩]]) mixed rfl rfl (fun w2 hw2 => Mem0.ext (hM0_0.pick [0] (by decide) rfl) hw2) (fun w1a hE1a => ?_)
    have hM1a : Mem w w1a [] [[⟨.slice (bl b0_0) 1 1, 61, 2, 1, [I ((x).key), I ((x).val)]⟩]] := Mem0.ext hM0_0 hE1a
    refine AO.val (v := .slice (A) ((l).length) (c)) 0 (ls' := [true, false, false, false, false, false]) rfl (by kernel_rfl) rfl rfl (fun w2 hw2 => Ru.move rfl) rfl ?_
    refine AO.val (v := .pointer (ofs (bl b0_0) (0))) 2 (ls' := [true, false, true, false, false, false]) rfl (by kernel_rfl) rfl rfl (fun w2 hw2 => Ru.fieldA fl61_0 rfl rfl) rfl ?_
    refine AO.val (v := I ((x).key)) 3 (ls' := [true, false, true, true, false, false]) rfl (by kernel_rfl) rfl rfl (fun w2 hw2 => Ru.load1 el3 rfl ((hw2.rd 0 rfl).ld rfl)) rfl ?_
    refine AO.one 1 (by kernel_rfl) ?_
    refine step1 (ls' := [true, true, true, true, false, false]) rfl rfl ?_
    refine O.callg [.slice (A) ((l).length) (c)] rfl en81 rfl rfl (skeysOf_fn A c l w1a (hA.at hM1a) (by first | omega | assumption | (simp; omega) | simp | (intros; omega))) ?_
    rintro _ w1_1 ⟨A11_1, c11_1, rfl, hR1_1⟩
    have hM1_1 : Mem w w1_1 [] [[⟨.slice (A11_1) ((keysP l).length) (c11_1), 3, 1, ((keysP l).length), (keysP l).map I⟩], [⟨.slice (bl b0_0) 1 1, 61, 2, 1, [I ((x).key), I ((x).val)]⟩]] := Mem.call (Ma := []) hM1a hR1_1 rfl
    have hcr1_1_0 := (hM1_1.cap 0 rfl).1
    refine O.stop (hM1_1.pick [1] (by decide) rfl) ?_
    refine AO.one 4 (by kernel_rfl) ?_
    refine step1 (ls' := [true, true, true, true, true, false]) rfl rfl ?_
    refine O.callg [.slice (A11_1) ((keysP l).length) (c11_1), I ((x).key)] rfl en125 rfl rfl (sbelow_fn A11_1 c11_1 (keysP l) ((x).key) w1_1 (hM1_1.rd 0 rfl) (by first | omega | assumption | (simp; omega) | simp | (intros; omega))) ?_
    rintro _ w1_4 ⟨rfl, hR1_4⟩
    have hM1_4 : Mem w w1_4 [] [[⟨.slice (A11_1) ((keysP l).length) (c11_1), 3, 1, ((keysP l).length), (keysP l).map I⟩], [⟨.slice (bl b0_0) 1 1, 61, 2, 1, [I ((x).key), I ((x).val)]⟩]] := Mem.call (Ma := []) hM1_1 hR1_4 rfl
    refine O.stop (hM1_4.pick [1] (by decide) rfl) ?_
    refine AO.val (v := I ((below (keysP l) ((x).key) : Int))) 5 (ls' := [true, true, true, true, true, true]) rfl (by kernel_rfl) rfl rfl (fun w2 hw2 => Ru.assign rfl) rfl ?_
    refine AO.nil (by kernel_rfl) ?_
    exact cutEnd () (Has.cons rfl (Has.cons rfl (Has.cons (I_congr (by first | rfl | omega | (simp; omega) | simp)) Has.nil))) (hM1_4.pick [1] (by decide) rfl)
  · try dsimp only at hI
    have hM_r1 := hI
    have hpl := plc_le l x.key
    refine C.cut (ι := (Option Addr) × Nat) (fun x_ => ([(0, .slice (A) ((l).length) (c)), (3, .pointer (ofs (bl b0_0) (0))), (5, I (((plc l x.key : Nat) : Int))), (6, .slice (x_.1) ((l.take (plc l x.key) ++ [x]).length) (x_.2))] : List (Nat × Value))) (fun x_ w_ => (Mem w w_ [] [[⟨.slice (bl b0_0) 1 1, 61, 2, 1, [I ((x).key), I ((x).val)]⟩], [⟨.slice (x_.1) ((l.take (plc l x.key) ++ [x]).length) (x_.2), 61, 2, ((l.take (plc l x.key) ++ [x]).length), (l.take (plc l x.key) ++ [x]).flatMap encP⟩]])) ?_ (fun ⟨A2, c2⟩ σ w_r2 hI => ?_)
    · refine C.any (f := 8) (ls := [false, false, false, false, false, false, false, false]) (fun w2 => Mem w w2 [] [[⟨.slice (bl b0_0) 1 1, 61, 2, 1, [I ((x).key), I ((x).val)]⟩]]) mixed rfl rfl (fun w2 hw2 => Mem0.ext (hM_r1.pick [0] (by decide) rfl) hw2) (fun w2a hE2a => ?_)
      have hM2a : Mem w w2a [] [[⟨.slice (bl b0_0) 1 1, 61, 2, 1, [I ((x).key), I ((x).val)]⟩]] := Mem0.ext hM_r1 hE2a
      refine AO.val (v := .slice (A) ((l).length) (c)) 0 (ls' := [true, false, false, false, false, false, false, false]) rfl (by kernel_rfl) rfl rfl (fun w2 hw2 => Ru.move rfl) rfl ?_
      refine AO.val (v := I (((plc l x.key : Nat) : Int))) 1 (ls' := [true, true, false, false, false, false, false, false]) rfl (by kernel_rfl) rfl rfl (fun w2 hw2 => Ru.move rfl) rfl ?_
      refine AO.val (v := .slice (A) (((l).take (plc l x.key)).length) (c)) 2 (ls' := [true, true, true, false, false, false, false, false]) rfl (by kernel_rfl) rfl rfl (fun w2 hw2 => Ru.congr (v := .slice (A) (plc l x.key) (c)) (v' := .slice (A) (((l).take (plc l x.key)).length) (c)) (Ru.lsliceTo (h := plc l x.key) Tryd.underlying25 el61 rfl rfl (by omega) (by omega)) (sl_congr (by first | rfl | (simp; done) | omega | (simp; omega)))) rfl ?_
      refine AO.val (v := .agg #[I ((x).key), I ((x).val)]) 4 (ls' := [true, true, true, false, true, false, false, false]) rfl (by kernel_rfl) rfl rfl (fun w2 hw2 => Ru.loadN (vs := [I ((x).key), I ((x).val)]) el61 rfl rfl rfl ((mem_blk (i := 0) (j := 0) hw2 rfl rfl).lds (k := 0) rfl)) rfl ?_
      refine AO.two 3 5 (by kernel_rfl) ?_ ?_
      · refine step1 (ls' := [true, true, true, true, true, false, false, false]) rfl rfl ?_
        refine O.callg [.slice (A) (((l).take (plc l x.key)).length) (c)] rfl en126 rfl rfl (scopyRow_fn A c ((l).take (plc l x.key)) w2a (rd_takeN encP_len (hA.at hM2a)) (by first | omega | assumption | (simp; omega) | simp | (intros; omega))) ?_
        rintro _ w2_3 ⟨A12_3, c12_3, rfl, hR2_3⟩
        have hM2_3 : Mem w w2_3 [] [[⟨.slice (A12_3) ((((l).take (plc l x.key))).length) (c12_3), 61, 2, ((((l).take (plc l x.key))).length), (((l).take (plc l x.key))).flatMap encP⟩], [⟨.slice (bl b0_0) 1 1, 61, 2, 1, [I ((x).key), I ((x).val)]⟩]] := Mem.call (Ma := []) hM2a hR2_3 rfl
        have hcr2_3_0 := (hM2_3.cap 0 rfl).1
        refine O.stop (hM2_3.pick [1] (by decide) rfl) ?_
        refine AO.one 5 (by kernel_rfl) ?_
        refine step1 (ls' := [true, true, true, true, true, true, false, false]) rfl rfl ?_
        refine O.mlit (sz := 2) (cs := [I ((x).key), I ((x).val)]) hM2_3 rfl Tryd.underlying25 el61 rfl rfl rfl (by kernel_rfl) (by kernel_rfl) rfl rfl (fun w2_5 b2_5 hb2_5 (hM2_5 : Mem w w2_5 [] [[⟨.slice (bl b2_5) (1) (1), 61, 2, 1, ([x]).flatMap encP⟩], [⟨.slice (A12_3) ((((l).take (plc l x.key))).length) (c12_3), 61, 2, ((((l).take (plc l x.key))).length), (((l).take (plc l x.key))).flatMap encP⟩], [⟨.slice (bl b0_0) 1 1, 61, 2, 1, [I ((x).key), I ((x).val)]⟩]]) => ?_)
        refine O.stop (hM2_5.pick [2] (by decide) rfl) ?_
        refine AO.one 6 (by kernel_rfl) ?_
        refine step1 (ls' := [true, true, true, true, true, true, true, false]) rfl rfl ?_
        refine O.mappend (sz := 2) (news := ([x]).flatMap encP) (m1 := (((l).take (plc l x.key)) ++ [x]).length) (xs1 := (((l).take (plc l x.key)) ++ [x]).flatMap encP) (M' := fun A2_6 c2_6 => [[⟨.slice (bl b2_5) (1) (1), 61, 2, 1, ([x]).flatMap encP⟩], [⟨.slice (A2_6) ((((l).take (plc l x.key)) ++ [x]).length) (c2_6), 61, 2, ((((l).take (plc l x.key)) ++ [x]).length), (((l).take (plc l x.key)) ++ [x]).flatMap encP⟩], [⟨.slice (bl b0_0) 1 1, 61, 2, 1, [I ((x).key), I ((x).val)]⟩]]) 1 0 hM2_5 rfl rfl rfl Tryd.underlying25 el61 ⟨rfl, by decide⟩ rfl rfl rfl (hM2_5.rd 0 rfl) (by rw [flat_len encP_len]; first | done | (simp; done) | (simp; omega)) (all_flat_one (fun _ => rfl) _) (by first | omega | (simp; omega)) (by first | omega | (simp; omega)) (by first | (simp; done) | (simp; omega)) (by simp) (fun _ _ => rfl) (fun w2_6 A2_6 c2_6 hc2_6 hM2_6 => ?_)
        try dsimp only at hM2_6
        refine O.stop (hM2_6.pick [2] (by decide) rfl) ?_
        refine AO.val (v := .slice (A2_6) ((((l).take (plc l x.key)) ++ [x]).length) (c2_6)) 7 (ls' := [true, true, true, true, true, true, true, true]) rfl (by kernel_rfl) rfl rfl (fun w2 hw2 => Ru.assign rfl) rfl ?_
        refine AO.nil (by kernel_rfl) ?_
        have hq1 : (((l).take (plc l x.key)) ++ [x] : List PairT) = l.take (plc l x.key) ++ [x] := (by first | rfl | simp | (simp; omega))
        have hMn1 : Mem w w2_6 [] [[⟨.slice (bl b2_5) (1) (1), 61, 2, 1, ([x]).flatMap encP⟩], [⟨.slice (A2_6) ((l.take (plc l x.key) ++ [x]).length) (c2_6), 61, 2, ((l.take (plc l x.key) ++ [x]).length), (l.take (plc l x.key) ++ [x]).flatMap encP⟩], [⟨.slice (bl b0_0) 1 1, 61, 2, 1, [I ((x).key), I ((x).val)]⟩]] := hM2_6.relen 1 (n' := (l.take (plc l x.key) ++ [x]).length) (xs' := (l.take (plc l x.key) ++ [x]).flatMap encP) rfl (by first | rfl | exact congrArg List.length hq1 | (have hqq := congrArg List.length hq1; first | omega | (simp at hqq ⊢; omega)) | (simp; done) | (simp; omega)) (congrArg (fun z_ => (z_).flatMap encP) hq1) rfl
        exact cutEnd (A2_6, c2_6) (Has.cons rfl (Has.cons rfl (Has.cons rfl (Has.cons (sl_congr (by first | rfl | omega | (simp; done) | (simp; omega) | exact congrArg List.length hq1 | (simp [← hq1]; done) | (simp [← hq1]; omega))) Has.nil)))) (hMn1.pick [2, 1] (by decide) rfl)
      · refine step1 (ls' := [true, true, true, false, true, true, false, false]) rfl rfl ?_
        refine O.mlit (sz := 2) (cs := [I ((x).key), I ((x).val)]) hM2a rfl Tryd.underlying25 el61 rfl rfl rfl (by kernel_rfl) (by kernel_rfl) rfl rfl (fun w2_5 b2_5 hb2_5 (hM2_5 : Mem w w2_5 [] [[⟨.slice (bl b2_5) (1) (1), 61, 2, 1, ([x]).flatMap encP⟩], [⟨.slice (bl b0_0) 1 1, 61, 2, 1, [I ((x).key), I ((x).val)]⟩]]) => ?_)
        refine O.stop (hM2_5.pick [1] (by decide) rfl) ?_
        refine AO.one 3 (by kernel_rfl) ?_
        refine step1 (ls' := [true, true, true, true, true, true, false, false]) rfl rfl ?_
        refine O.callg [.slice (A) (((l).take (plc l x.key)).length) (c)] rfl en126 rfl rfl (scopyRow_fn A c ((l).take (plc l x.key)) w2_5 (rd_takeN encP_len (hA.at hM2_5)) (by first | omega | assumption | (simp; omega) | simp | (intros; omega))) ?_
        rintro _ w2_3 ⟨A12_3, c12_3, rfl, hR2_3⟩
        have hM2_3 : Mem w w2_3 [] [[⟨.slice (A12_3) ((((l).take (plc l x.key))).length) (c12_3), 61, 2, ((((l).take (plc l x.key))).length), (((l).take (plc l x.key))).flatMap encP⟩], [⟨.slice (bl b2_5) (1) (1), 61, 2, 1, ([x]).flatMap encP⟩], [⟨.slice (bl b0_0) 1 1, 61, 2, 1, [I ((x).key), I ((x).val)]⟩]] := Mem.call (Ma := []) hM2_5 hR2_3 rfl
        have hcr2_3_0 := (hM2_3.cap 0 rfl).1
        refine O.stop (hM2_3.pick [2] (by decide) rfl) ?_
        refine AO.one 6 (by kernel_rfl) ?_
        refine step1 (ls' := [true, true, true, true, true, true, true, false]) rfl rfl ?_
        refine O.mappend (sz := 2) (news := ([x]).flatMap encP) (m1 := (((l).take (plc l x.key)) ++ [x]).length) (xs1 := (((l).take (plc l x.key)) ++ [x]).flatMap encP) (M' := fun A2_6 c2_6 => [[⟨.slice (A2_6) ((((l).take (plc l x.key)) ++ [x]).length) (c2_6), 61, 2, ((((l).take (plc l x.key)) ++ [x]).length), (((l).take (plc l x.key)) ++ [x]).flatMap encP⟩], [⟨.slice (bl b2_5) (1) (1), 61, 2, 1, ([x]).flatMap encP⟩], [⟨.slice (bl b0_0) 1 1, 61, 2, 1, [I ((x).key), I ((x).val)]⟩]]) 0 0 hM2_3 rfl rfl rfl Tryd.underlying25 el61 ⟨rfl, by decide⟩ rfl rfl rfl (hM2_3.rd 1 rfl) (by rw [flat_len encP_len]; first | done | (simp; done) | (simp; omega)) (all_flat_one (fun _ => rfl) _) (by first | omega | (simp; omega)) (by first | omega | (simp; omega)) (by first | (simp; done) | (simp; omega)) (by simp) (fun _ _ => rfl) (fun w2_6 A2_6 c2_6 hc2_6 hM2_6 => ?_)
        try dsimp only at hM2_6
        refine O.stop (hM2_6.pick [2] (by decide) rfl) ?_
        refine AO.val (v := .slice (A2_6) ((((l).take (plc l x.key)) ++ [x]).length) (c2_6)) 7 (ls' := [true, true, true, true, true, true, true, true]) rfl (by kernel_rfl) rfl rfl (fun w2 hw2 => Ru.assign rfl) rfl ?_
        refine AO.nil (by kernel_rfl) ?_
        have hq2 : (((l).take (plc l x.key)) ++ [x] : List PairT) = l.take (plc l x.key) ++ [x] := (by first | rfl | simp | (simp; omega))
        have hMn2 : Mem w w2_6 [] [[⟨.slice (A2_6) ((l.take (plc l x.key) ++ [x]).length) (c2_6), 61, 2, ((l.take (plc l x.key) ++ [x]).length), (l.take (plc l x.key) ++ [x]).flatMap encP⟩], [⟨.slice (bl b2_5) (1) (1), 61, 2, 1, ([x]).flatMap encP⟩], [⟨.slice (bl b0_0) 1 1, 61, 2, 1, [I ((x).key), I ((x).val)]⟩]] := hM2_6.relen 0 (n' := (l.take (plc l x.key) ++ [x]).length) (xs' := (l.take (plc l x.key) ++ [x]).flatMap encP) rfl (by first | rfl | exact congrArg List.length hq2 | (have hqq := congrArg List.length hq2; first | omega | (simp at hqq ⊢; omega)) | (simp; done) | (simp; omega)) (congrArg (fun z_ => (z_).flatMap encP) hq2) rfl
        exact cutEnd (A2_6, c2_6) (Has.cons rfl (Has.cons rfl (Has.cons rfl (Has.cons (sl_congr (by first | rfl | omega | (simp; done) | (simp; omega) | exact congrArg List.length hq2 | (simp [← hq2]; done) | (simp [← hq2]; omega))) Has.nil)))) (hMn2.pick [2, 0] (by decide) rfl)
    · try dsimp only at hI
      have hM_r2 := hI
      have hcl1_r2 := (hM_r2.cap 1 rfl).1
      refine C.seq ?_
      refine C.seq ?_
      refine C.draws (fun w2 => Mem w w2 [] [[⟨.slice (bl b0_0) 1 1, 61, 2, 1, [I ((x).key), I ((x).val)]⟩], [⟨.slice (A2) ((l.take (plc l x.key) ++ [x]).length) (c2), 61, 2, ((l.take (plc l x.key) ++ [x]).length), (l.take (plc l x.key) ++ [x]).flatMap encP⟩]]) mixed (by kernel_rfl) (hM_r2.ext (kdrawn _)) ?_
      refine QO.val (v := I (((plc l x.key : Nat) : Int))) rfl (fun w2 hw2 => Ru.move rfl) rfl ?_
      refine QO.val (v := .slice (A) ((l).length) (c)) rfl (fun w2 hw2 => Ru.move rfl) rfl ?_
      refine QO.val (v := I ((((l).length : Nat) : Int))) rfl (fun w2 hw2 => Ru.blenSlice Tryd.underlying25 rfl) rfl ?_
      refine QO.val (v := .bool (decide (((plc l x.key : Nat) : Int) < (((l).length : Nat) : Int)))) rfl (fun w2 hw2 => Ru.lss rfl rfl) rfl ?_
      refine QO.val (v := .bool (decide (((plc l x.key : Nat) : Int) < (((l).length : Nat) : Int)))) rfl (fun w2 hw2 => Ru.move rfl) rfl ?_
      refine QO.partp 23 (((plc l x.key : Nat) : Int) < (((l).length : Nat) : Int)) rfl (fun g23 => ?_) (fun g23 => ?_)
      · refine QO.val (v := .slice (A) ((l).length) (c)) rfl (fun w2 hw2 => Ru.move rfl) rfl ?_
        refine QO.val (v := I (((plc l x.key : Nat) : Int))) rfl (fun w2 hw2 => Ru.move rfl) rfl ?_
        have hx3_7 : plc l x.key < (l).length := (by first | omega | (simp; omega))
        refine QO.val (v := .pointer (ofs (A) ((plc l x.key) * 2))) rfl (fun w2 hw2 => Ru.indexA (j := plc l x.key) Tryd.underlying25 el61 rfl rfl (smf encP_len (hA.at hw2) hx3_7 rfl) (by omega) (by first | omega | (simp; omega))) rfl ?_
        refine QO.val (v := .pointer (ofs (A) ((plc l x.key) * 2 + 0))) rfl (fun w2 hw2 => Ru.fieldA fl61_0 rfl (smf encP_len (hA.at hw2) hx3_7 rfl)) rfl ?_
        refine QO.val rfl (fun w2 hw2 => Ru.load1 el3 rfl (ldf encP_len (hA.at hw2) hx3_7 rfl)) rfl ?_
        refine QO.val (v := .pointer (ofs (bl b0_0) (0))) rfl (fun w2 hw2 => Ru.fieldA fl61_0 rfl rfl) rfl ?_
        refine QO.val rfl (fun w2 hw2 => Ru.load1 el3 rfl ((hw2.rd 0 rfl).ld rfl)) rfl ?_
        refine QO.val (v := .bool (decide (((l)[plc l x.key]'hx3_7).key = (x).key))) rfl (fun w2 hw2 => Ru.eql rfl rfl) rfl ?_
        refine QO.val (v := .bool (decide (((l)[plc l x.key]'hx3_7).key = (x).key))) rfl (fun w2 hw2 => Ru.pickT rfl rfl) rfl ?_
        refine QO.nil ?_
        intro w3d hM3d
        refine C.cond (p := ((l)[plc l x.key]'hx3_7).key = (x).key) rfl (fun c32 => ?_) (fun c32 => ?_)
        · have hin := isIn_yes ha hx3_7 c32
          refine C.region ?_
          refine O.val (v := I (((plc l x.key : Nat) : Int))) rfl (Ru.move rfl) rfl ?_
          refine O.val (v := I ((((plc l x.key + 1) : Nat) : Int))) rfl (Ru.congr (v := I ((((plc l x.key : Nat) : Int) + 1))) (v' := I ((((plc l x.key + 1) : Nat) : Int))) (Ru.add rfl rfl (by omega)) (I_congr (by first | omega | simp))) rfl ?_
          refine O.val (v := I ((((plc l x.key + 1) : Nat) : Int))) rfl (Ru.assign rfl) rfl ?_
          refine O.nil ?_
          refine C.seq ?_
          refine C.region ?_
          refine O.val (v := .slice (A2) ((l.take (plc l x.key) ++ [x]).length) (c2)) rfl (Ru.move rfl) rfl ?_
          refine O.val (v := .slice (A) ((l).length) (c)) rfl (Ru.move rfl) rfl ?_
          refine O.val (v := I ((((plc l x.key + 1) : Nat) : Int))) rfl (Ru.move rfl) rfl ?_
          refine O.val (v := .slice (if c = (plc l x.key + 1) then A else ofs (A) ((plc l x.key + 1) * 2)) (((l).drop ((plc l x.key + 1))).length) (c - (plc l x.key + 1))) rfl (Ru.congr (v := .slice (if c = (plc l x.key + 1) then A else ofs (A) ((plc l x.key + 1) * 2)) (((l).length) - (plc l x.key + 1)) (c - (plc l x.key + 1))) (v' := .slice (if c = (plc l x.key + 1) then A else ofs (A) ((plc l x.key + 1) * 2)) (((l).drop ((plc l x.key + 1))).length) (c - (plc l x.key + 1))) (Ru.lsliceFrom (l := (plc l x.key + 1)) Tryd.underlying25 el61 rfl rfl (by omega) (by omega)) (sl_congr (by first | rfl | (simp; done) | omega | (simp; omega)))) rfl ?_
          refine O.mappend (sz := 2) (news := ((l).drop ((plc l x.key + 1))).flatMap encP) (m1 := (l.take (plc l x.key) ++ [x] ++ (l).drop ((plc l x.key + 1))).length) (xs1 := (l.take (plc l x.key) ++ [x] ++ (l).drop ((plc l x.key + 1))).flatMap encP) (M' := fun A5_4 c5_4 => [[⟨.slice (bl b0_0) 1 1, 61, 2, 1, [I ((x).key), I ((x).val)]⟩], [⟨.slice (A5_4) ((l.take (plc l x.key) ++ [x] ++ (l).drop ((plc l x.key + 1))).length) (c5_4), 61, 2, ((l.take (plc l x.key) ++ [x] ++ (l).drop ((plc l x.key + 1))).length), (l.take (plc l x.key) ++ [x] ++ (l).drop ((plc l x.key + 1))).flatMap encP⟩]]) 1 0 hM3d rfl rfl rfl Tryd.underlying25 el61 ⟨rfl, by decide⟩ rfl rfl rfl (rd_dropN encP_len (hA.at hM3d) (by first | omega | (simp; omega)) (by first | omega | (simp; omega))) (by rw [flat_len encP_len]; first | done | (simp; done) | (simp; omega)) (all_flat_one (fun _ => rfl) _) (by first | omega | (simp; omega)) (by first | omega | (simp; omega)) (by first | (simp; done) | (simp; omega)) (by simp) (fun _ _ => rfl) (fun w5_4 A5_4 c5_4 hc5_4 hM5_4 => ?_)
          try dsimp only at hM5_4
          refine O.val (v := .slice (A5_4) ((l.take (plc l x.key) ++ [x] ++ (l).drop ((plc l x.key + 1))).length) (c5_4)) rfl (Ru.assign rfl) rfl ?_
          refine O.nil ?_
          refine C.ret ?_
          refine P1 (v := .slice (A5_4) ((l.take (plc l x.key) ++ [x] ++ (l).drop ((plc l x.key + 1))).length) (c5_4)) rfl ?_
          have hq3 : (l.take (plc l x.key) ++ [x] ++ (l).drop ((plc l x.key + 1)) : List PairT) = putP l x := (by first | (unfold putP; rw [if_pos (isIn_yes ha hx3_7 c32)]; simp; done) | (unfold putP; rw [isIn_no ha (fun hb => by first | omega | exact fun e => c32 e)]; simp))
          have hMn3 : Mem w w5_4 [] [[⟨.slice (bl b0_0) 1 1, 61, 2, 1, [I ((x).key), I ((x).val)]⟩], [⟨.slice (A5_4) ((putP l x).length) (c5_4), 61, 2, ((putP l x).length), (putP l x).flatMap encP⟩]] := hM5_4.relen 1 (n' := (putP l x).length) (xs' := (putP l x).flatMap encP) rfl (by first | rfl | exact congrArg List.length hq3 | (have hqq := congrArg List.length hq3; first | omega | (simp at hqq ⊢; omega)) | (simp; done) | (simp; omega)) (congrArg (fun z_ => (z_).flatMap encP) hq3) rfl
          exact ⟨A5_4, c5_4, (sl_congr (by first | (unfold putP; rw [if_pos (isIn_yes ha hx3_7 c32)]; simp; done) | (unfold putP; rw [isIn_no ha (fun hb => by first | omega | exact fun e => c32 e)]; simp))), (hMn3.pick [1] (by decide) rfl)⟩
        · refine C.skip ?_
          refine C.seq ?_
          refine C.region ?_
          refine O.val (v := .slice (A2) ((l.take (plc l x.key) ++ [x]).length) (c2)) rfl (Ru.move rfl) rfl ?_
          refine O.val (v := .slice (A) ((l).length) (c)) rfl (Ru.move rfl) rfl ?_
          refine O.val (v := I (((plc l x.key : Nat) : Int))) rfl (Ru.move rfl) rfl ?_
          refine O.val (v := .slice (if c = plc l x.key then A else ofs (A) ((plc l x.key) * 2)) (((l).drop (plc l x.key)).length) (c - (plc l x.key))) rfl (Ru.congr (v := .slice (if c = plc l x.key then A else ofs (A) ((plc l x.key) * 2)) (((l).length) - (plc l x.key)) (c - (plc l x.key))) (v' := .slice (if c = plc l x.key then A else ofs (A) ((plc l x.key) * 2)) (((l).drop (plc l x.key)).length) (c - (plc l x.key))) (Ru.lsliceFrom (l := plc l x.key) Tryd.underlying25 el61 rfl rfl (by omega) (by omega)) (sl_congr (by first | rfl | (simp; done) | omega | (simp; omega)))) rfl ?_
          refine O.mappend (sz := 2) (news := ((l).drop (plc l x.key)).flatMap encP) (m1 := (l.take (plc l x.key) ++ [x] ++ (l).drop (plc l x.key)).length) (xs1 := (l.take (plc l x.key) ++ [x] ++ (l).drop (plc l x.key)).flatMap encP) (M' := fun A5_4 c5_4 => [[⟨.slice (bl b0_0) 1 1, 61, 2, 1, [I ((x).key), I ((x).val)]⟩], [⟨.slice (A5_4) ((l.take (plc l x.key) ++ [x] ++ (l).drop (plc l x.key)).length) (c5_4), 61, 2, ((l.take (plc l x.key) ++ [x] ++ (l).drop (plc l x.key)).length), (l.take (plc l x.key) ++ [x] ++ (l).drop (plc l x.key)).flatMap encP⟩]]) 1 0 hM3d rfl rfl rfl Tryd.underlying25 el61 ⟨rfl, by decide⟩ rfl rfl rfl (rd_dropN encP_len (hA.at hM3d) (by first | omega | (simp; omega)) (by first | omega | (simp; omega))) (by rw [flat_len encP_len]; first | done | (simp; done) | (simp; omega)) (all_flat_one (fun _ => rfl) _) (by first | omega | (simp; omega)) (by first | omega | (simp; omega)) (by first | (simp; done) | (simp; omega)) (by simp) (fun _ _ => rfl) (fun w5_4 A5_4 c5_4 hc5_4 hM5_4 => ?_)
          try dsimp only at hM5_4
          refine O.val (v := .slice (A5_4) ((l.take (plc l x.key) ++ [x] ++ (l).drop (plc l x.key)).length) (c5_4)) rfl (Ru.assign rfl) rfl ?_
          refine O.nil ?_
          refine C.ret ?_
          refine P1 (v := .slice (A5_4) ((l.take (plc l x.key) ++ [x] ++ (l).drop (plc l x.key)).length) (c5_4)) rfl ?_
          have hq4 : (l.take (plc l x.key) ++ [x] ++ (l).drop (plc l x.key) : List PairT) = putP l x := (by first | (unfold putP; rw [if_pos (isIn_yes ha hx3_7 c32)]; simp; done) | (unfold putP; rw [isIn_no ha (fun hb => by first | omega | exact fun e => c32 e)]; simp))
          have hMn4 : Mem w w5_4 [] [[⟨.slice (bl b0_0) 1 1, 61, 2, 1, [I ((x).key), I ((x).val)]⟩], [⟨.slice (A5_4) ((putP l x).length) (c5_4), 61, 2, ((putP l x).length), (putP l x).flatMap encP⟩]] := hM5_4.relen 1 (n' := (putP l x).length) (xs' := (putP l x).flatMap encP) rfl (by first | rfl | exact congrArg List.length hq4 | (have hqq := congrArg List.length hq4; first | omega | (simp at hqq ⊢; omega)) | (simp; done) | (simp; omega)) (congrArg (fun z_ => (z_).flatMap encP) hq4) rfl
          exact ⟨A5_4, c5_4, (sl_congr (by first | (unfold putP; rw [if_pos (isIn_yes ha hx3_7 c32)]; simp; done) | (unfold putP; rw [isIn_no ha (fun hb => by first | omega | exact fun e => c32 e)]; simp))), (hMn4.pick [1] (by decide) rfl)⟩
      · refine QO.pass rfl rfl rfl rfl rfl ?_
        refine QO.pass rfl rfl rfl rfl rfl ?_
        refine QO.pass rfl rfl rfl rfl rfl ?_
        refine QO.pass rfl rfl rfl rfl rfl ?_
        refine QO.pass rfl rfl rfl rfl rfl ?_
        refine QO.pass rfl rfl rfl rfl rfl ?_
        refine QO.pass rfl rfl rfl rfl rfl ?_
        refine QO.pass rfl rfl rfl rfl rfl ?_
        refine QO.val (v := .bool (false)) rfl (fun w2 hw2 => Ru.pickF rfl rfl) rfl ?_
        refine QO.nil ?_
        intro w3d hM3d
        refine C.condF rfl ?_
        refine C.skip ?_
        refine C.seq ?_
        refine C.region ?_
        refine O.val (v := .slice (A2) ((l.take (plc l x.key) ++ [x]).length) (c2)) rfl (Ru.move rfl) rfl ?_
        refine O.val (v := .slice (A) ((l).length) (c)) rfl (Ru.move rfl) rfl ?_
        refine O.val (v := I (((plc l x.key : Nat) : Int))) rfl (Ru.move rfl) rfl ?_
        refine O.val (v := .slice (if c = plc l x.key then A else ofs (A) ((plc l x.key) * 2)) (((l).drop (plc l x.key)).length) (c - (plc l x.key))) rfl (Ru.congr (v := .slice (if c = plc l x.key then A else ofs (A) ((plc l x.key) * 2)) (((l).length) - (plc l x.key)) (c - (plc l x.key))) (v' := .slice (if c = plc l x.key then A else ofs (A) ((plc l x.key) * 2)) (((l).drop (plc l x.key)).length) (c - (plc l x.key))) (Ru.lsliceFrom (l := plc l x.key) Tryd.underlying25 el61 rfl rfl (by omega) (by omega)) (sl_congr (by first | rfl | (simp; done) | omega | (simp; omega)))) rfl ?_
        refine O.mappend (sz := 2) (news := ((l).drop (plc l x.key)).flatMap encP) (m1 := (l.take (plc l x.key) ++ [x] ++ (l).drop (plc l x.key)).length) (xs1 := (l.take (plc l x.key) ++ [x] ++ (l).drop (plc l x.key)).flatMap encP) (M' := fun A5_4 c5_4 => [[⟨.slice (bl b0_0) 1 1, 61, 2, 1, [I ((x).key), I ((x).val)]⟩], [⟨.slice (A5_4) ((l.take (plc l x.key) ++ [x] ++ (l).drop (plc l x.key)).length) (c5_4), 61, 2, ((l.take (plc l x.key) ++ [x] ++ (l).drop (plc l x.key)).length), (l.take (plc l x.key) ++ [x] ++ (l).drop (plc l x.key)).flatMap encP⟩]]) 1 0 hM3d rfl rfl rfl Tryd.underlying25 el61 ⟨rfl, by decide⟩ rfl rfl rfl (rd_dropN encP_len (hA.at hM3d) (by first | omega | (simp; omega)) (by first | omega | (simp; omega))) (by rw [flat_len encP_len]; first | done | (simp; done) | (simp; omega)) (all_flat_one (fun _ => rfl) _) (by first | omega | (simp; omega)) (by first | omega | (simp; omega)) (by first | (simp; done) | (simp; omega)) (by simp) (fun _ _ => rfl) (fun w5_4 A5_4 c5_4 hc5_4 hM5_4 => ?_)
        try dsimp only at hM5_4
        refine O.val (v := .slice (A5_4) ((l.take (plc l x.key) ++ [x] ++ (l).drop (plc l x.key)).length) (c5_4)) rfl (Ru.assign rfl) rfl ?_
        refine O.nil ?_
        refine C.ret ?_
        refine P1 (v := .slice (A5_4) ((l.take (plc l x.key) ++ [x] ++ (l).drop (plc l x.key)).length) (c5_4)) rfl ?_
        have hq5 : (l.take (plc l x.key) ++ [x] ++ (l).drop (plc l x.key) : List PairT) = putP l x := (by first | (unfold putP; rw [if_pos (isIn_yes ha hx3_7 c32)]; simp; done) | (unfold putP; rw [isIn_no ha (fun hb => by first | omega | exact fun e => c32 e)]; simp))
        have hMn5 : Mem w w5_4 [] [[⟨.slice (bl b0_0) 1 1, 61, 2, 1, [I ((x).key), I ((x).val)]⟩], [⟨.slice (A5_4) ((putP l x).length) (c5_4), 61, 2, ((putP l x).length), (putP l x).flatMap encP⟩]] := hM5_4.relen 1 (n' := (putP l x).length) (xs' := (putP l x).flatMap encP) rfl (by first | rfl | exact congrArg List.length hq5 | (have hqq := congrArg List.length hq5; first | omega | (simp at hqq ⊢; omega)) | (simp; done) | (simp; omega)) (congrArg (fun z_ => (z_).flatMap encP) hq5) rfl
        exact ⟨A5_4, c5_4, (sl_congr (by first | (unfold putP; rw [if_pos (isIn_yes ha hx3_7 c32)]; simp; done) | (unfold putP; rw [isIn_no ha (fun hb => by first | omega | exact fun e => c32 e)]; simp))), (hMn5.pick [1] (by decide) rfl)⟩
end Go.Proofs.YtfdlmimgooeioaaDoor
