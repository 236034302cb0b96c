/- Own layer: part of this seat (FC). Plain theorems; no conditions. -/
import Derived.Test.YtfdlmimgooeioaaDoorFB
set_option linter.unusedVariables false
set_option linter.unusedSimpArgs false
namespace Go.Proofs.YtfdlmimgooeioaaDoor
open Go.Px
theorem rowOf_fn (p : PgL) (w : World) (hNp : PgN w p) (hk : (p).k.l.length ≤ 1048576) (hv : (p).v.l.length = (p).k.l.length) :
    Does Tryd.prog 55 [.agg #[.slice ((p).k.A) ((p).k.l.length) ((p).k.cp), .slice ((p).c.A) ((p).c.l.length) ((p).c.cp), .slice ((p).v.A) ((p).v.l.length) ((p).v.cp)]] w (fun v w1 => ∃ (A1 : Option Addr) (c1 : Nat), v = .slice (A1) ((prsP (p).t).length) (c1) ∧ Mem w w1 [] [[⟨.slice (A1) ((prsP (p).t).length) (c1), 61, 2, ((prsP (p).t).length), (prsP (p).t).flatMap encP⟩]]) := by
  have hM : Mem w w [] [] := Mem.refl
  refine Does.enter1 Tryd.func55 rfl Tryd.results55 Tryd.ntmps55 rfl ?_
  refine C.seq ?_
  refine C.region ?_
  refine O.mbox (k := 3) (vs := [.slice ((p).k.A) ((p).k.l.length) ((p).k.cp), .slice ((p).c.A) ((p).c.l.length) ((p).c.cp), .slice ((p).v.A) ((p).v.l.length) ((p).v.cp)]) hM rfl rfl rfl rfl rfl (fun w0_0 b0_0 hb0_0 (hM0_0 : Mem w w0_0 [] [[⟨.slice (bl b0_0) 1 1, 58, 3, 1, [.slice ((p).k.A) ((p).k.l.length) ((p).k.cp), .slice ((p).c.A) ((p).c.l.length) ((p).c.cp), .slice ((p).v.A) ((p).v.l.length) ((p).v.cp)]⟩]]) => ?_)
  refine O.val (v := .slice (none) (0) (0)) rfl (Ru.assign rfl) rfl ?_
  refine O.nil ?_
  refine C.seq ?_
  refine C.region ?_
  refine O.mlit (sz := 2) (cs := []) hM0_0 rfl Tryd.underlying25 el61 rfl rfl rfl (by kernel_rfl) (by kernel_rfl) rfl rfl (fun w1_0 b1_0 hb1_0 (hM1_0 : Mem w w1_0 [] [[⟨.slice (bl b1_0) (0) (0), 61, 2, 0, ([]).flatMap encP⟩], [⟨.slice (bl b0_0) 1 1, 58, 3, 1, [.slice ((p).k.A) ((p).k.l.length) ((p).k.cp), .slice ((p).c.A) ((p).c.l.length) ((p).c.cp), .slice ((p).v.A) ((p).v.l.length) ((p).v.cp)]⟩]]) => ?_)
  refine O.val (v := .slice (bl b1_0) (0) (0)) rfl (Ru.assign rfl) rfl ?_
  refine O.nil ?_
  refine C.seq ?_
  refine C.seq ?_
  refine C.region ?_
  refine O.val (v := I (0)) rfl (Ru.assign rfl) rfl ?_
  refine O.nil ?_
  refine C.block ?_
  have hq1 : ([] : List PairT) = (prsP (p).t).take 0 := (by first | rfl | simp | (simp; omega))
  have hMn1 : Mem w w1_0 [] [[⟨.slice (bl b1_0) (((prsP (p).t).take 0).length) (0), 61, 2, (((prsP (p).t).take 0).length), ((prsP (p).t).take 0).flatMap encP⟩], [⟨.slice (bl b0_0) 1 1, 58, 3, 1, [.slice ((p).k.A) ((p).k.l.length) ((p).k.cp), .slice ((p).c.A) ((p).c.l.length) ((p).c.cp), .slice ((p).v.A) ((p).v.l.length) ((p).v.cp)]⟩]] := hM1_0.relen 0 (n' := ((prsP (p).t).take 0).length) (xs' := ((prsP (p).t).take 0).flatMap encP) rfl (by first | rfl | exact congrArg List.length hq1 | (have hqq := congrArg List.length hq1; first | omega | (simp at hqq ⊢; omega)) | (simp; done) | (simp; omega)) (congrArg (fun z_ => (z_).flatMap encP) hq1) rfl
  refine C.loop (ι := Nat × (Option Addr) × Nat) (fun x_ => ([(1, .pointer (ofs (bl b0_0) (0))), (3, .slice (x_.2.1) (((prsP (p).t).take x_.1).length) (x_.2.2)), (4, I (((x_.1 : Nat) : Int)))] : List (Nat × Value))) (fun x_ w_ => (x_.1 ≤ (p).k.l.length) ∧ (Mem w w_ [] [[⟨.slice (x_.2.1) (((prsP (p).t).take x_.1).length) (x_.2.2), 61, 2, (((prsP (p).t).take x_.1).length), ((prsP (p).t).take x_.1).flatMap encP⟩], [⟨.slice (bl b0_0) 1 1, 58, 3, 1, [.slice ((p).k.A) ((p).k.l.length) ((p).k.cp), .slice ((p).c.A) ((p).c.l.length) ((p).c.cp), .slice ((p).v.A) ((p).v.l.length) ((p).v.cp)]⟩]])) (fun x_ => (p).k.l.length - x_.1) (0, bl b1_0, 0) (Has.cons rfl (Has.cons (sl_congr (by first | rfl | omega | (simp; done) | (simp; omega) | exact congrArg List.length hq1 | (simp [← hq1]; done) | (simp [← hq1]; omega))) (Has.cons (I_congr (by first | rfl | omega | (simp; omega) | simp)) Has.nil))) ⟨(Nat.zero_le _), (hMn1.pick [0, 1] (by decide) rfl)⟩ (fun ⟨k, A2, c2⟩ σ w_l3 hI => ?_)
  try dsimp only at hI
  obtain ⟨hi0_l3, hM_l3⟩ := hI
  have hcl0_l3 := (hM_l3.cap 0 rfl).1
  refine C.seq ?_
  refine C.seq ?_
  refine C.region ?_
  refine O.val (v := I (((k : Nat) : Int))) rfl (Ru.move rfl) rfl ?_
  refine O.val (v := .pointer (ofs (bl b0_0) (0))) rfl (Ru.fieldA fl58_0 rfl rfl) rfl ?_
  refine O.val rfl (Ru.load1 el51 rfl ((hM_l3.rd 1 rfl).ld rfl)) rfl ?_
  refine O.val (v := I ((((p).k.l.length : Nat) : Int))) rfl (Ru.blenSlice Tryd.underlying51 rfl) rfl ?_
  refine O.val (v := .bool (decide (((k : Nat) : Int) < (((p).k.l.length : Nat) : Int)))) rfl (Ru.lss rfl rfl) rfl ?_
  refine O.nil ?_
  refine C.cond (p := ((k : Nat) : Int) < (((p).k.l.length : Nat) : Int)) rfl (fun c10 => ?_) (fun c10 => ?_)
  · refine C.skip ?_
    refine C.seq ?_
    refine C.block ?_
    refine C.any (f := 15) (ls := [false, false, false, false, false, false, false, false, false, false, false, false, false, false, false]) (fun w2 => Mem w w2 [] [[⟨.slice (bl b0_0) 1 1, 58, 3, 1, [.slice ((p).k.A) ((p).k.l.length) ((p).k.cp), .slice ((p).c.A) ((p).c.l.length) ((p).c.cp), .slice ((p).v.A) ((p).v.l.length) ((p).v.cp)]⟩]]) mixed rfl rfl (fun w2 hw2 => Mem0.ext (hM_l3.pick [1] (by decide) rfl) hw2) (fun w5a hE5a => ?_)
    have hM5a : Mem w w5a [] [[⟨.slice (A2) (((prsP (p).t).take k).length) (c2), 61, 2, (((prsP (p).t).take k).length), ((prsP (p).t).take k).flatMap encP⟩], [⟨.slice (bl b0_0) 1 1, 58, 3, 1, [.slice ((p).k.A) ((p).k.l.length) ((p).k.cp), .slice ((p).c.A) ((p).c.l.length) ((p).c.cp), .slice ((p).v.A) ((p).v.l.length) ((p).v.cp)]⟩]] := Mem0.ext hM_l3 hE5a
    refine AO.val (v := .slice (A2) (((prsP (p).t).take k).length) (c2)) 0 (ls' := [true, false, false, false, false, false, false, false, false, false, false, false, false, false, false]) rfl (by kernel_rfl) rfl rfl (fun w2 hw2 => Ru.move rfl) rfl ?_
    refine AO.val (v := .pointer (ofs (bl b0_0) (0))) 1 (ls' := [true, true, false, false, false, false, false, false, false, false, false, false, false, false, false]) rfl (by kernel_rfl) rfl rfl (fun w2 hw2 => Ru.fieldA fl58_0 rfl rfl) rfl ?_
    refine AO.val (v := .slice ((p).k.A) ((p).k.l.length) ((p).k.cp)) 2 (ls' := [true, true, true, false, false, false, false, false, false, false, false, false, false, false, false]) rfl (by kernel_rfl) rfl rfl (fun w2 hw2 => Ru.load1 el51 rfl ((hw2.rd 0 rfl).ld rfl)) rfl ?_
    refine AO.val (v := I (((k : Nat) : Int))) 3 (ls' := [true, true, true, true, false, false, false, false, false, false, false, false, false, false, false]) rfl (by kernel_rfl) rfl rfl (fun w2 hw2 => Ru.move rfl) rfl ?_
    have hx5_4 : k < ((p).k.l).length := (by first | omega | (simp; omega))
    refine AO.val (v := .pointer (ofs ((p).k.A) (k * 1))) 4 (ls' := [true, true, true, true, true, false, false, false, false, false, false, false, false, false, false]) rfl (by kernel_rfl) rfl rfl (fun w2 hw2 => Ru.indexA (j := k) Tryd.underlying51 el3 rfl rfl (smm (hNp.at hM5a).1 hx5_4) (by omega) (by first | omega | (simp; omega))) rfl ?_
    refine AO.val (v := .pointer (ofs (bl b0_0) (2))) 6 (ls' := [true, true, true, true, true, false, true, false, false, false, false, false, false, false, false]) rfl (by kernel_rfl) rfl rfl (fun w2 hw2 => Ru.fieldA fl58_2 rfl rfl) rfl ?_
    refine AO.val (v := .slice ((p).v.A) ((p).v.l.length) ((p).v.cp)) 7 (ls' := [true, true, true, true, true, false, true, true, false, false, false, false, false, false, false]) rfl (by kernel_rfl) rfl rfl (fun w2 hw2 => Ru.load1 el51 rfl ((hw2.rd 0 rfl).ld rfl)) rfl ?_
    refine AO.val (v := I (((k : Nat) : Int))) 8 (ls' := [true, true, true, true, true, false, true, true, true, false, false, false, false, false, false]) rfl (by kernel_rfl) rfl rfl (fun w2 hw2 => Ru.move rfl) rfl ?_
    have hx5_9 : k < ((p).v.l).length := (by first | omega | (simp; omega))
    refine AO.val (v := .pointer (ofs ((p).v.A) (k * 1))) 9 (ls' := [true, true, true, true, true, false, true, true, true, true, false, false, false, false, false]) rfl (by kernel_rfl) rfl rfl (fun w2 hw2 => Ru.indexA (j := k) Tryd.underlying51 el3 rfl rfl (smm (hNp.at hM5a).2.2 hx5_9) (by omega) (by first | omega | (simp; omega))) rfl ?_
    refine AO.two 5 10 (by kernel_rfl) ?_ ?_
    · refine step1 (ls' := [true, true, true, true, true, true, true, true, true, true, false, false, false, false, false]) rfl rfl ?_
      refine O.val rfl (Ru.load1 el3 rfl (ldm (hNp.at hM5a).1 hx5_4)) rfl ?_
      refine O.stop (hM5a.pick [1] (by decide) rfl) ?_
      refine AO.one 10 (by kernel_rfl) ?_
      refine step1 (ls' := [true, true, true, true, true, true, true, true, true, true, true, false, false, false, false]) rfl rfl ?_
      refine O.val rfl (Ru.load1 el3 rfl (ldm (hNp.at hM5a).2.2 hx5_9)) rfl ?_
      refine O.stop (hM5a.pick [1] (by decide) rfl) ?_
      refine AO.val (v := .agg #[I (((p).k.l)[k]'hx5_4), I (((p).v.l)[k]'hx5_9)]) 11 (ls' := [true, true, true, true, true, true, true, true, true, true, true, true, false, false, false]) rfl (by kernel_rfl) rfl rfl (fun w2 hw2 => Ru.build of61 rfl rfl rfl) rfl ?_
      refine AO.one 12 (by kernel_rfl) ?_
      refine step1 (ls' := [true, true, true, true, true, true, true, true, true, true, true, true, true, false, false]) rfl rfl ?_
      refine O.mlit (sz := 2) (cs := [I (((p).k.l)[k]'hx5_4), I (((p).v.l)[k]'hx5_9)]) hM5a rfl Tryd.underlying25 el61 rfl rfl rfl (by kernel_rfl) (by kernel_rfl) rfl rfl (fun w5_12 b5_12 hb5_12 (hM5_12 : Mem w w5_12 [] [[⟨.slice (bl b5_12) (1) (1), 61, 2, 1, ([(⟨((p).k.l)[k]'hx5_4, ((p).v.l)[k]'hx5_9⟩ : PairT)]).flatMap encP⟩], [⟨.slice (A2) (((prsP (p).t).take k).length) (c2), 61, 2, (((prsP (p).t).take k).length), ((prsP (p).t).take k).flatMap encP⟩], [⟨.slice (bl b0_0) 1 1, 58, 3, 1, [.slice ((p).k.A) ((p).k.l.length) ((p).k.cp), .slice ((p).c.A) ((p).c.l.length) ((p).c.cp), .slice ((p).v.A) ((p).v.l.length) ((p).v.cp)]⟩]]) => ?_)
      refine O.stop (hM5_12.pick [2] (by decide) rfl) ?_
      refine AO.one 13 (by kernel_rfl) ?_
      refine step1 (ls' := [true, true, true, true, true, true, true, true, true, true, true, true, true, true, false]) rfl rfl ?_
      refine O.mappend (sz := 2) (news := ([(⟨((p).k.l)[k]'hx5_4, ((p).v.l)[k]'hx5_9⟩ : PairT)]).flatMap encP) (m1 := ((prsP (p).t).take k ++ [(⟨((p).k.l)[k]'hx5_4, ((p).v.l)[k]'hx5_9⟩ : PairT)]).length) (xs1 := ((prsP (p).t).take k ++ [(⟨((p).k.l)[k]'hx5_4, ((p).v.l)[k]'hx5_9⟩ : PairT)]).flatMap encP) (M' := fun A5_13 c5_13 => [[⟨.slice (bl b5_12) (1) (1), 61, 2, 1, ([(⟨((p).k.l)[k]'hx5_4, ((p).v.l)[k]'hx5_9⟩ : PairT)]).flatMap encP⟩], [⟨.slice (A5_13) (((prsP (p).t).take k ++ [(⟨((p).k.l)[k]'hx5_4, ((p).v.l)[k]'hx5_9⟩ : PairT)]).length) (c5_13), 61, 2, (((prsP (p).t).take k ++ [(⟨((p).k.l)[k]'hx5_4, ((p).v.l)[k]'hx5_9⟩ : PairT)]).length), ((prsP (p).t).take k ++ [(⟨((p).k.l)[k]'hx5_4, ((p).v.l)[k]'hx5_9⟩ : PairT)]).flatMap encP⟩], [⟨.slice (bl b0_0) 1 1, 58, 3, 1, [.slice ((p).k.A) ((p).k.l.length) ((p).k.cp), .slice ((p).c.A) ((p).c.l.length) ((p).c.cp), .slice ((p).v.A) ((p).v.l.length) ((p).v.cp)]⟩]]) 1 0 hM5_12 rfl rfl rfl Tryd.underlying25 el61 ⟨rfl, by decide⟩ rfl rfl rfl (hM5_12.rd 0 rfl) (by rw [flat_len encP_len]; first | done | (simp; done) | (simp; omega)) (all_flat_one (fun _ => rfl) _) (by first | omega | (simp; omega)) (by first | omega | (simp; omega)) (by first | (simp; done) | (simp; omega)) (by simp) (fun _ _ => rfl) (fun w5_13 A5_13 c5_13 hc5_13 hM5_13 => ?_)
      try dsimp only at hM5_13
      refine O.stop (hM5_13.pick [2] (by decide) rfl) ?_
      refine AO.val (v := .slice (A5_13) (((prsP (p).t).take k ++ [(⟨((p).k.l)[k]'hx5_4, ((p).v.l)[k]'hx5_9⟩ : PairT)]).length) (c5_13)) 14 (ls' := [true, true, true, true, true, true, true, true, true, true, true, true, true, true, true]) rfl (by kernel_rfl) rfl rfl (fun w2 hw2 => Ru.assign rfl) rfl ?_
      refine AO.nil (by kernel_rfl) ?_
      refine C.region ?_
      refine O.val (v := I (((k : Nat) : Int))) rfl (Ru.move rfl) rfl ?_
      refine O.val (v := I ((((k + 1) : Nat) : Int))) rfl (Ru.congr (v := I ((((k : Nat) : Int) + 1))) (v' := I ((((k + 1) : Nat) : Int))) (Ru.add rfl rfl (by omega)) (I_congr (by first | omega | simp))) rfl ?_
      refine O.val (v := I ((((k + 1) : Nat) : Int))) rfl (Ru.assign rfl) rfl ?_
      refine O.nil ?_
      have hq2 : ((prsP (p).t).take k ++ [(⟨((p).k.l)[k]'hx5_4, ((p).v.l)[k]'hx5_9⟩ : PairT)] : List PairT) = (prsP (p).t).take (k + 1) := (prs_snoc hx5_4 hx5_9)
      have hMn2 : Mem w w5_13 [] [[⟨.slice (bl b5_12) (1) (1), 61, 2, 1, ([(⟨((p).k.l)[k]'hx5_4, ((p).v.l)[k]'hx5_9⟩ : PairT)]).flatMap encP⟩], [⟨.slice (A5_13) (((prsP (p).t).take (k + 1)).length) (c5_13), 61, 2, (((prsP (p).t).take (k + 1)).length), ((prsP (p).t).take (k + 1)).flatMap encP⟩], [⟨.slice (bl b0_0) 1 1, 58, 3, 1, [.slice ((p).k.A) ((p).k.l.length) ((p).k.cp), .slice ((p).c.A) ((p).c.l.length) ((p).c.cp), .slice ((p).v.A) ((p).v.l.length) ((p).v.cp)]⟩]] := hM5_13.relen 1 (n' := ((prsP (p).t).take (k + 1)).length) (xs' := ((prsP (p).t).take (k + 1)).flatMap encP) rfl (by first | rfl | exact congrArg List.length hq2 | (have hqq := congrArg List.length hq2; first | omega | (simp at hqq ⊢; omega)) | (simp; done) | (simp; omega)) (congrArg (fun z_ => (z_).flatMap encP) hq2) rfl
      exact loopEnd (k + 1, A5_13, c5_13) (by (try dsimp only); omega) (Has.cons rfl (Has.cons (sl_congr (by first | rfl | omega | (simp; done) | (simp; omega) | exact congrArg List.length hq2 | (simp [← hq2]; done) | (simp [← hq2]; omega))) (Has.cons (I_congr (by first | rfl | omega | (simp; omega) | simp)) Has.nil))) ⟨(by (try dsimp only); omega), (hMn2.pick [1, 2] (by decide) rfl)⟩
    · refine step1 (ls' := [true, true, true, true, true, false, true, true, true, true, true, false, false, false, false]) rfl rfl ?_
      refine O.val rfl (Ru.load1 el3 rfl (ldm (hNp.at hM5a).2.2 hx5_9)) rfl ?_
      refine O.stop (hM5a.pick [1] (by decide) rfl) ?_
      refine AO.one 5 (by kernel_rfl) ?_
      refine step1 (ls' := [true, true, true, true, true, true, true, true, true, true, true, false, false, false, false]) rfl rfl ?_
      refine O.val rfl (Ru.load1 el3 rfl (ldm (hNp.at hM5a).1 hx5_4)) rfl ?_
      refine O.stop (hM5a.pick [1] (by decide) rfl) ?_
      refine AO.val (v := .agg #[I (((p).k.l)[k]'hx5_4), I (((p).v.l)[k]'hx5_9)]) 11 (ls' := [true, true, true, true, true, true, true, true, true, true, true, true, false, false, false]) rfl (by kernel_rfl) rfl rfl (fun w2 hw2 => Ru.build of61 rfl rfl rfl) rfl ?_
      refine AO.one 12 (by kernel_rfl) ?_
      refine step1 (ls' := [true, true, true, true, true, true, true, true, true, true, true, true, true, false, false]) rfl rfl ?_
      refine O.mlit (sz := 2) (cs := [I (((p).k.l)[k]'hx5_4), I (((p).v.l)[k]'hx5_9)]) hM5a rfl Tryd.underlying25 el61 rfl rfl rfl (by kernel_rfl) (by kernel_rfl) rfl rfl (fun w5_12 b5_12 hb5_12 (hM5_12 : Mem w w5_12 [] [[⟨.slice (bl b5_12) (1) (1), 61, 2, 1, ([(⟨((p).k.l)[k]'hx5_4, ((p).v.l)[k]'hx5_9⟩ : PairT)]).flatMap encP⟩], [⟨.slice (A2) (((prsP (p).t).take k).length) (c2), 61, 2, (((prsP (p).t).take k).length), ((prsP (p).t).take k).flatMap encP⟩], [⟨.slice (bl b0_0) 1 1, 58, 3, 1, [.slice ((p).k.A) ((p).k.l.length) ((p).k.cp), .slice ((p).c.A) ((p).c.l.length) ((p).c.cp), .slice ((p).v.A) ((p).v.l.length) ((p).v.cp)]⟩]]) => ?_)
      refine O.stop (hM5_12.pick [2] (by decide) rfl) ?_
      refine AO.one 13 (by kernel_rfl) ?_
      refine step1 (ls' := [true, true, true, true, true, true, true, true, true, true, true, true, true, true, false]) rfl rfl ?_
      refine O.mappend (sz := 2) (news := ([(⟨((p).k.l)[k]'hx5_4, ((p).v.l)[k]'hx5_9⟩ : PairT)]).flatMap encP) (m1 := ((prsP (p).t).take k ++ [(⟨((p).k.l)[k]'hx5_4, ((p).v.l)[k]'hx5_9⟩ : PairT)]).length) (xs1 := ((prsP (p).t).take k ++ [(⟨((p).k.l)[k]'hx5_4, ((p).v.l)[k]'hx5_9⟩ : PairT)]).flatMap encP) (M' := fun A5_13 c5_13 => [[⟨.slice (bl b5_12) (1) (1), 61, 2, 1, ([(⟨((p).k.l)[k]'hx5_4, ((p).v.l)[k]'hx5_9⟩ : PairT)]).flatMap encP⟩], [⟨.slice (A5_13) (((prsP (p).t).take k ++ [(⟨((p).k.l)[k]'hx5_4, ((p).v.l)[k]'hx5_9⟩ : PairT)]).length) (c5_13), 61, 2, (((prsP (p).t).take k ++ [(⟨((p).k.l)[k]'hx5_4, ((p).v.l)[k]'hx5_9⟩ : PairT)]).length), ((prsP (p).t).take k ++ [(⟨((p).k.l)[k]'hx5_4, ((p).v.l)[k]'hx5_9⟩ : PairT)]).flatMap encP⟩], [⟨.slice (bl b0_0) 1 1, 58, 3, 1, [.slice ((p).k.A) ((p).k.l.length) ((p).k.cp), .slice ((p).c.A) ((p).c.l.length) ((p).c.cp), .slice ((p).v.A) ((p).v.l.length) ((p).v.cp)]⟩]]) 1 0 hM5_12 rfl rfl rfl Tryd.underlying25 el61 ⟨rfl, by decide⟩ rfl rfl rfl (hM5_12.rd 0 rfl) (by rw [flat_len encP_len]; first | done | (simp; done) | (simp; omega)) (all_flat_one (fun _ => rfl) _) (by first | omega | (simp; omega)) (by first | omega | (simp; omega)) (by first | (simp; done) | (simp; omega)) (by simp) (fun _ _ => rfl) (fun w5_13 A5_13 c5_13 hc5_13 hM5_13 => ?_)
      try dsimp only at hM5_13
      refine O.stop (hM5_13.pick [2] (by decide) rfl) ?_
      refine AO.val (v := .slice (A5_13) (((prsP (p).t).take k ++ [(⟨((p).k.l)[k]'hx5_4, ((p).v.l)[k]'hx5_9⟩ : PairT)]).length) (c5_13)) 14 (ls' := [true, true, true, true, true, true, true, true, true, true, true, true, true, true, true]) rfl (by kernel_rfl) rfl rfl (fun w2 hw2 => Ru.assign rfl) rfl ?_
      refine AO.nil (by kernel_rfl) ?_
      refine C.region ?_
      refine O.val (v := I (((k : Nat) : Int))) rfl (Ru.move rfl) rfl ?_
      refine O.val (v := I ((((k + 1) : Nat) : Int))) rfl (Ru.congr (v := I ((((k : Nat) : Int) + 1))) (v' := I ((((k + 1) : Nat) : Int))) (Ru.add rfl rfl (by omega)) (I_congr (by first | omega | simp))) rfl ?_
      refine O.val (v := I ((((k + 1) : Nat) : Int))) rfl (Ru.assign rfl) rfl ?_
      refine O.nil ?_
      have hq3 : ((prsP (p).t).take k ++ [(⟨((p).k.l)[k]'hx5_4, ((p).v.l)[k]'hx5_9⟩ : PairT)] : List PairT) = (prsP (p).t).take (k + 1) := (prs_snoc hx5_4 hx5_9)
      have hMn3 : Mem w w5_13 [] [[⟨.slice (bl b5_12) (1) (1), 61, 2, 1, ([(⟨((p).k.l)[k]'hx5_4, ((p).v.l)[k]'hx5_9⟩ : PairT)]).flatMap encP⟩], [⟨.slice (A5_13) (((prsP (p).t).take (k + 1)).length) (c5_13), 61, 2, (((prsP (p).t).take (k + 1)).length), ((prsP (p).t).take (k + 1)).flatMap encP⟩], [⟨.slice (bl b0_0) 1 1, 58, 3, 1, [.slice ((p).k.A) ((p).k.l.length) ((p).k.cp), .slice ((p).c.A) ((p).c.l.length) ((p).c.cp), .slice ((p).v.A) ((p).v.l.length) ((p).v.cp)]⟩]] := hM5_13.relen 1 (n' := ((prsP (p).t).take (k + 1)).length) (xs' := ((prsP (p).t).take (k + 1)).flatMap encP) rfl (by first | rfl | exact congrArg List.length hq3 | (have hqq := congrArg List.length hq3; first | omega | (simp at hqq ⊢; omega)) | (simp; done) | (simp; omega)) (congrArg (fun z_ => (z_).flatMap encP) hq3) rfl
      exact loopEnd (k + 1, A5_13, c5_13) (by (try dsimp only); omega) (Has.cons rfl (Has.cons (sl_congr (by first | rfl | omega | (simp; done) | (simp; omega) | exact congrArg List.length hq3 | (simp [← hq3]; done) | (simp [← hq3]; omega))) (Has.cons (I_congr (by first | rfl | omega | (simp; omega) | simp)) Has.nil))) ⟨(by (try dsimp only); omega), (hMn3.pick [1, 2] (by decide) rfl)⟩
  · refine C.exit ?_
    refine C.seq ?_
    refine C.region ?_
    refine O.val (v := .slice (A2) (((prsP (p).t).take k).length) (c2)) rfl (Ru.move rfl) rfl ?_
    refine O.val (v := .slice (A2) (((prsP (p).t).take k).length) (c2)) rfl (Ru.assign rfl) rfl ?_
    refine O.nil ?_
    refine C.ret ?_
    refine P1 (v := .slice (A2) (((prsP (p).t).take k).length) (c2)) rfl ?_
    have hq4 : ((prsP (p).t).take k : List PairT) = prsP (p).t := (prs_take (by omega))
    have hMn4 : Mem w w_l3 [] [[⟨.slice (A2) ((prsP (p).t).length) (c2), 61, 2, ((prsP (p).t).length), (prsP (p).t).flatMap encP⟩], [⟨.slice (bl b0_0) 1 1, 58, 3, 1, [.slice ((p).k.A) ((p).k.l.length) ((p).k.cp), .slice ((p).c.A) ((p).c.l.length) ((p).c.cp), .slice ((p).v.A) ((p).v.l.length) ((p).v.cp)]⟩]] := hM_l3.relen 0 (n' := (prsP (p).t).length) (xs' := (prsP (p).t).flatMap encP) rfl (by first | rfl | exact congrArg List.length hq4 | (have hqq := congrArg List.length hq4; first | omega | (simp at hqq ⊢; omega)) | (simp; done) | (simp; omega)) (congrArg (fun z_ => (z_).flatMap encP) hq4) rfl
    exact ⟨A2, c2, (sl_congr (by rw [prs_take (by omega)])), (hMn4.pick [0] (by decide) rfl)⟩

theorem pairsOfLeaf_fn (p : PgL) (w : World) (hNp : PgN w p) (hk : (p).k.l.length ≤ 1048576) (hv : (p).v.l.length = (p).k.l.length) :
    Does Tryd.prog 58 [.agg #[.slice ((p).k.A) ((p).k.l.length) ((p).k.cp), .slice ((p).c.A) ((p).c.l.length) ((p).c.cp), .slice ((p).v.A) ((p).v.l.length) ((p).v.cp)]] w (fun v w1 => ∃ (A1 : Option Addr) (c1 : Nat), v = .slice (A1) ((prsP (p).t).length) (c1) ∧ Mem w w1 [] [[⟨.slice (A1) ((prsP (p).t).length) (c1), 61, 2, ((prsP (p).t).length), (prsP (p).t).flatMap encP⟩]]) := by
  have hM : Mem w w [] [] := Mem.refl
  refine Does.enter1 Tryd.func58 rfl Tryd.results58 Tryd.ntmps58 rfl ?_
  refine C.seq ?_
  refine C.region ?_
  refine O.mbox (k := 3) (vs := [.slice ((p).k.A) ((p).k.l.length) ((p).k.cp), .slice ((p).c.A) ((p).c.l.length) ((p).c.cp), .slice ((p).v.A) ((p).v.l.length) ((p).v.cp)]) hM rfl rfl rfl rfl rfl (fun w0_0 b0_0 hb0_0 (hM0_0 : Mem w w0_0 [] [[⟨.slice (bl b0_0) 1 1, 58, 3, 1, [.slice ((p).k.A) ((p).k.l.length) ((p).k.cp), .slice ((p).c.A) ((p).c.l.length) ((p).c.cp), .slice ((p).v.A) ((p).v.l.length) ((p).v.cp)]⟩]]) => ?_)
  refine O.val (v := .slice (none) (0) (0)) rfl (Ru.assign rfl) rfl ?_
  refine O.nil ?_
  refine C.seq ?_
  refine C.region ?_
  refine O.val (v := .pointer (ofs (bl b0_0) (0))) rfl (Ru.fieldA fl58_0 rfl rfl) rfl ?_
  refine O.val rfl (Ru.load1 el51 rfl ((hM0_0.rd 0 rfl).ld rfl)) rfl ?_
  refine O.val (v := I ((((p).k.l.length : Nat) : Int))) rfl (Ru.blenSlice Tryd.underlying51 rfl) rfl ?_
  refine O.mmake (k := (p).k.l.length) (sz := 2) (xs := (List.replicate ((p).k.l.length) (⟨0, 0⟩ : PairT)).flatMap encP) hM0_0 rfl Tryd.underlying25 el61 rfl rfl rfl rfl (by omega) (by omega) (zer_flat rfl) (fun w1_3 b1_3 hb1_3 (hM1_3 : Mem w w1_3 [] [[⟨.slice (bl b1_3) ((p).k.l.length) ((p).k.l.length), 61, 2, ((p).k.l.length), (List.replicate ((p).k.l.length) (⟨0, 0⟩ : PairT)).flatMap encP⟩], [⟨.slice (bl b0_0) 1 1, 58, 3, 1, [.slice ((p).k.A) ((p).k.l.length) ((p).k.cp), .slice ((p).c.A) ((p).c.l.length) ((p).c.cp), .slice ((p).v.A) ((p).v.l.length) ((p).v.cp)]⟩]]) => ?_)
  refine O.val (v := .slice (bl b1_3) ((p).k.l.length) ((p).k.l.length)) rfl (Ru.assign rfl) rfl ?_
  refine O.nil ?_
  refine C.seq ?_
  refine C.seq ?_
  refine C.region ?_
  refine O.val (v := .pointer (ofs (bl b0_0) (0))) rfl (Ru.fieldA fl58_0 rfl rfl) rfl ?_
  refine O.val rfl (Ru.load1 el51 rfl ((hM1_3.rd 1 rfl).ld rfl)) rfl ?_
  refine O.val (v := I ((((p).k.l.length : Nat) : Int))) rfl (Ru.blenSlice Tryd.underlying51 rfl) rfl ?_
  refine O.val (v := I (0)) rfl (Ru.move rfl) rfl ?_
  refine O.nil ?_
  refine C.block ?_
  have hq1 : (List.replicate ((p).k.l.length) (⟨0, 0⟩ : PairT) : List PairT) = (prsP (p).t).take 0 ++ List.replicate ((p).k.l.length - 0) (⟨0, 0⟩ : PairT) := (by simp)
  have hMn1 : Mem w w1_3 [] [[⟨.slice (bl b1_3) ((p).k.l.length) ((p).k.l.length), 61, 2, ((p).k.l.length), ((prsP (p).t).take 0 ++ List.replicate ((p).k.l.length - 0) (⟨0, 0⟩ : PairT)).flatMap encP⟩], [⟨.slice (bl b0_0) 1 1, 58, 3, 1, [.slice ((p).k.A) ((p).k.l.length) ((p).k.cp), .slice ((p).c.A) ((p).c.l.length) ((p).c.cp), .slice ((p).v.A) ((p).v.l.length) ((p).v.cp)]⟩]] := hM1_3.relen 0 (n' := (p).k.l.length) (xs' := ((prsP (p).t).take 0 ++ List.replicate ((p).k.l.length - 0) (⟨0, 0⟩ : PairT)).flatMap encP) rfl (by first | rfl | exact congrArg List.length hq1 | (have hqq := congrArg List.length hq1; first | omega | (simp at hqq ⊢; omega)) | (simp; done) | (simp; omega)) (congrArg (fun z_ => (z_).flatMap encP) hq1) rfl
  refine C.loop (ι := Nat) (fun k => ([(1, .pointer (ofs (bl b0_0) (0))), (3, .slice (bl b1_3) ((p).k.l.length) ((p).k.l.length)), (11, .slice ((p).k.A) ((p).k.l.length) ((p).k.cp)), (12, I ((((p).k.l.length : Nat) : Int))), (13, I (((k : Nat) : Int)))] : List (Nat × Value))) (fun k w_ => (k ≤ (p).k.l.length) ∧ (Mem w w_ [] [[⟨.slice (bl b1_3) ((p).k.l.length) ((p).k.l.length), 61, 2, ((p).k.l.length), ((prsP (p).t).take k ++ List.replicate ((p).k.l.length - k) (⟨0, 0⟩ : PairT)).flatMap encP⟩], [⟨.slice (bl b0_0) 1 1, 58, 3, 1, [.slice ((p).k.A) ((p).k.l.length) ((p).k.cp), .slice ((p).c.A) ((p).c.l.length) ((p).c.cp), .slice ((p).v.A) ((p).v.l.length) ((p).v.cp)]⟩]])) (fun k => (p).k.l.length - k) (0) (Has.cons rfl (Has.cons rfl (Has.cons rfl (Has.cons rfl (Has.cons (I_congr (by first | rfl | omega | (simp; omega) | simp)) Has.nil))))) ⟨(Nat.zero_le _), (hMn1.pick [0, 1] (by decide) rfl)⟩ (fun k σ w_l3 hI => ?_)
  try dsimp only at hI
  obtain ⟨hi0_l3, hM_l3⟩ := hI
  have hcl0_l3 := (hM_l3.cap 0 rfl).1
  refine C.seq ?_
  refine C.region ?_
  refine O.val (v := .bool (decide (((k : Nat) : Int) < (((p).k.l.length : Nat) : Int)))) rfl (Ru.lss rfl rfl) rfl ?_
  refine O.nil ?_
  refine C.seq ?_
  refine C.cond (p := ((k : Nat) : Int) < (((p).k.l.length : Nat) : Int)) rfl (fun c14 => ?_) (fun c14 => ?_)
  · refine C.skip ?_
    refine C.seq ?_
    refine C.block ?_
    refine C.seq ?_
    refine C.region ?_
    refine O.val (v := I (((k : Nat) : Int))) rfl (Ru.move rfl) rfl ?_
    have hx4_1 : k < ((p).k.l).length := (by first | omega | (simp; omega))
    refine O.val (v := .pointer (ofs ((p).k.A) (k * 1))) rfl (Ru.indexA (j := k) Tryd.underlying51 el3 rfl rfl (smm (hNp.at hM_l3).1 hx4_1) (by omega) (by first | omega | (simp; omega))) rfl ?_
    refine O.val rfl (Ru.load1 el3 rfl (ldm (hNp.at hM_l3).1 hx4_1)) rfl ?_
    refine O.val (v := I (((k : Nat) : Int))) rfl (Ru.assign rfl) rfl ?_
    refine O.val (v := I (((p).k.l)[k]'hx4_1)) rfl (Ru.assign rfl) rfl ?_
    refine O.nil ?_
    refine C.region ?_
    refine O.val (v := .slice (bl b1_3) ((p).k.l.length) ((p).k.l.length)) rfl (Ru.move rfl) rfl ?_
    refine O.val (v := I (((k : Nat) : Int))) rfl (Ru.move rfl) rfl ?_
    refine O.val (v := I (((p).k.l)[k]'hx4_1)) rfl (Ru.move rfl) rfl ?_
    refine O.val (v := .pointer (ofs (bl b0_0) (2))) rfl (Ru.fieldA fl58_2 rfl rfl) rfl ?_
    refine O.val rfl (Ru.load1 el51 rfl ((hM_l3.rd 1 rfl).ld rfl)) rfl ?_
    refine O.val (v := I (((k : Nat) : Int))) rfl (Ru.move rfl) rfl ?_
    have hx5_6 : k < ((p).v.l).length := (by first | omega | (simp; omega))
    refine O.val (v := .pointer (ofs ((p).v.A) (k * 1))) rfl (Ru.indexA (j := k) Tryd.underlying51 el3 rfl rfl (smm (hNp.at hM_l3).2.2 hx5_6) (by omega) (by first | omega | (simp; omega))) rfl ?_
    refine O.val rfl (Ru.load1 el3 rfl (ldm (hNp.at hM_l3).2.2 hx5_6)) rfl ?_
    refine O.val (v := .agg #[I (((p).k.l)[k]'hx4_1), I (((p).v.l)[k]'hx5_6)]) rfl (Ru.build of61 rfl rfl rfl) rfl ?_
    have hx5_9 : k < ((prsP (p).t).take k ++ List.replicate ((p).k.l.length - k) (⟨0, 0⟩ : PairT)).length := (by rw [List.length_append, List.length_take, List.length_replicate, prs_len]; show k < min k (p).k.l.length + ((p).k.l.length - k); omega)
    refine O.val (v := .pointer (ofs (bl b1_3) (k * 2))) rfl (Ru.indexA (j := k) Tryd.underlying25 el61 rfl rfl (smf encP_len (hM_l3.rd 0 rfl) hx5_9 rfl) (by omega) (by omega)) rfl ?_
    refine O.mstore (vs := [I (((p).k.l)[k]'hx4_1), I (((p).v.l)[k]'hx5_6)]) (xs' := (((prsP (p).t).take k ++ List.replicate ((p).k.l.length - k) (⟨0, 0⟩ : PairT)).set (k) (⟨((p).k.l)[k]'hx4_1, ((p).v.l)[k]'hx5_6⟩ : PairT)).flatMap encP) 0 0 hM_l3 rfl rfl rfl el61 rfl rfl rfl rfl rfl (by rw [flat_len encP_len]; simp; omega) (by simp) (spl_flat encP_len (l := (prsP (p).t).take k ++ List.replicate ((p).k.l.length - k) (⟨0, 0⟩ : PairT)) (a := (⟨((p).k.l)[k]'hx4_1, ((p).v.l)[k]'hx5_6⟩ : PairT)) hx5_9) rfl (fun w5_10 (hM5_10 : Mem w w5_10 [] [[⟨.slice (bl b1_3) ((p).k.l.length) ((p).k.l.length), 61, 2, ((p).k.l.length), (((prsP (p).t).take k ++ List.replicate ((p).k.l.length - k) (⟨0, 0⟩ : PairT)).set (k) (⟨((p).k.l)[k]'hx4_1, ((p).v.l)[k]'hx5_6⟩ : PairT)).flatMap encP⟩], [⟨.slice (bl b0_0) 1 1, 58, 3, 1, [.slice ((p).k.A) ((p).k.l.length) ((p).k.cp), .slice ((p).c.A) ((p).c.l.length) ((p).c.cp), .slice ((p).v.A) ((p).v.l.length) ((p).v.cp)]⟩]]) => ?_)
    refine O.nil ?_
    refine C.region ?_
    refine O.val (v := I ((((k + 1) : Nat) : Int))) rfl (Ru.congr (v := I ((((k : Nat) : Int) + 1))) (v' := I ((((k + 1) : Nat) : Int))) (Ru.add rfl rfl (by omega)) (I_congr (by first | omega | simp))) rfl ?_
    refine O.val (v := I ((((k + 1) : Nat) : Int))) rfl (Ru.move rfl) rfl ?_
    refine O.nil ?_
    have hq2 : (((prsP (p).t).take k ++ List.replicate ((p).k.l.length - k) (⟨0, 0⟩ : PairT)).set (k) (⟨((p).k.l)[k]'hx4_1, ((p).v.l)[k]'hx5_6⟩ : PairT) : List PairT) = (prsP (p).t).take (k + 1) ++ List.replicate ((p).k.l.length - (k + 1)) (⟨0, 0⟩ : PairT) := (prs_set hx4_1 hx5_6)
    have hMn2 : Mem w w5_10 [] [[⟨.slice (bl b1_3) ((p).k.l.length) ((p).k.l.length), 61, 2, ((p).k.l.length), ((prsP (p).t).take (k + 1) ++ List.replicate ((p).k.l.length - (k + 1)) (⟨0, 0⟩ : PairT)).flatMap encP⟩], [⟨.slice (bl b0_0) 1 1, 58, 3, 1, [.slice ((p).k.A) ((p).k.l.length) ((p).k.cp), .slice ((p).c.A) ((p).c.l.length) ((p).c.cp), .slice ((p).v.A) ((p).v.l.length) ((p).v.cp)]⟩]] := hM5_10.relen 0 (n' := (p).k.l.length) (xs' := ((prsP (p).t).take (k + 1) ++ List.replicate ((p).k.l.length - (k + 1)) (⟨0, 0⟩ : PairT)).flatMap encP) rfl (by first | rfl | exact congrArg List.length hq2 | (have hqq := congrArg List.length hq2; first | omega | (simp at hqq ⊢; omega)) | (simp; done) | (simp; omega)) (congrArg (fun z_ => (z_).flatMap encP) hq2) rfl
    exact loopEnd (k + 1) (by (try dsimp only); omega) (Has.cons rfl (Has.cons rfl (Has.cons rfl (Has.cons rfl (Has.cons (I_congr (by first | rfl | omega | (simp; omega) | simp)) Has.nil))))) ⟨(by (try dsimp only); omega), (hMn2.pick [0, 1] (by decide) rfl)⟩
  · refine C.exit ?_
    refine C.seq ?_
    refine C.region ?_
    refine O.val (v := .slice (bl b1_3) ((p).k.l.length) ((p).k.l.length)) rfl (Ru.move rfl) rfl ?_
    refine O.val (v := .slice (bl b1_3) ((p).k.l.length) ((p).k.l.length)) rfl (Ru.assign rfl) rfl ?_
    refine O.nil ?_
    refine C.ret ?_
    refine P1 (v := .slice (bl b1_3) ((p).k.l.length) ((p).k.l.length)) rfl ?_
    have hke : k = (p).k.l.length := by omega
    have hq3 : ((prsP (p).t).take k ++ List.replicate ((p).k.l.length - k) (⟨0, 0⟩ : PairT) : List PairT) = prsP (p).t := (by rw [prs_take (by omega), show (p).k.l.length - k = 0 by omega]; simp)
    have hMn3 : Mem w w_l3 [] [[⟨.slice (bl b1_3) ((prsP (p).t).length) ((p).k.l.length), 61, 2, ((prsP (p).t).length), (prsP (p).t).flatMap encP⟩], [⟨.slice (bl b0_0) 1 1, 58, 3, 1, [.slice ((p).k.A) ((p).k.l.length) ((p).k.cp), .slice ((p).c.A) ((p).c.l.length) ((p).c.cp), .slice ((p).v.A) ((p).v.l.length) ((p).v.cp)]⟩]] := hM_l3.relen 0 (n' := (prsP (p).t).length) (xs' := (prsP (p).t).flatMap encP) rfl (by first | rfl | exact congrArg List.length hq3 | (have hqq := congrArg List.length hq3; first | omega | (simp at hqq ⊢; omega)) | (simp; done) | (simp; omega)) (congrArg (fun z_ => (z_).flatMap encP) hq3) rfl
    exact ⟨bl b1_3, (p).k.l.length, (sl_congr (by rw [prs_len]; rfl)), (hMn3.pick [0] (by decide) rfl)⟩

theorem slistText_fn (A : Option Addr) (c : Nat) (l : List Int) (w : World) (hA : Rd w A ((l).map I)) (hl : l.length ≤ 1000) (hb : ∀ x ∈ l, -99999 ≤ x ∧ x ≤ 99999) :
    Does Tryd.prog 56 [.slice (A) ((l).length) (c)] w (fun v w1 => v = S (fmtI l) ∧ Mem w w1 [] []) := by
  have hM : Mem w w [] [] := Mem.refl
  refine Does.enter1 Tryd.func56 rfl Tryd.results56 Tryd.ntmps56 rfl ?_
  refine C.seq ?_
  refine C.region ?_
  refine O.val (v := S ([])) rfl (Ru.assign rfl) rfl ?_
  refine O.nil ?_
  refine C.seq ?_
  refine C.region ?_
  refine O.val (v := S ([])) rfl (Ru.assign rfl) rfl ?_
  refine O.nil ?_
  refine C.seq ?_
  refine C.seq ?_
  refine C.region ?_
  refine O.val (v := I (0)) rfl (Ru.assign rfl) rfl ?_
  refine O.nil ?_
  refine C.block ?_
  refine C.loop (ι := Nat) (fun k => ([(0, .slice (A) ((l).length) (c)), (3, S (fmtI (l.take k))), (4, I (((k : Nat) : Int)))] : List (Nat × Value))) (fun k w_ => (k ≤ l.length) ∧ (Mem w w_ [] [])) (fun k => l.length - k) (0) (Has.cons rfl (Has.cons (congrArg S (by simp [fmtI])) (Has.cons (I_congr (by first | rfl | omega | (simp; omega) | simp)) Has.nil))) ⟨(Nat.zero_le _), (hM.pick [] (by decide) rfl)⟩ (fun k σ w_l3 hI => ?_)
  try dsimp only at hI
  obtain ⟨hi0_l3, hM_l3⟩ := hI
  refine C.seq ?_
  refine C.seq ?_
  refine C.region ?_
  refine O.val (v := I (((k : Nat) : Int))) rfl (Ru.move rfl) rfl ?_
  refine O.val (v := .slice (A) ((l).length) (c)) rfl (Ru.move rfl) rfl ?_
  refine O.val (v := I ((((l).length : Nat) : Int))) rfl (Ru.blenSlice Tryd.underlying51 rfl) rfl ?_
  refine O.val (v := .bool (decide (((k : Nat) : Int) < (((l).length : Nat) : Int)))) rfl (Ru.lss rfl rfl) rfl ?_
  refine O.nil ?_
  refine C.cond (p := ((k : Nat) : Int) < (((l).length : Nat) : Int)) rfl (fun c8 => ?_) (fun c8 => ?_)
  · have hkl : k < l.length := by omega
    have hxb := hb _ (List.getElem_mem hkl)
    have hfl := fmtI_len (l := l) (fun x hx => by have := hb x hx; omega) k (by omega)
    have hfe := fmtI_take hkl
    have hil := itoa_len (n := l[k]) (by omega) (by omega)
    refine C.skip ?_
    refine C.seq ?_
    refine C.block ?_
    refine C.seq ?_
    refine C.seq ?_
    refine C.region ?_
    refine O.val (v := I (((k : Nat) : Int))) rfl (Ru.move rfl) rfl ?_
    refine O.val (v := .bool (decide (((k : Nat) : Int) > 0))) rfl (Ru.gtr rfl rfl) rfl ?_
    refine O.nil ?_
    refine C.cond (p := ((k : Nat) : Int) > 0) rfl (fun c12 => ?_) (fun c12 => ?_)
    · have hk0 : k ≠ 0 := by omega
      refine C.region ?_
      refine O.val (v := S (fmtI (l.take k))) rfl (Ru.move rfl) rfl ?_
      refine O.val (v := S ((fmtI (l.take k) ++ [44]))) rfl (Ru.sadd rfl rfl (by first | omega | (simp; omega))) rfl ?_
      refine O.val (v := S ((fmtI (l.take k) ++ [44]))) rfl (Ru.assign rfl) rfl ?_
      refine O.nil ?_
      refine C.region ?_
      refine O.val (v := S ((fmtI (l.take k) ++ [44]))) rfl (Ru.move rfl) rfl ?_
      refine O.val (v := .slice (A) ((l).length) (c)) rfl (Ru.move rfl) rfl ?_
      refine O.val (v := I (((k : Nat) : Int))) rfl (Ru.move rfl) rfl ?_
      have hx7_3 : k < (l).length := (by first | omega | (simp; omega))
      refine O.val (v := .pointer (ofs (A) (k * 1))) rfl (Ru.indexA (j := k) Tryd.underlying51 el3 rfl rfl (smm (hA.at hM_l3) hx7_3) (by omega) (by first | omega | (simp; omega))) rfl ?_
      refine O.val rfl (Ru.load1 el3 rfl (ldm (hA.at hM_l3) hx7_3)) rfl ?_
      refine O.callg [I ((l)[k]'hx7_3)] rfl en82 rfl rfl (decimal_fn ((l)[k]'hx7_3) w_l3 (by omega)) ?_
      rintro _ w7_5 ⟨rfl, hR7_5⟩
      have hM7_5 : Mem w w7_5 [] [] := Mem.call (Ma := []) hM_l3 hR7_5 rfl
      refine O.val (v := S (((fmtI (l.take k) ++ [44]) ++ itoaS ((l)[k]'hx7_3)))) rfl (Ru.sadd rfl rfl (by first | omega | (simp; omega))) rfl ?_
      refine O.val (v := S (((fmtI (l.take k) ++ [44]) ++ itoaS ((l)[k]'hx7_3)))) rfl (Ru.assign rfl) rfl ?_
      refine O.nil ?_
      refine C.region ?_
      refine O.val (v := I (((k : Nat) : Int))) rfl (Ru.move rfl) rfl ?_
      refine O.val (v := I ((((k + 1) : Nat) : Int))) rfl (Ru.congr (v := I ((((k : Nat) : Int) + 1))) (v' := I ((((k + 1) : Nat) : Int))) (Ru.add rfl rfl (by omega)) (I_congr (by first | omega | simp))) rfl ?_
      refine O.val (v := I ((((k + 1) : Nat) : Int))) rfl (Ru.assign rfl) rfl ?_
      refine O.nil ?_
      exact loopEnd (k + 1) (by (try dsimp only); omega) (Has.cons rfl (Has.cons (congrArg S (by rw [hfe]; simp [hk0])) (Has.cons (I_congr (by first | rfl | omega | (simp; omega) | simp)) Has.nil))) ⟨(by (try dsimp only); omega), (hM7_5.pick [] (by decide) rfl)⟩
    · have hk0 : k = 0 := by omega
      refine C.skip ?_
      refine C.region ?_
      refine O.val (v := S (fmtI (l.take k))) rfl (Ru.move rfl) rfl ?_
      refine O.val (v := .slice (A) ((l).length) (c)) rfl (Ru.move rfl) rfl ?_
      refine O.val (v := I (((k : Nat) : Int))) rfl (Ru.move rfl) rfl ?_
      have hx7_3 : k < (l).length := (by first | omega | (simp; omega))
      refine O.val (v := .pointer (ofs (A) (k * 1))) rfl (Ru.indexA (j := k) Tryd.underlying51 el3 rfl rfl (smm (hA.at hM_l3) hx7_3) (by omega) (by first | omega | (simp; omega))) rfl ?_
      refine O.val rfl (Ru.load1 el3 rfl (ldm (hA.at hM_l3) hx7_3)) rfl ?_
      refine O.callg [I ((l)[k]'hx7_3)] rfl en82 rfl rfl (decimal_fn ((l)[k]'hx7_3) w_l3 (by omega)) ?_
      rintro _ w7_5 ⟨rfl, hR7_5⟩
      have hM7_5 : Mem w w7_5 [] [] := Mem.call (Ma := []) hM_l3 hR7_5 rfl
      refine O.val (v := S ((fmtI (l.take k) ++ itoaS ((l)[k]'hx7_3)))) rfl (Ru.sadd rfl rfl (by first | omega | (simp; omega))) rfl ?_
      refine O.val (v := S ((fmtI (l.take k) ++ itoaS ((l)[k]'hx7_3)))) rfl (Ru.assign rfl) rfl ?_
      refine O.nil ?_
      refine C.region ?_
      refine O.val (v := I (((k : Nat) : Int))) rfl (Ru.move rfl) rfl ?_
      refine O.val (v := I ((((k + 1) : Nat) : Int))) rfl (Ru.congr (v := I ((((k : Nat) : Int) + 1))) (v' := I ((((k + 1) : Nat) : Int))) (Ru.add rfl rfl (by omega)) (I_congr (by first | omega | simp))) rfl ?_
      refine O.val (v := I ((((k + 1) : Nat) : Int))) rfl (Ru.assign rfl) rfl ?_
      refine O.nil ?_
      exact loopEnd (k + 1) (by (try dsimp only); omega) (Has.cons rfl (Has.cons (congrArg S (by rw [hfe]; simp [hk0])) (Has.cons (I_congr (by first | rfl | omega | (simp; omega) | simp)) Has.nil))) ⟨(by (try dsimp only); omega), (hM7_5.pick [] (by decide) rfl)⟩
  · refine C.exit ?_
    refine C.seq ?_
    refine C.region ?_
    refine O.val (v := S (fmtI (l.take k))) rfl (Ru.move rfl) rfl ?_
    refine O.val (v := S (fmtI (l.take k))) rfl (Ru.assign rfl) rfl ?_
    refine O.nil ?_
    refine C.ret ?_
    refine P1 (v := S (fmtI (l.take k))) rfl ?_
    exact ⟨(congrArg S (by rw [List.take_of_length_le (by omega)])), (Mem.none hM_l3)⟩

theorem listText_fn (A : Option Addr) (c : Nat) (l : List Int) (w : World) (hA : Rd w A ((l).map I)) (hl : l.length ≤ 1000) (hb : ∀ x ∈ l, -99999 ≤ x ∧ x ≤ 99999) (htab : TAB w) :
    Does Tryd.prog 59 [.slice (A) ((l).length) (c)] w (fun v w1 => v = S (fmtI l) ∧ Mem w w1 [] []) := by
  have hM : Mem w w [] [] := Mem.refl
  refine Does.enter1 Tryd.func59 rfl Tryd.results59 Tryd.ntmps59 rfl ?_
  refine C.seq ?_
  refine C.region ?_
  refine O.val (v := S ([])) rfl (Ru.assign rfl) rfl ?_
  refine O.nil ?_
  refine C.seq ?_
  refine C.region ?_
  refine O.malloc (k := 2) hM rfl rfl el66 rfl (fun w1_0 b1_0 hb1_0 (hM1_0 : Mem w w1_0 [] [[⟨.slice (bl b1_0) 1 1, 66, 2, 1, [(.pointer none), .slice (none) (0) (0)]⟩]]) => ?_)
  refine O.nil ?_
  refine C.seq ?_
  refine C.seq ?_
  refine C.region ?_
  refine O.val (v := .slice (A) ((l).length) (c)) rfl (Ru.move rfl) rfl ?_
  refine O.val (v := I ((((l).length : Nat) : Int))) rfl (Ru.blenSlice Tryd.underlying51 rfl) rfl ?_
  refine O.val (v := I (0)) rfl (Ru.move rfl) rfl ?_
  refine O.nil ?_
  refine C.block ?_
  have hMn1 : Mem w w1_0 [] [[⟨.slice (none) (0) (0), 5, 1, 0, ([]).map byteV⟩], [⟨.slice (bl b1_0) 1 1, 66, 2, 1, [(.pointer none), .slice (none) (0) (0)]⟩]] := Mem.addNil hM1_0
  have hq2 : ([] : List UInt8) = fmtI (l.take 0) := (by simp [fmtI])
  have hMn2 : Mem w w1_0 [] [[⟨.slice (none) ((fmtI (l.take 0)).length) (0), 5, 1, ((fmtI (l.take 0)).length), (fmtI (l.take 0)).map byteV⟩], [⟨.slice (bl b1_0) 1 1, 66, 2, 1, [(.pointer none), .slice (none) (0) (0)]⟩]] := hMn1.relen 0 (n' := (fmtI (l.take 0)).length) (xs' := (fmtI (l.take 0)).map byteV) rfl (by first | rfl | exact congrArg List.length hq2 | (have hqq := congrArg List.length hq2; first | omega | (simp at hqq ⊢; omega)) | (simp; done) | (simp; omega)) (congrArg (fun z_ => (z_).map byteV) hq2) rfl
  have hMn3 : Mem w w1_0 [] [[⟨.slice (none) ((fmtI (l.take 0)).length) (0), 5, 1, ((fmtI (l.take 0)).length), (fmtI (l.take 0)).map byteV⟩], [⟨.slice (bl b1_0) 1 1, 66, 2, 1, [(.pointer none), .slice (none) ((fmtI (l.take 0)).length) (0)]⟩]] := Mem.cast hMn2 (congrArg (fun z_ : Nat => ([[⟨.slice (none) ((fmtI (l.take 0)).length) (0), 5, 1, ((fmtI (l.take 0)).length), (fmtI (l.take 0)).map byteV⟩], [⟨.slice (bl b1_0) 1 1, 66, 2, 1, [(.pointer none), .slice (none) (z_) (0)]⟩]] : List (List FE))) (show 0 = (fmtI (l.take 0)).length from (by simp [fmtI])))
  refine C.loop (ι := Nat × Value × (Option Addr) × Nat) (fun x_ => ([(3, .pointer (ofs (bl b1_0) (0))), (6, .slice (A) ((l).length) (c)), (7, I ((((l).length : Nat) : Int))), (8, I (((x_.1 : Nat) : Int)))] : List (Nat × Value))) (fun x_ w_ => (x_.1 ≤ l.length) ∧ (x_.2.1 = .pointer none ∨ x_.2.1 = .pointer (ofs (bl b1_0) 0)) ∧ (Mem w w_ [] [[⟨.slice (x_.2.2.1) ((fmtI (l.take x_.1)).length) (x_.2.2.2), 5, 1, ((fmtI (l.take x_.1)).length), (fmtI (l.take x_.1)).map byteV⟩], [⟨.slice (bl b1_0) 1 1, 66, 2, 1, [(x_.2.1), .slice (x_.2.2.1) ((fmtI (l.take x_.1)).length) (x_.2.2.2)]⟩]])) (fun x_ => l.length - x_.1) (0, (.pointer none), none, 0) (Has.cons rfl (Has.cons rfl (Has.cons rfl (Has.cons (I_congr (by first | rfl | omega | (simp; omega) | simp)) Has.nil)))) ⟨(Nat.zero_le _), (.inl rfl), (hMn3.pick [0, 1] (by decide) rfl)⟩ (fun ⟨k, pv, A2, c2⟩ σ w_l3 hI => ?_)
  try dsimp only at hI
  obtain ⟨hi0_l3, hi1_l3, hM_l3⟩ := hI
  have hcl0_l3 := (hM_l3.cap 0 rfl).1
  refine C.seq ?_
  refine C.region ?_
  refine O.val (v := .bool (decide (((k : Nat) : Int) < (((l).length : Nat) : Int)))) rfl (Ru.lss rfl rfl) rfl ?_
  refine O.nil ?_
  refine C.seq ?_
  refine C.cond (p := ((k : Nat) : Int) < (((l).length : Nat) : Int)) rfl (fun c9 => ?_) (fun c9 => ?_)
  · have hkl : k < l.length := by omega
    have hxb := hb _ (List.getElem_mem hkl)
    have hfl := fmtI_len (l := l) (fun x hx => by have := hb x hx; omega) k (by omega)
    have hfe := fmtI_take hkl
    have hil := itoa_len (n := l[k]) (by omega) (by omega)
    refine C.skip ?_
    refine C.seq ?_
    refine C.block ?_
    refine C.seq ?_
    refine C.region ?_
    refine O.val (v := I (((k : Nat) : Int))) rfl (Ru.move rfl) rfl ?_
    have hx4_1 : k < (l).length := (by first | omega | (simp; omega))
    refine O.val (v := .pointer (ofs (A) (k * 1))) rfl (Ru.indexA (j := k) Tryd.underlying51 el3 rfl rfl (smm (hA.at hM_l3) hx4_1) (by omega) (by first | omega | (simp; omega))) rfl ?_
    refine O.val rfl (Ru.load1 el3 rfl (ldm (hA.at hM_l3) hx4_1)) rfl ?_
    refine O.val (v := I (((k : Nat) : Int))) rfl (Ru.assign rfl) rfl ?_
    refine O.val (v := I ((l)[k]'hx4_1)) rfl (Ru.assign rfl) rfl ?_
    refine O.nil ?_
    refine C.seq ?_
    refine C.seq ?_
    refine C.region ?_
    refine O.val (v := I (((k : Nat) : Int))) rfl (Ru.move rfl) rfl ?_
    refine O.val (v := .bool (decide (((k : Nat) : Int) > 0))) rfl (Ru.gtr rfl rfl) rfl ?_
    refine O.nil ?_
    refine C.cond (p := ((k : Nat) : Int) > 0) rfl (fun c14 => ?_) (fun c14 => ?_)
    · have hk0 : k ≠ 0 := by omega
      refine C.region ?_
      have hMf6_0 : Mem w w_l3 [] [[⟨.slice (bl b1_0) 1 1, 66, 2, 1, [(pv), .slice (A2) ((fmtI (l.take k)).length) (c2)]⟩], [⟨.slice (A2) ((fmtI (l.take k)).length) (c2), 5, 1, ((fmtI (l.take k)).length), (fmtI (l.take k)).map byteV⟩]] := hM_l3.pick [1, 0] (by decide) rfl
      refine O.callg [.pointer (ofs (bl b1_0) (0)), .int .u8 (44)] rfl en45 rfl rfl (WriteByte_fn b1_0 A2 c2 (fmtI (l.take k)) (pv) (44 : UInt8) w_l3 (Mem.focus (Ma := [[⟨.slice (bl b1_0) 1 1, 66, 2, 1, [(pv), .slice (A2) ((fmtI (l.take k)).length) (c2)]⟩], [⟨.slice (A2) ((fmtI (l.take k)).length) (c2), 5, 1, ((fmtI (l.take k)).length), (fmtI (l.take k)).map byteV⟩]]) (rest := []) hMf6_0 rfl) (by first | exact .inl rfl | exact .inr rfl | assumption) (by first | omega | (simp; omega))) ?_
      rintro _ w6_0 ⟨A16_0, c16_0, rfl, hR6_0⟩
      have hM6_0 : Mem w w6_0 [] [[⟨.slice (bl b1_0) 1 1, 66, 2, 1, [.pointer (ofs (bl b1_0) (0)), .slice (A16_0) (((fmtI (l.take k)) ++ [(44 : UInt8)]).length) (c16_0)]⟩], [⟨.slice (A16_0) (((fmtI (l.take k)) ++ [(44 : UInt8)]).length) (c16_0), 5, 1, (((fmtI (l.take k)) ++ [(44 : UInt8)]).length), ((fmtI (l.take k)) ++ [(44 : UInt8)]).map byteV⟩]] := Mem.call (Ma := [[⟨.slice (bl b1_0) 1 1, 66, 2, 1, [(pv), .slice (A2) ((fmtI (l.take k)).length) (c2)]⟩], [⟨.slice (A2) ((fmtI (l.take k)).length) (c2), 5, 1, ((fmtI (l.take k)).length), (fmtI (l.take k)).map byteV⟩]]) hMf6_0 hR6_0 rfl
      have hcr6_0_1 := (hM6_0.cap 1 rfl).1
      refine O.nil ?_
      refine C.region ?_
      refine O.val (v := I ((l)[k]'hx4_1)) rfl (Ru.move rfl) rfl ?_
      refine O.callg [I ((l)[k]'hx4_1)] rfl en47 rfl rfl (Itoa_fn ((l)[k]'hx4_1) w6_0 (tab_at htab hM6_0) (by constructor <;> omega)) ?_
      rintro _ w7_1 ⟨rfl, hR7_1⟩
      have hM7_1 : Mem w w7_1 [] [[⟨.slice (bl b1_0) 1 1, 66, 2, 1, [.pointer (ofs (bl b1_0) (0)), .slice (A16_0) (((fmtI (l.take k)) ++ [(44 : UInt8)]).length) (c16_0)]⟩], [⟨.slice (A16_0) (((fmtI (l.take k)) ++ [(44 : UInt8)]).length) (c16_0), 5, 1, (((fmtI (l.take k)) ++ [(44 : UInt8)]).length), ((fmtI (l.take k)) ++ [(44 : UInt8)]).map byteV⟩]] := Mem.call (Ma := []) hM6_0 hR7_1 rfl
      refine O.callg [.pointer (ofs (bl b1_0) (0)), S (itoaS ((l)[k]'hx4_1))] rfl en46 rfl rfl (WriteString_fn b1_0 A16_0 c16_0 ((fmtI (l.take k)) ++ [(44 : UInt8)]) (.pointer (ofs (bl b1_0) (0))) (itoaS ((l)[k]'hx4_1)) w7_1 (Mem.focus (Ma := [[⟨.slice (bl b1_0) 1 1, 66, 2, 1, [.pointer (ofs (bl b1_0) (0)), .slice (A16_0) (((fmtI (l.take k)) ++ [(44 : UInt8)]).length) (c16_0)]⟩], [⟨.slice (A16_0) (((fmtI (l.take k)) ++ [(44 : UInt8)]).length) (c16_0), 5, 1, (((fmtI (l.take k)) ++ [(44 : UInt8)]).length), ((fmtI (l.take k)) ++ [(44 : UInt8)]).map byteV⟩]]) (rest := []) hM7_1 rfl) (by first | exact .inl rfl | exact .inr rfl | assumption) (by first | omega | (simp; omega))) ?_
      rintro _ w7_2 ⟨A17_2, c17_2, rfl, hR7_2⟩
      have hM7_2 : Mem w w7_2 [] [[⟨.slice (bl b1_0) 1 1, 66, 2, 1, [.pointer (ofs (bl b1_0) (0)), .slice (A17_2) ((((fmtI (l.take k)) ++ [(44 : UInt8)]) ++ (itoaS ((l)[k]'hx4_1))).length) (c17_2)]⟩], [⟨.slice (A17_2) ((((fmtI (l.take k)) ++ [(44 : UInt8)]) ++ (itoaS ((l)[k]'hx4_1))).length) (c17_2), 5, 1, ((((fmtI (l.take k)) ++ [(44 : UInt8)]) ++ (itoaS ((l)[k]'hx4_1))).length), (((fmtI (l.take k)) ++ [(44 : UInt8)]) ++ (itoaS ((l)[k]'hx4_1))).map byteV⟩]] := Mem.call (Ma := [[⟨.slice (bl b1_0) 1 1, 66, 2, 1, [.pointer (ofs (bl b1_0) (0)), .slice (A16_0) (((fmtI (l.take k)) ++ [(44 : UInt8)]).length) (c16_0)]⟩], [⟨.slice (A16_0) (((fmtI (l.take k)) ++ [(44 : UInt8)]).length) (c16_0), 5, 1, (((fmtI (l.take k)) ++ [(44 : UInt8)]).length), ((fmtI (l.take k)) ++ [(44 : UInt8)]).map byteV⟩]]) hM7_1 hR7_2 rfl
      have hcr7_2_1 := (hM7_2.cap 1 rfl).1
      refine O.nil ?_
      refine C.region ?_
      refine O.val (v := I ((((k + 1) : Nat) : Int))) rfl (Ru.congr (v := I ((((k : Nat) : Int) + 1))) (v' := I ((((k + 1) : Nat) : Int))) (Ru.add rfl rfl (by omega)) (I_congr (by first | omega | simp))) rfl ?_
      refine O.val (v := I ((((k + 1) : Nat) : Int))) rfl (Ru.move rfl) rfl ?_
      refine O.nil ?_
      have hq4 : (((fmtI (l.take k)) ++ [(44 : UInt8)]) ++ (itoaS ((l)[k]'hx4_1)) : List UInt8) = fmtI (l.take (k + 1)) := (by rw [hfe]; simp [hk0])
      have hMn4 : Mem w w7_2 [] [[⟨.slice (bl b1_0) 1 1, 66, 2, 1, [.pointer (ofs (bl b1_0) (0)), .slice (A17_2) ((((fmtI (l.take k)) ++ [(44 : UInt8)]) ++ (itoaS ((l)[k]'hx4_1))).length) (c17_2)]⟩], [⟨.slice (A17_2) ((fmtI (l.take (k + 1))).length) (c17_2), 5, 1, ((fmtI (l.take (k + 1))).length), (fmtI (l.take (k + 1))).map byteV⟩]] := hM7_2.relen 1 (n' := (fmtI (l.take (k + 1))).length) (xs' := (fmtI (l.take (k + 1))).map byteV) rfl (by first | rfl | exact congrArg List.length hq4 | (have hqq := congrArg List.length hq4; first | omega | (simp at hqq ⊢; omega)) | (simp; done) | (simp; omega)) (congrArg (fun z_ => (z_).map byteV) hq4) rfl
      have hMn5 : Mem w w7_2 [] [[⟨.slice (bl b1_0) 1 1, 66, 2, 1, [.pointer (ofs (bl b1_0) (0)), .slice (A17_2) ((fmtI (l.take (k + 1))).length) (c17_2)]⟩], [⟨.slice (A17_2) ((fmtI (l.take (k + 1))).length) (c17_2), 5, 1, ((fmtI (l.take (k + 1))).length), (fmtI (l.take (k + 1))).map byteV⟩]] := Mem.cast hMn4 (congrArg (fun z_ : Nat => ([[⟨.slice (bl b1_0) 1 1, 66, 2, 1, [.pointer (ofs (bl b1_0) (0)), .slice (A17_2) (z_) (c17_2)]⟩], [⟨.slice (A17_2) ((fmtI (l.take (k + 1))).length) (c17_2), 5, 1, ((fmtI (l.take (k + 1))).length), (fmtI (l.take (k + 1))).map byteV⟩]] : List (List FE))) (show (((fmtI (l.take k)) ++ [(44 : UInt8)]) ++ (itoaS ((l)[k]'hx4_1))).length = (fmtI (l.take (k + 1))).length from congrArg List.length hq4))
      exact loopEnd (k + 1, (.pointer (ofs (bl b1_0) (0))), A17_2, c17_2) (by (try dsimp only); omega) (Has.cons rfl (Has.cons rfl (Has.cons rfl (Has.cons (I_congr (by first | rfl | omega | (simp; omega) | simp)) Has.nil)))) ⟨(by (try dsimp only); omega), (.inr rfl), (hMn5.pick [1, 0] (by decide) rfl)⟩
    · have hk0 : k = 0 := by omega
      refine C.skip ?_
      refine C.region ?_
      refine O.val (v := I ((l)[k]'hx4_1)) rfl (Ru.move rfl) rfl ?_
      refine O.callg [I ((l)[k]'hx4_1)] rfl en47 rfl rfl (Itoa_fn ((l)[k]'hx4_1) w_l3 (tab_at htab hM_l3) (by constructor <;> omega)) ?_
      rintro _ w7_1 ⟨rfl, hR7_1⟩
      have hM7_1 : Mem w w7_1 [] [[⟨.slice (A2) ((fmtI (l.take k)).length) (c2), 5, 1, ((fmtI (l.take k)).length), (fmtI (l.take k)).map byteV⟩], [⟨.slice (bl b1_0) 1 1, 66, 2, 1, [(pv), .slice (A2) ((fmtI (l.take k)).length) (c2)]⟩]] := Mem.call (Ma := []) hM_l3 hR7_1 rfl
      have hMf7_2 : Mem w w7_1 [] [[⟨.slice (bl b1_0) 1 1, 66, 2, 1, [(pv), .slice (A2) ((fmtI (l.take k)).length) (c2)]⟩], [⟨.slice (A2) ((fmtI (l.take k)).length) (c2), 5, 1, ((fmtI (l.take k)).length), (fmtI (l.take k)).map byteV⟩]] := hM7_1.pick [1, 0] (by decide) rfl
      refine O.callg [.pointer (ofs (bl b1_0) (0)), S (itoaS ((l)[k]'hx4_1))] rfl en46 rfl rfl (WriteString_fn b1_0 A2 c2 (fmtI (l.take k)) (pv) (itoaS ((l)[k]'hx4_1)) w7_1 (Mem.focus (Ma := [[⟨.slice (bl b1_0) 1 1, 66, 2, 1, [(pv), .slice (A2) ((fmtI (l.take k)).length) (c2)]⟩], [⟨.slice (A2) ((fmtI (l.take k)).length) (c2), 5, 1, ((fmtI (l.take k)).length), (fmtI (l.take k)).map byteV⟩]]) (rest := []) hMf7_2 rfl) (by first | exact .inl rfl | exact .inr rfl | assumption) (by first | omega | (simp; omega))) ?_
      rintro _ w7_2 ⟨A17_2, c17_2, rfl, hR7_2⟩
      have hM7_2 : Mem w w7_2 [] [[⟨.slice (bl b1_0) 1 1, 66, 2, 1, [.pointer (ofs (bl b1_0) (0)), .slice (A17_2) (((fmtI (l.take k)) ++ (itoaS ((l)[k]'hx4_1))).length) (c17_2)]⟩], [⟨.slice (A17_2) (((fmtI (l.take k)) ++ (itoaS ((l)[k]'hx4_1))).length) (c17_2), 5, 1, (((fmtI (l.take k)) ++ (itoaS ((l)[k]'hx4_1))).length), ((fmtI (l.take k)) ++ (itoaS ((l)[k]'hx4_1))).map byteV⟩]] := Mem.call (Ma := [[⟨.slice (bl b1_0) 1 1, 66, 2, 1, [(pv), .slice (A2) ((fmtI (l.take k)).length) (c2)]⟩], [⟨.slice (A2) ((fmtI (l.take k)).length) (c2), 5, 1, ((fmtI (l.take k)).length), (fmtI (l.take k)).map byteV⟩]]) hMf7_2 hR7_2 rfl
      have hcr7_2_1 := (hM7_2.cap 1 rfl).1
      refine O.nil ?_
      refine C.region ?_
      refine O.val (v := I ((((k + 1) : Nat) : Int))) rfl (Ru.congr (v := I ((((k : Nat) : Int) + 1))) (v' := I ((((k + 1) : Nat) : Int))) (Ru.add rfl rfl (by omega)) (I_congr (by first | omega | simp))) rfl ?_
      refine O.val (v := I ((((k + 1) : Nat) : Int))) rfl (Ru.move rfl) rfl ?_
      refine O.nil ?_
      have hq6 : ((fmtI (l.take k)) ++ (itoaS ((l)[k]'hx4_1)) : List UInt8) = fmtI (l.take (k + 1)) := (by rw [hfe]; simp [hk0])
      have hMn6 : Mem w w7_2 [] [[⟨.slice (bl b1_0) 1 1, 66, 2, 1, [.pointer (ofs (bl b1_0) (0)), .slice (A17_2) (((fmtI (l.take k)) ++ (itoaS ((l)[k]'hx4_1))).length) (c17_2)]⟩], [⟨.slice (A17_2) ((fmtI (l.take (k + 1))).length) (c17_2), 5, 1, ((fmtI (l.take (k + 1))).length), (fmtI (l.take (k + 1))).map byteV⟩]] := hM7_2.relen 1 (n' := (fmtI (l.take (k + 1))).length) (xs' := (fmtI (l.take (k + 1))).map byteV) rfl (by first | rfl | exact congrArg List.length hq6 | (have hqq := congrArg List.length hq6; first | omega | (simp at hqq ⊢; omega)) | (simp; done) | (simp; omega)) (congrArg (fun z_ => (z_).map byteV) hq6) rfl
      have hMn7 : Mem w w7_2 [] [[⟨.slice (bl b1_0) 1 1, 66, 2, 1, [.pointer (ofs (bl b1_0) (0)), .slice (A17_2) ((fmtI (l.take (k + 1))).length) (c17_2)]⟩], [⟨.slice (A17_2) ((fmtI (l.take (k + 1))).length) (c17_2), 5, 1, ((fmtI (l.take (k + 1))).length), (fmtI (l.take (k + 1))).map byteV⟩]] := Mem.cast hMn6 (congrArg (fun z_ : Nat => ([[⟨.slice (bl b1_0) 1 1, 66, 2, 1, [.pointer (ofs (bl b1_0) (0)), .slice (A17_2) (z_) (c17_2)]⟩], [⟨.slice (A17_2) ((fmtI (l.take (k + 1))).length) (c17_2), 5, 1, ((fmtI (l.take (k + 1))).length), (fmtI (l.take (k + 1))).map byteV⟩]] : List (List FE))) (show ((fmtI (l.take k)) ++ (itoaS ((l)[k]'hx4_1))).length = (fmtI (l.take (k + 1))).length from congrArg List.length hq6))
      exact loopEnd (k + 1, (.pointer (ofs (bl b1_0) (0))), A17_2, c17_2) (by (try dsimp only); omega) (Has.cons rfl (Has.cons rfl (Has.cons rfl (Has.cons (I_congr (by first | rfl | omega | (simp; omega) | simp)) Has.nil)))) ⟨(by (try dsimp only); omega), (.inr rfl), (hMn7.pick [1, 0] (by decide) rfl)⟩
  · refine C.exit ?_
    refine C.seq ?_
    refine C.region ?_
    refine O.callg [.pointer (ofs (bl b1_0) (0))] rfl en48 rfl rfl (String_fn (l := fmtI (l.take k)) w_l3 hM_l3.size (hM_l3.builder 1 0 rfl rfl (by exact hi1_l3))) ?_
    rintro _ w9_0 ⟨rfl, hB9_0⟩
    have hM9_0 : Mem w w9_0 [] [] := mem_below hM_l3 hB9_0
    refine O.val (v := S (fmtI (l.take k))) rfl (Ru.assign rfl) rfl ?_
    refine O.nil ?_
    refine C.ret ?_
    refine P1 (v := S (fmtI (l.take k))) rfl ?_
    exact ⟨(congrArg S (by rw [List.take_of_length_le (by omega)])), (Mem.none hM9_0)⟩

theorem pageText0_fn : ∀ (T : TreeL) (at0 : Int) (lo : Int) (hi : Int) (w : World) (hNT : TrN w T) (hs : SzT T) (hok : okB (T).t 0 at0 lo hi = true) (h3 : 0 ≤ 3), Does Tryd.prog 61 [.agg #[I ((T).root), .slice ((T).A) ((T).l.length) ((T).cp)], I (at0)] w (fun v w1 => v = S (textT (T).t 0 at0) ∧ Mem w w1 [] []) := by
  intro T at0 lo hi w hNT hs hok h3; simp [okB] at hok

set_option maxHeartbeats 2000000 in
theorem pageTextS_fn (n : Nat) (ih_fn : ∀ (T : TreeL) (at0 : Int) (lo : Int) (hi : Int) (w : World) (hNT : TrN w T) (hs : SzT T) (hok : okB (T).t n at0 lo hi = true) (h3 : n ≤ 3), Does Tryd.prog 61 [.agg #[I ((T).root), .slice ((T).A) ((T).l.length) ((T).cp)], I (at0)] w (fun v w1 => v = S (textT (T).t n at0) ∧ Mem w w1 [] [])) (T : TreeL) (at0 : Int) (lo : Int) (hi : Int) (w : World) (hNT : TrN w T) (hs : SzT T) (hok : okB (T).t (n + 1) at0 lo hi = true) (h3 : (n + 1) ≤ 3) :
    Does Tryd.prog 61 [.agg #[I ((T).root), .slice ((T).A) ((T).l.length) ((T).cp)], I (at0)] w (fun v w1 => v = S (textT (T).t (n + 1) at0) ∧ Mem w w1 [] []) := by
  have hM : Mem w w [] [] := Mem.refl
  refine Does.enter1 Tryd.func61 rfl Tryd.results61 Tryd.ntmps61 rfl ?_
  refine C.seq ?_
  have hat := inT_t.1 (okB_in hok)
  have hjx : (at0).toNat < (T).l.length := by omega
  have hgp : gP (T).t at0 = ((T).l[(at0).toNat]'hjx).t := gP_at rfl hjx
  have hsz := hs.at hjx
  have hfb := (okB_iff.1 hok).2.1
  have hl4 := fr_len hfb
  rw [hgp] at hl4
  have hl5 : (((T).l[(at0).toNat]'hjx).k.l).length ≤ 4 := hl4
  have hp3 := pow3 (d := n) (by omega)
  have hp1 : 1 ≤ 8 ^ n := Nat.pow_pos (by omega)
  have hps : 8 ^ (n + 1) = 8 ^ n * 8 := Nat.pow_succ ..
  have hvk := fr_keys hfb
  rw [hgp] at hvk
  refine C.region ?_
  refine O.mbox (k := 2) (vs := [I ((T).root), .slice ((T).A) ((T).l.length) ((T).cp)]) hM rfl rfl rfl rfl rfl (fun w0_0 b0_0 hb0_0 (hM0_0 : Mem w w0_0 [] [[⟨.slice (bl b0_0) 1 1, 39, 2, 1, [I ((T).root), .slice ((T).A) ((T).l.length) ((T).cp)]⟩]]) => ?_)
  refine O.val (v := S ([])) rfl (Ru.assign rfl) rfl ?_
  refine O.nil ?_
  refine C.seq ?_
  refine C.region ?_
  refine O.val (v := .pointer (ofs (bl b0_0) (1))) rfl (Ru.fieldA fl39_1 rfl rfl) rfl ?_
  refine O.val rfl (Ru.load1 el37 rfl ((hM0_0.rd 0 rfl).ld rfl)) rfl ?_
  refine O.val (v := I (at0)) rfl (Ru.move rfl) rfl ?_
  have hx1_3 : (at0).toNat < ((T).l).length := (by first | omega | (simp; omega))
  refine O.val (v := .pointer (ofs ((T).A) (((at0).toNat) * 3))) rfl (Ru.indexA (j := (at0).toNat) Tryd.underlying37 el58 rfl rfl (smf encPg_len (hNT.at hM0_0).1 hx1_3 rfl) (by omega) (by first | omega | (simp; omega))) rfl ?_
  refine O.val rfl (Ru.loadN (vs := [.slice ((((T).l)[(at0).toNat]'hx1_3).k.A) ((((T).l)[(at0).toNat]'hx1_3).k.l.length) ((((T).l)[(at0).toNat]'hx1_3).k.cp), .slice ((((T).l)[(at0).toNat]'hx1_3).c.A) ((((T).l)[(at0).toNat]'hx1_3).c.l.length) ((((T).l)[(at0).toNat]'hx1_3).c.cp), .slice ((((T).l)[(at0).toNat]'hx1_3).v.A) ((((T).l)[(at0).toNat]'hx1_3).v.l.length) ((((T).l)[(at0).toNat]'hx1_3).v.cp)]) el58 rfl rfl (smf encPg_len (hNT.at hM0_0).1 hx1_3 rfl) (ldn encPg_len (hNT.at hM0_0).1 hx1_3)) rfl ?_
  refine O.malloc (k := 3) hM0_0 rfl rfl el58 rfl (fun w1_5 b1_5 hb1_5 (hM1_5 : Mem w w1_5 [] [[⟨.slice (bl b1_5) 1 1, 58, 3, 1, [.slice (none) (0) (0), .slice (none) (0) (0), .slice (none) (0) (0)]⟩], [⟨.slice (bl b0_0) 1 1, 39, 2, 1, [I ((T).root), .slice ((T).A) ((T).l.length) ((T).cp)]⟩]]) => ?_)
  refine O.mstore (vs := [.slice ((((T).l)[(at0).toNat]'hx1_3).k.A) ((((T).l)[(at0).toNat]'hx1_3).k.l.length) ((((T).l)[(at0).toNat]'hx1_3).k.cp), .slice ((((T).l)[(at0).toNat]'hx1_3).c.A) ((((T).l)[(at0).toNat]'hx1_3).c.l.length) ((((T).l)[(at0).toNat]'hx1_3).c.cp), .slice ((((T).l)[(at0).toNat]'hx1_3).v.A) ((((T).l)[(at0).toNat]'hx1_3).v.l.length) ((((T).l)[(at0).toNat]'hx1_3).v.cp)]) (xs' := [.slice ((((T).l)[(at0).toNat]'hx1_3).k.A) ((((T).l)[(at0).toNat]'hx1_3).k.l.length) ((((T).l)[(at0).toNat]'hx1_3).k.cp), .slice ((((T).l)[(at0).toNat]'hx1_3).c.A) ((((T).l)[(at0).toNat]'hx1_3).c.l.length) ((((T).l)[(at0).toNat]'hx1_3).c.cp), .slice ((((T).l)[(at0).toNat]'hx1_3).v.A) ((((T).l)[(at0).toNat]'hx1_3).v.l.length) ((((T).l)[(at0).toNat]'hx1_3).v.cp)]) 0 0 hM1_5 rfl rfl rfl el58 rfl rfl rfl rfl rfl (by simp) (by simp) rfl rfl (fun w1_6 (hM1_6 : Mem w w1_6 [] [[⟨.slice (bl b1_5) 1 1, 58, 3, 1, [.slice ((((T).l)[(at0).toNat]'hx1_3).k.A) ((((T).l)[(at0).toNat]'hx1_3).k.l.length) ((((T).l)[(at0).toNat]'hx1_3).k.cp), .slice ((((T).l)[(at0).toNat]'hx1_3).c.A) ((((T).l)[(at0).toNat]'hx1_3).c.l.length) ((((T).l)[(at0).toNat]'hx1_3).c.cp), .slice ((((T).l)[(at0).toNat]'hx1_3).v.A) ((((T).l)[(at0).toNat]'hx1_3).v.l.length) ((((T).l)[(at0).toNat]'hx1_3).v.cp)]⟩], [⟨.slice (bl b0_0) 1 1, 39, 2, 1, [I ((T).root), .slice ((T).A) ((T).l.length) ((T).cp)]⟩]]) => ?_)
  refine O.nil ?_
  refine C.seq ?_
  refine C.seq ?_
  refine C.region ?_
  refine O.val (v := .pointer (ofs (bl b1_5) (1))) rfl (Ru.fieldA fl58_1 rfl rfl) rfl ?_
  refine O.val rfl (Ru.load1 el51 rfl ((hM1_6.rd 0 rfl).ld rfl)) rfl ?_
  refine O.val (v := I ((((((T).l)[(at0).toNat]'hx1_3).c.l.length : Nat) : Int))) rfl (Ru.blenSlice Tryd.underlying51 rfl) rfl ?_
  refine O.val (v := .bool (decide ((((((T).l)[(at0).toNat]'hx1_3).c.l.length : Nat) : Int) = 0))) rfl (Ru.eql rfl rfl) rfl ?_
  refine O.nil ?_
  refine C.cond (p := (((((T).l)[(at0).toNat]'hx1_3).c.l.length : Nat) : Int) = 0) rfl (fun c16 => ?_) (fun c16 => ?_)
  · have hk0 : (gP (T).t at0).kids = [] := by rw [hgp]; exact List.eq_nil_of_length_eq_zero (by show (((T).l[(at0).toNat]'hjx).c.l).length = 0; omega)
    have hvr := prs_valid hfb hk0
    rw [hgp] at hvr
    have hvl := (fr_leaf hfb hk0).1
    rw [hgp] at hvl
    have hte : textT (T).t (n + 1) at0 = fmtL (prsP ((T).l[(at0).toNat]'hjx).t) := by simp only [textT]; rw [if_pos hk0, hgp]
    have hfy := fmtR_yes hvr
    have htl := txt_len hok
    rw [hte] at htl
    have hpl : (prsP ((T).l[(at0).toNat]'hjx).t).length ≤ 4 := by rw [prs_len]; exact hl4
    refine C.seq ?_
    refine C.region ?_
    refine O.val rfl (Ru.loadN (vs := [.slice ((((T).l)[(at0).toNat]'hx1_3).k.A) ((((T).l)[(at0).toNat]'hx1_3).k.l.length) ((((T).l)[(at0).toNat]'hx1_3).k.cp), .slice ((((T).l)[(at0).toNat]'hx1_3).c.A) ((((T).l)[(at0).toNat]'hx1_3).c.l.length) ((((T).l)[(at0).toNat]'hx1_3).c.cp), .slice ((((T).l)[(at0).toNat]'hx1_3).v.A) ((((T).l)[(at0).toNat]'hx1_3).v.l.length) ((((T).l)[(at0).toNat]'hx1_3).v.cp)]) el58 rfl rfl rfl ((mem_blk (i := 0) (j := 0) hM1_6 rfl rfl).lds (k := 0) rfl)) rfl ?_
    refine O.callg [.agg #[.slice ((((T).l)[(at0).toNat]'hx1_3).k.A) ((((T).l)[(at0).toNat]'hx1_3).k.l.length) ((((T).l)[(at0).toNat]'hx1_3).k.cp), .slice ((((T).l)[(at0).toNat]'hx1_3).c.A) ((((T).l)[(at0).toNat]'hx1_3).c.l.length) ((((T).l)[(at0).toNat]'hx1_3).c.cp), .slice ((((T).l)[(at0).toNat]'hx1_3).v.A) ((((T).l)[(at0).toNat]'hx1_3).v.l.length) ((((T).l)[(at0).toNat]'hx1_3).v.cp)]] rfl en55 rfl rfl (rowOf_fn (((T).l)[(at0).toNat]'hx1_3) w1_6 (((hNT.at hM1_6)).2.get hx1_3) (by omega) (by exact hvl)) ?_
    rintro _ w3_1 ⟨A13_1, c13_1, rfl, hR3_1⟩
    have hM3_1 : Mem w w3_1 [] [[⟨.slice (A13_1) ((prsP ((((T).l)[(at0).toNat]'hx1_3)).t).length) (c13_1), 61, 2, ((prsP ((((T).l)[(at0).toNat]'hx1_3)).t).length), (prsP ((((T).l)[(at0).toNat]'hx1_3)).t).flatMap encP⟩], [⟨.slice (bl b1_5) 1 1, 58, 3, 1, [.slice ((((T).l)[(at0).toNat]'hx1_3).k.A) ((((T).l)[(at0).toNat]'hx1_3).k.l.length) ((((T).l)[(at0).toNat]'hx1_3).k.cp), .slice ((((T).l)[(at0).toNat]'hx1_3).c.A) ((((T).l)[(at0).toNat]'hx1_3).c.l.length) ((((T).l)[(at0).toNat]'hx1_3).c.cp), .slice ((((T).l)[(at0).toNat]'hx1_3).v.A) ((((T).l)[(at0).toNat]'hx1_3).v.l.length) ((((T).l)[(at0).toNat]'hx1_3).v.cp)]⟩], [⟨.slice (bl b0_0) 1 1, 39, 2, 1, [I ((T).root), .slice ((T).A) ((T).l.length) ((T).cp)]⟩]] := Mem.call (Ma := []) hM1_6 hR3_1 rfl
    have hcr3_1_0 := (hM3_1.cap 0 rfl).1
    refine O.callg [.slice (A13_1) ((prsP ((((T).l)[(at0).toNat]'hx1_3)).t).length) (c13_1)] rfl en43 rfl rfl (rowText_fn A13_1 c13_1 (prsP ((((T).l)[(at0).toNat]'hx1_3)).t) w3_1 (hM3_1.rd 0 rfl) (by omega) (by exact valid_small hvr) (by omega)) ?_
    rintro _ w3_2 ⟨rfl, hR3_2⟩
    have hM3_2 : Mem w w3_2 [] [[⟨.slice (A13_1) ((prsP ((((T).l)[(at0).toNat]'hx1_3)).t).length) (c13_1), 61, 2, ((prsP ((((T).l)[(at0).toNat]'hx1_3)).t).length), (prsP ((((T).l)[(at0).toNat]'hx1_3)).t).flatMap encP⟩], [⟨.slice (bl b1_5) 1 1, 58, 3, 1, [.slice ((((T).l)[(at0).toNat]'hx1_3).k.A) ((((T).l)[(at0).toNat]'hx1_3).k.l.length) ((((T).l)[(at0).toNat]'hx1_3).k.cp), .slice ((((T).l)[(at0).toNat]'hx1_3).c.A) ((((T).l)[(at0).toNat]'hx1_3).c.l.length) ((((T).l)[(at0).toNat]'hx1_3).c.cp), .slice ((((T).l)[(at0).toNat]'hx1_3).v.A) ((((T).l)[(at0).toNat]'hx1_3).v.l.length) ((((T).l)[(at0).toNat]'hx1_3).v.cp)]⟩], [⟨.slice (bl b0_0) 1 1, 39, 2, 1, [I ((T).root), .slice ((T).A) ((T).l.length) ((T).cp)]⟩]] := Mem.call (Ma := []) hM3_1 hR3_2 rfl
    refine O.val (v := S (fmtL (prsP ((((T).l)[(at0).toNat]'hx1_3)).t))) rfl (Ru.assign rfl) rfl ?_
    refine O.nil ?_
    refine C.ret ?_
    refine P1 (v := S (fmtL (prsP ((((T).l)[(at0).toNat]'hx1_3)).t))) rfl ?_
    exact ⟨(congrArg S (by rw [hte])), (Mem.none hM3_2)⟩
  · have hk0 : (gP (T).t at0).kids ≠ [] := by rw [hgp]; intro e9; exact absurd (show (((T).l[(at0).toNat]'hjx).c.l).length = 0 from congrArg List.length e9) (by omega)
    have hkl := (fr_in hfb hk0).2
    rw [hgp] at hkl
    have hkl2 : (((T).l[(at0).toNat]'hjx).c.l).length = (((T).l[(at0).toNat]'hjx).k.l).length + 1 := hkl
    have hte : textT (T).t (n + 1) at0 = 40 :: (kidsX (textT (T).t n) (((T).l[(at0).toNat]'hjx).k.l) 0 (((T).l[(at0).toNat]'hjx).c.l) ++ [41]) := by simp only [textT]; rw [if_neg hk0, hgp]; rfl
    have hkp : ∀ j k : Nat, k ≤ j → (kidsX (textT (T).t n) (((T).l[(at0).toNat]'hjx).k.l) 0 ((((T).l[(at0).toNat]'hjx).c.l).take k)).length ≤ j * (200 * 8 ^ n + 23) := fun j k hk => by have := kids_part hok hk; rw [hgp] at this; exact this
    refine C.skip ?_
    refine C.seq ?_
    refine C.region ?_
    refine O.val (v := S ([40])) rfl (Ru.assign rfl) rfl ?_
    refine O.nil ?_
    refine C.seq ?_
    refine C.seq ?_
    refine C.region ?_
    refine O.val (v := I (0)) rfl (Ru.assign rfl) rfl ?_
    refine O.nil ?_
    refine C.block ?_
    refine C.loop (ι := Nat) (fun k => ([(2, .pointer (ofs (bl b0_0) (0))), (5, .pointer (ofs (bl b1_5) (0))), (6, S (40 :: kidsX (textT (T).t n) (((T).l[(at0).toNat]'hjx).k.l) 0 ((((T).l[(at0).toNat]'hjx).c.l).take k))), (7, I (((k : Nat) : Int)))] : List (Nat × Value))) (fun k w_ => (k ≤ (((T).l[(at0).toNat]'hjx).c.l).length) ∧ (Mem w w_ [] [[⟨.slice (bl b1_5) 1 1, 58, 3, 1, [.slice ((((T).l)[(at0).toNat]'hx1_3).k.A) ((((T).l)[(at0).toNat]'hx1_3).k.l.length) ((((T).l)[(at0).toNat]'hx1_3).k.cp), .slice ((((T).l)[(at0).toNat]'hx1_3).c.A) ((((T).l)[(at0).toNat]'hx1_3).c.l.length) ((((T).l)[(at0).toNat]'hx1_3).c.cp), .slice ((((T).l)[(at0).toNat]'hx1_3).v.A) ((((T).l)[(at0).toNat]'hx1_3).v.l.length) ((((T).l)[(at0).toNat]'hx1_3).v.cp)]⟩], [⟨.slice (bl b0_0) 1 1, 39, 2, 1, [I ((T).root), .slice ((T).A) ((T).l.length) ((T).cp)]⟩]])) (fun k => (((T).l[(at0).toNat]'hjx).c.l).length - k) (0) (Has.cons rfl (Has.cons rfl (Has.cons (congrArg S (by simp [kidsX])) (Has.cons (I_congr (by first | rfl | omega | (simp; omega) | simp)) Has.nil)))) ⟨(Nat.zero_le _), (hM1_6.pick [0, 1] (by decide) rfl)⟩ (fun k σ w_l6 hI => ?_)
    try dsimp only at hI
    obtain ⟨hi0_l6, hM_l6⟩ := hI
    refine C.seq ?_
    refine C.seq ?_
    refine C.region ?_
    refine O.val (v := I (((k : Nat) : Int))) rfl (Ru.move rfl) rfl ?_
    refine O.val (v := .pointer (ofs (bl b1_5) (1))) rfl (Ru.fieldA fl58_1 rfl rfl) rfl ?_
    refine O.val rfl (Ru.load1 el51 rfl ((hM_l6.rd 0 rfl).ld rfl)) rfl ?_
    refine O.val (v := I ((((((T).l)[(at0).toNat]'hx1_3).c.l.length : Nat) : Int))) rfl (Ru.blenSlice Tryd.underlying51 rfl) rfl ?_
    refine O.val (v := .bool (decide (((k : Nat) : Int) < (((((T).l)[(at0).toNat]'hx1_3).c.l.length : Nat) : Int)))) rfl (Ru.lss rfl rfl) rfl ?_
    refine O.nil ?_
    refine C.cond (p := ((k : Nat) : Int) < (((((T).l)[(at0).toNat]'hx1_3).c.l.length : Nat) : Int)) rfl (fun c24 => ?_) (fun c24 => ?_)
    · have hkt := kidsX_take (f := textT (T).t n) (ks := ((T).l[(at0).toNat]'hjx).k.l) (l := ((T).l[(at0).toNat]'hjx).c.l) (k := k) (by omega)
      have hkx : k < (((T).l[(at0).toNat]'hjx).c.l).length := by omega
      have hok1 := ok_kid hok (k := k) (by rw [hgp]; exact hkx)
      have hck : (gP (T).t at0).kids[k]'(by rw [hgp]; exact hkx) = (((T).l[(at0).toNat]'hjx).c.l)[k] := by simp only [hgp]; rfl
      rw [hck] at hok1
      have htl1 := txt_len hok1
      have hk4 := hkp 4 k (by omega)
      refine C.skip ?_
      refine C.seq ?_
      refine C.block ?_
      refine C.seq ?_
      refine C.seq ?_
      refine C.region ?_
      refine O.val (v := I (((k : Nat) : Int))) rfl (Ru.move rfl) rfl ?_
      refine O.val (v := .bool (decide (((k : Nat) : Int) > 0))) rfl (Ru.gtr rfl rfl) rfl ?_
      refine O.nil ?_
      refine C.cond (p := ((k : Nat) : Int) > 0) rfl (fun c28 => ?_) (fun c28 => ?_)
      · have hk0 : k ≠ 0 := by omega
        have hkj : k - 1 < (((T).l[(at0).toNat]'hjx).k.l).length := by omega
        have hkb := validK_bd (show validK (((T).l[(at0).toNat]'hjx).k.l) = true from hvk) hkj
        have hil := itoa_len (n := (((T).l[(at0).toNat]'hjx).k.l)[k - 1]) (by omega) (by omega)
        have hgd := getD_in hkj
        refine C.region ?_
        refine O.val (v := S (40 :: kidsX (textT (T).t n) (((T).l[(at0).toNat]'hjx).k.l) 0 ((((T).l[(at0).toNat]'hjx).c.l).take k))) rfl (Ru.move rfl) rfl ?_
        refine O.val (v := S ((40 :: kidsX (textT (T).t n) (((T).l[(at0).toNat]'hjx).k.l) 0 ((((T).l[(at0).toNat]'hjx).c.l).take k) ++ [32]))) rfl (Ru.sadd rfl rfl (by first | omega | (simp; omega))) rfl ?_
        refine O.val (v := .pointer (ofs (bl b1_5) (0))) rfl (Ru.fieldA fl58_0 rfl rfl) rfl ?_
        refine O.val rfl (Ru.load1 el51 rfl ((hM_l6.rd 0 rfl).ld rfl)) rfl ?_
        refine O.val (v := I (((k : Nat) : Int))) rfl (Ru.move rfl) rfl ?_
        refine O.val (v := I ((((k : Nat) : Int) - 1))) rfl (Ru.sub rfl rfl (by omega)) rfl ?_
        have hx9_6 : k - 1 < ((((T).l)[(at0).toNat]'hx1_3).k.l).length := hkj
        refine O.val (v := .pointer (ofs ((((T).l)[(at0).toNat]'hx1_3).k.A) ((k - 1) * 1))) rfl (Ru.indexA (j := k - 1) Tryd.underlying51 el3 rfl rfl (smm (((hNT.at hM_l6)).2.get hx1_3).1 hx9_6) (by omega) (by omega)) rfl ?_
        refine O.val rfl (Ru.load1 el3 rfl (ldm (((hNT.at hM_l6)).2.get hx1_3).1 hx9_6)) rfl ?_
        refine O.callg [I (((((T).l)[(at0).toNat]'hx1_3).k.l)[k - 1]'hx9_6)] rfl en82 rfl rfl (decimal_fn (((((T).l)[(at0).toNat]'hx1_3).k.l)[k - 1]'hx9_6) w_l6 (by omega)) ?_
        rintro _ w9_8 ⟨rfl, hR9_8⟩
        have hM9_8 : Mem w w9_8 [] [[⟨.slice (bl b1_5) 1 1, 58, 3, 1, [.slice ((((T).l)[(at0).toNat]'hx1_3).k.A) ((((T).l)[(at0).toNat]'hx1_3).k.l.length) ((((T).l)[(at0).toNat]'hx1_3).k.cp), .slice ((((T).l)[(at0).toNat]'hx1_3).c.A) ((((T).l)[(at0).toNat]'hx1_3).c.l.length) ((((T).l)[(at0).toNat]'hx1_3).c.cp), .slice ((((T).l)[(at0).toNat]'hx1_3).v.A) ((((T).l)[(at0).toNat]'hx1_3).v.l.length) ((((T).l)[(at0).toNat]'hx1_3).v.cp)]⟩], [⟨.slice (bl b0_0) 1 1, 39, 2, 1, [I ((T).root), .slice ((T).A) ((T).l.length) ((T).cp)]⟩]] := Mem.call (Ma := []) hM_l6 hR9_8 rfl
        refine O.val (v := S (((40 :: kidsX (textT (T).t n) (((T).l[(at0).toNat]'hjx).k.l) 0 ((((T).l[(at0).toNat]'hjx).c.l).take k) ++ [32]) ++ itoaS (((((T).l)[(at0).toNat]'hx1_3).k.l)[k - 1]'hx9_6)))) rfl (Ru.sadd rfl rfl (by first | omega | (simp; omega))) rfl ?_
        refine O.val (v := S ((((40 :: kidsX (textT (T).t n) (((T).l[(at0).toNat]'hjx).k.l) 0 ((((T).l[(at0).toNat]'hjx).c.l).take k) ++ [32]) ++ itoaS (((((T).l)[(at0).toNat]'hx1_3).k.l)[k - 1]'hx9_6)) ++ [32]))) rfl (Ru.sadd rfl rfl (by first | omega | (simp; omega))) rfl ?_
        refine O.val (v := S ((((40 :: kidsX (textT (T).t n) (((T).l[(at0).toNat]'hjx).k.l) 0 ((((T).l[(at0).toNat]'hjx).c.l).take k) ++ [32]) ++ itoaS (((((T).l)[(at0).toNat]'hx1_3).k.l)[k - 1]'hx9_6)) ++ [32]))) rfl (Ru.assign rfl) rfl ?_
        refine O.nil ?_
        refine C.draws (fun w2 => Mem w w2 [] [[⟨.slice (bl b1_5) 1 1, 58, 3, 1, [.slice ((((T).l)[(at0).toNat]'hx1_3).k.A) ((((T).l)[(at0).toNat]'hx1_3).k.l.length) ((((T).l)[(at0).toNat]'hx1_3).k.cp), .slice ((((T).l)[(at0).toNat]'hx1_3).c.A) ((((T).l)[(at0).toNat]'hx1_3).c.l.length) ((((T).l)[(at0).toNat]'hx1_3).c.cp), .slice ((((T).l)[(at0).toNat]'hx1_3).v.A) ((((T).l)[(at0).toNat]'hx1_3).v.l.length) ((((T).l)[(at0).toNat]'hx1_3).v.cp)]⟩], [⟨.slice (bl b0_0) 1 1, 39, 2, 1, [I ((T).root), .slice ((T).A) ((T).l.length) ((T).cp)]⟩]]) mixed (by kernel_rfl) (hM9_8.ext (kdrawn _)) ?_
        refine QO.val (v := S ((((40 :: kidsX (textT (T).t n) (((T).l[(at0).toNat]'hjx).k.l) 0 ((((T).l[(at0).toNat]'hjx).c.l).take k) ++ [32]) ++ itoaS (((((T).l)[(at0).toNat]'hx1_3).k.l)[k - 1]'hx9_6)) ++ [32]))) rfl (fun w2 hw2 => Ru.move rfl) rfl ?_
        refine QO.val rfl (fun w2 hw2 => Ru.loadN (vs := [I ((T).root), .slice ((T).A) ((T).l.length) ((T).cp)]) el39 rfl rfl rfl ((mem_blk (i := 1) (j := 0) hw2 rfl rfl).lds (k := 0) rfl)) rfl ?_
        refine QO.val (v := .pointer (ofs (bl b1_5) (1))) rfl (fun w2 hw2 => Ru.fieldA fl58_1 rfl rfl) rfl ?_
        refine QO.val rfl (fun w2 hw2 => Ru.load1 el51 rfl ((hw2.rd 0 rfl).ld rfl)) rfl ?_
        refine QO.val (v := I (((k : Nat) : Int))) rfl (fun w2 hw2 => Ru.move rfl) rfl ?_
        have hx10_5 : k < ((((T).l)[(at0).toNat]'hx1_3).c.l).length := (by first | omega | (simp; omega))
        refine QO.val (v := .pointer (ofs ((((T).l)[(at0).toNat]'hx1_3).c.A) (k * 1))) rfl (fun w2 hw2 => Ru.indexA (j := k) Tryd.underlying51 el3 rfl rfl (smm (((hNT.at hw2)).2.get hx1_3).2.1 hx10_5) (by omega) (by first | omega | (simp; omega))) rfl ?_
        refine QO.val rfl (fun w2 hw2 => Ru.load1 el3 rfl (ldm (((hNT.at hw2)).2.get hx1_3).2.1 hx10_5)) rfl ?_
        refine QO.callg (v := S (textT (T).t n (((((T).l)[(at0).toNat]'hx1_3).c.l)[k]'hx10_5))) [.agg #[I ((T).root), .slice ((T).A) ((T).l.length) ((T).cp)], I (((((T).l)[(at0).toNat]'hx1_3).c.l)[k]'hx10_5)] rfl en61 rfl rfl (fun w2 hw2 => (ih_fn T (((((T).l)[(at0).toNat]'hx1_3).c.l)[k]'hx10_5) _ _ w2 (hNT.at hw2) (by first | omega | assumption | (simp; omega) | simp | (intros; omega)) (by exact hok1) (by omega)).mono fun _ _ h => ⟨h.1, Mem.call0 hw2 h.2⟩) ?_
        refine QO.val (v := S (((((40 :: kidsX (textT (T).t n) (((T).l[(at0).toNat]'hjx).k.l) 0 ((((T).l[(at0).toNat]'hjx).c.l).take k) ++ [32]) ++ itoaS (((((T).l)[(at0).toNat]'hx1_3).k.l)[k - 1]'hx9_6)) ++ [32]) ++ textT (T).t n (((((T).l)[(at0).toNat]'hx1_3).c.l)[k]'hx10_5)))) rfl (fun w2 hw2 => Ru.sadd rfl rfl (by first | omega | (simp; omega))) rfl ?_
        refine QO.val (v := S (((((40 :: kidsX (textT (T).t n) (((T).l[(at0).toNat]'hjx).k.l) 0 ((((T).l[(at0).toNat]'hjx).c.l).take k) ++ [32]) ++ itoaS (((((T).l)[(at0).toNat]'hx1_3).k.l)[k - 1]'hx9_6)) ++ [32]) ++ textT (T).t n (((((T).l)[(at0).toNat]'hx1_3).c.l)[k]'hx10_5)))) rfl (fun w2 hw2 => Ru.assign rfl) rfl ?_
        refine QO.nil ?_
        intro w10d hM10d
        refine C.region ?_
        refine O.val (v := I (((k : Nat) : Int))) rfl (Ru.move rfl) rfl ?_
        refine O.val (v := I ((((k + 1) : Nat) : Int))) rfl (Ru.congr (v := I ((((k : Nat) : Int) + 1))) (v' := I ((((k + 1) : Nat) : Int))) (Ru.add rfl rfl (by omega)) (I_congr (by first | omega | simp))) rfl ?_
        refine O.val (v := I ((((k + 1) : Nat) : Int))) rfl (Ru.assign rfl) rfl ?_
        refine O.nil ?_
        exact loopEnd (k + 1) (by (try dsimp only); omega) (Has.cons rfl (Has.cons rfl (Has.cons (congrArg S (by rw [hkt]; first | (simp [hk0]; done) | (rw [if_neg hk0, hgd]; simp))) (Has.cons (I_congr (by first | rfl | omega | (simp; omega) | simp)) Has.nil)))) ⟨(by (try dsimp only); omega), (hM10d.pick [0, 1] (by decide) rfl)⟩
      · have hk0 : k = 0 := by omega
        refine C.skip ?_
        refine C.draws (fun w2 => Mem w w2 [] [[⟨.slice (bl b1_5) 1 1, 58, 3, 1, [.slice ((((T).l)[(at0).toNat]'hx1_3).k.A) ((((T).l)[(at0).toNat]'hx1_3).k.l.length) ((((T).l)[(at0).toNat]'hx1_3).k.cp), .slice ((((T).l)[(at0).toNat]'hx1_3).c.A) ((((T).l)[(at0).toNat]'hx1_3).c.l.length) ((((T).l)[(at0).toNat]'hx1_3).c.cp), .slice ((((T).l)[(at0).toNat]'hx1_3).v.A) ((((T).l)[(at0).toNat]'hx1_3).v.l.length) ((((T).l)[(at0).toNat]'hx1_3).v.cp)]⟩], [⟨.slice (bl b0_0) 1 1, 39, 2, 1, [I ((T).root), .slice ((T).A) ((T).l.length) ((T).cp)]⟩]]) mixed (by kernel_rfl) (hM_l6.ext (kdrawn _)) ?_
        refine QO.val (v := S (40 :: kidsX (textT (T).t n) (((T).l[(at0).toNat]'hjx).k.l) 0 ((((T).l[(at0).toNat]'hjx).c.l).take k))) rfl (fun w2 hw2 => Ru.move rfl) rfl ?_
        refine QO.val rfl (fun w2 hw2 => Ru.loadN (vs := [I ((T).root), .slice ((T).A) ((T).l.length) ((T).cp)]) el39 rfl rfl rfl ((mem_blk (i := 1) (j := 0) hw2 rfl rfl).lds (k := 0) rfl)) rfl ?_
        refine QO.val (v := .pointer (ofs (bl b1_5) (1))) rfl (fun w2 hw2 => Ru.fieldA fl58_1 rfl rfl) rfl ?_
        refine QO.val rfl (fun w2 hw2 => Ru.load1 el51 rfl ((hw2.rd 0 rfl).ld rfl)) rfl ?_
        refine QO.val (v := I (((k : Nat) : Int))) rfl (fun w2 hw2 => Ru.move rfl) rfl ?_
        have hx10_5 : k < ((((T).l)[(at0).toNat]'hx1_3).c.l).length := (by first | omega | (simp; omega))
        refine QO.val (v := .pointer (ofs ((((T).l)[(at0).toNat]'hx1_3).c.A) (k * 1))) rfl (fun w2 hw2 => Ru.indexA (j := k) Tryd.underlying51 el3 rfl rfl (smm (((hNT.at hw2)).2.get hx1_3).2.1 hx10_5) (by omega) (by first | omega | (simp; omega))) rfl ?_
        refine QO.val rfl (fun w2 hw2 => Ru.load1 el3 rfl (ldm (((hNT.at hw2)).2.get hx1_3).2.1 hx10_5)) rfl ?_
        refine QO.callg (v := S (textT (T).t n (((((T).l)[(at0).toNat]'hx1_3).c.l)[k]'hx10_5))) [.agg #[I ((T).root), .slice ((T).A) ((T).l.length) ((T).cp)], I (((((T).l)[(at0).toNat]'hx1_3).c.l)[k]'hx10_5)] rfl en61 rfl rfl (fun w2 hw2 => (ih_fn T (((((T).l)[(at0).toNat]'hx1_3).c.l)[k]'hx10_5) _ _ w2 (hNT.at hw2) (by first | omega | assumption | (simp; omega) | simp | (intros; omega)) (by exact hok1) (by omega)).mono fun _ _ h => ⟨h.1, Mem.call0 hw2 h.2⟩) ?_
        refine QO.val (v := S ((40 :: kidsX (textT (T).t n) (((T).l[(at0).toNat]'hjx).k.l) 0 ((((T).l[(at0).toNat]'hjx).c.l).take k) ++ textT (T).t n (((((T).l)[(at0).toNat]'hx1_3).c.l)[k]'hx10_5)))) rfl (fun w2 hw2 => Ru.sadd rfl rfl (by first | omega | (simp; omega))) rfl ?_
        refine QO.val (v := S ((40 :: kidsX (textT (T).t n) (((T).l[(at0).toNat]'hjx).k.l) 0 ((((T).l[(at0).toNat]'hjx).c.l).take k) ++ textT (T).t n (((((T).l)[(at0).toNat]'hx1_3).c.l)[k]'hx10_5)))) rfl (fun w2 hw2 => Ru.assign rfl) rfl ?_
        refine QO.nil ?_
        intro w10d hM10d
        refine C.region ?_
        refine O.val (v := I (((k : Nat) : Int))) rfl (Ru.move rfl) rfl ?_
        refine O.val (v := I ((((k + 1) : Nat) : Int))) rfl (Ru.congr (v := I ((((k : Nat) : Int) + 1))) (v' := I ((((k + 1) : Nat) : Int))) (Ru.add rfl rfl (by omega)) (I_congr (by first | omega | simp))) rfl ?_
        refine O.val (v := I ((((k + 1) : Nat) : Int))) rfl (Ru.assign rfl) rfl ?_
        refine O.nil ?_
        exact loopEnd (k + 1) (by (try dsimp only); omega) (Has.cons rfl (Has.cons rfl (Has.cons (congrArg S (by rw [hkt]; first | (simp [hk0]; done) | (rw [if_neg hk0, hgd]; simp))) (Has.cons (I_congr (by first | rfl | omega | (simp; omega) | simp)) Has.nil)))) ⟨(by (try dsimp only); omega), (hM10d.pick [0, 1] (by decide) rfl)⟩
    · refine C.exit ?_
      refine C.seq ?_
      refine C.region ?_
      refine O.val (v := S (40 :: kidsX (textT (T).t n) (((T).l[(at0).toNat]'hjx).k.l) 0 ((((T).l[(at0).toNat]'hjx).c.l).take k))) rfl (Ru.move rfl) rfl ?_
      have hk5 := hkp 5 k (by omega)
      refine O.val (v := S ((40 :: kidsX (textT (T).t n) (((T).l[(at0).toNat]'hjx).k.l) 0 ((((T).l[(at0).toNat]'hjx).c.l).take k) ++ [41]))) rfl (Ru.sadd rfl rfl (by first | omega | (simp; omega))) rfl ?_
      refine O.val (v := S ((40 :: kidsX (textT (T).t n) (((T).l[(at0).toNat]'hjx).k.l) 0 ((((T).l[(at0).toNat]'hjx).c.l).take k) ++ [41]))) rfl (Ru.assign rfl) rfl ?_
      refine O.nil ?_
      refine C.ret ?_
      refine P1 (v := S ((40 :: kidsX (textT (T).t n) (((T).l[(at0).toNat]'hjx).k.l) 0 ((((T).l[(at0).toNat]'hjx).c.l).take k) ++ [41]))) rfl ?_
      exact ⟨(congrArg S (by rw [hte, List.take_of_length_le (by omega)]; simp)), (Mem.none hM_l6)⟩

theorem pageText_fn : ∀ (n : Nat), ∀ (T : TreeL) (at0 : Int) (lo : Int) (hi : Int) (w : World) (hNT : TrN w T) (hs : SzT T) (hok : okB (T).t n at0 lo hi = true) (h3 : n ≤ 3), Does Tryd.prog 61 [.agg #[I ((T).root), .slice ((T).A) ((T).l.length) ((T).cp)], I (at0)] w (fun v w1 => v = S (textT (T).t n at0) ∧ Mem w w1 [] []) := by
  intro n
  induction n with
  | zero => exact pageText0_fn
  | succ n ih => exact pageTextS_fn n ih

theorem textBelow0_fn : ∀ (T : TreeL) (at0 : Int) (b : Nat) (A : Option Addr) (c : Nat) (l : List UInt8) (p : Value) (lo : Int) (hi : Int) (w : World) (hNT : TrN w T) (hOT : TrO T [some b, (Value.slice (A) ((l).length) (c)).ownBlock]) (hM : Mem w w [some b, (Value.slice (A) ((l).length) (c)).ownBlock] [[⟨.slice (bl b) 1 1, 66, 2, 1, [(p), .slice (A) ((l).length) (c)]⟩], [⟨.slice (A) ((l).length) (c), 5, 1, ((l).length), (l).map byteV⟩]]) (hp : p = .pointer none ∨ p = .pointer (ofs (bl b) 0)) (hs : SzT T) (hok : okB (T).t 0 at0 lo hi = true) (h3 : 0 ≤ 3) (hl : l.length + 200 * 8 ^ 0 ≤ 1000000) (htab : TAB w) (htO : TabO Tryd.prog tabN [some b, (Value.slice (A) ((l).length) (c)).ownBlock]), Does Tryd.prog 62 [.agg #[I ((T).root), .slice ((T).A) ((T).l.length) ((T).cp)], I (at0), .pointer (ofs (bl b) (0))] w (fun v w1 => ∃ (A1 : Option Addr) (c1 : Nat), v = (.tuple #[]) ∧ Mem w w1 [some b, (Value.slice (A) ((l).length) (c)).ownBlock] [[⟨.slice (bl b) 1 1, 66, 2, 1, [.pointer (ofs (bl b) (0)), .slice (A1) ((l ++ textT (T).t 0 at0).length) (c1)]⟩], [⟨.slice (A1) ((l ++ textT (T).t 0 at0).length) (c1), 5, 1, ((l ++ textT (T).t 0 at0).length), (l ++ textT (T).t 0 at0).map byteV⟩]]) := by
  intro T at0 b A c l p lo hi w hNT hOT hM hp hs hok h3 hl htab htO; simp [okB] at hok

set_option maxHeartbeats 4000000 in
theorem textBelowS_fn (n : Nat) (ih_fn : ∀ (T : TreeL) (at0 : Int) (b : Nat) (A : Option Addr) (c : Nat) (l : List UInt8) (p : Value) (lo : Int) (hi : Int) (w : World) (hNT : TrN w T) (hOT : TrO T [some b, (Value.slice (A) ((l).length) (c)).ownBlock]) (hM : Mem w w [some b, (Value.slice (A) ((l).length) (c)).ownBlock] [[⟨.slice (bl b) 1 1, 66, 2, 1, [(p), .slice (A) ((l).length) (c)]⟩], [⟨.slice (A) ((l).length) (c), 5, 1, ((l).length), (l).map byteV⟩]]) (hp : p = .pointer none ∨ p = .pointer (ofs (bl b) 0)) (hs : SzT T) (hok : okB (T).t n at0 lo hi = true) (h3 : n ≤ 3) (hl : l.length + 200 * 8 ^ n ≤ 1000000) (htab : TAB w) (htO : TabO Tryd.prog tabN [some b, (Value.slice (A) ((l).length) (c)).ownBlock]), Does Tryd.prog 62 [.agg #[I ((T).root), .slice ((T).A) ((T).l.length) ((T).cp)], I (at0), .pointer (ofs (bl b) (0))] w (fun v w1 => ∃ (A1 : Option Addr) (c1 : Nat), v = (.tuple #[]) ∧ Mem w w1 [some b, (Value.slice (A) ((l).length) (c)).ownBlock] [[⟨.slice (bl b) 1 1, 66, 2, 1, [.pointer (ofs (bl b) (0)), .slice (A1) ((l ++ textT (T).t n at0).length) (c1)]⟩], [⟨.slice (A1) ((l ++ textT (T).t n at0).length) (c1), 5, 1, ((l ++ textT (T).t n at0).length), (l ++ textT (T).t n at0).map byteV⟩]])) (T : TreeL) (at0 : Int) (b : Nat) (A : Option Addr) (c : Nat) (l : List UInt8) (p : Value) (lo : Int) (hi : Int) (w : World) (hNT : TrN w T) (hOT : TrO T [some b, (Value.slice (A) ((l).length) (c)).ownBlock]) (hM : Mem w w [some b, (Value.slice (A) ((l).length) (c)).ownBlock] [[⟨.slice (bl b) 1 1, 66, 2, 1, [(p), .slice (A) ((l).length) (c)]⟩], [⟨.slice (A) ((l).length) (c), 5, 1, ((l).length), (l).map byteV⟩]]) (hp : p = .pointer none ∨ p = .pointer (ofs (bl b) 0)) (hs : SzT T) (hok : okB (T).t (n + 1) at0 lo hi = true) (h3 : (n + 1) ≤ 3) (hl : l.length + 200 * 8 ^ (n + 1) ≤ 1000000) (htab : TAB w) (htO : TabO Tryd.prog tabN [some b, (Value.slice (A) ((l).length) (c)).ownBlock]) :
    Does Tryd.prog 62 [.agg #[I ((T).root), .slice ((T).A) ((T).l.length) ((T).cp)], I (at0), .pointer (ofs (bl b) (0))] w (fun v w1 => ∃ (A1 : Option Addr) (c1 : Nat), v = (.tuple #[]) ∧ Mem w w1 [some b, (Value.slice (A) ((l).length) (c)).ownBlock] [[⟨.slice (bl b) 1 1, 66, 2, 1, [.pointer (ofs (bl b) (0)), .slice (A1) ((l ++ textT (T).t (n + 1) at0).length) (c1)]⟩], [⟨.slice (A1) ((l ++ textT (T).t (n + 1) at0).length) (c1), 5, 1, ((l ++ textT (T).t (n + 1) at0).length), (l ++ textT (T).t (n + 1) at0).map byteV⟩]]) := by
  refine Does.enter0 Tryd.func62 rfl Tryd.results62 Tryd.ntmps62 rfl ?_
  refine C.seq ?_
  have hat := inT_t.1 (okB_in hok)
  have hjx : (at0).toNat < (T).l.length := by omega
  have hgp : gP (T).t at0 = ((T).l[(at0).toNat]'hjx).t := gP_at rfl hjx
  have hsz := hs.at hjx
  have hfb := (okB_iff.1 hok).2.1
  have hl4 := fr_len hfb
  rw [hgp] at hl4
  have hl5 : (((T).l[(at0).toNat]'hjx).k.l).length ≤ 4 := hl4
  have hp3 := pow3 (d := n) (by omega)
  have hp1 : 1 ≤ 8 ^ n := Nat.pow_pos (by omega)
  have hps : 8 ^ (n + 1) = 8 ^ n * 8 := Nat.pow_succ ..
  have hvk := fr_keys hfb
  rw [hgp] at hvk
  refine C.region ?_
  refine O.mbox (k := 2) (vs := [I ((T).root), .slice ((T).A) ((T).l.length) ((T).cp)]) hM rfl rfl rfl rfl rfl (fun w0_0 b0_0 hb0_0 (hM0_0 : Mem w w0_0 [some b, (Value.slice (A) ((l).length) (c)).ownBlock] [[⟨.slice (bl b0_0) 1 1, 39, 2, 1, [I ((T).root), .slice ((T).A) ((T).l.length) ((T).cp)]⟩], [⟨.slice (bl b) 1 1, 66, 2, 1, [(p), .slice (A) ((l).length) (c)]⟩], [⟨.slice (A) ((l).length) (c), 5, 1, ((l).length), (l).map byteV⟩]]) => ?_)
  refine O.nil ?_
  refine C.seq ?_
  refine C.region ?_
  refine O.val (v := .pointer (ofs (bl b0_0) (1))) rfl (Ru.fieldA fl39_1 rfl rfl) rfl ?_
  refine O.val rfl (Ru.load1 el37 rfl ((hM0_0.rd 0 rfl).ld rfl)) rfl ?_
  refine O.val (v := I (at0)) rfl (Ru.move rfl) rfl ?_
  have hx1_3 : (at0).toNat < ((T).l).length := (by first | omega | (simp; omega))
  refine O.val (v := .pointer (ofs ((T).A) (((at0).toNat) * 3))) rfl (Ru.indexA (j := (at0).toNat) Tryd.underlying37 el58 rfl rfl (smf encPg_len (hNT.atR hM0_0 hOT).1 hx1_3 rfl) (by omega) (by first | omega | (simp; omega))) rfl ?_
  refine O.val rfl (Ru.loadN (vs := [.slice ((((T).l)[(at0).toNat]'hx1_3).k.A) ((((T).l)[(at0).toNat]'hx1_3).k.l.length) ((((T).l)[(at0).toNat]'hx1_3).k.cp), .slice ((((T).l)[(at0).toNat]'hx1_3).c.A) ((((T).l)[(at0).toNat]'hx1_3).c.l.length) ((((T).l)[(at0).toNat]'hx1_3).c.cp), .slice ((((T).l)[(at0).toNat]'hx1_3).v.A) ((((T).l)[(at0).toNat]'hx1_3).v.l.length) ((((T).l)[(at0).toNat]'hx1_3).v.cp)]) el58 rfl rfl (smf encPg_len (hNT.atR hM0_0 hOT).1 hx1_3 rfl) (ldn encPg_len (hNT.atR hM0_0 hOT).1 hx1_3)) rfl ?_
  refine O.malloc (k := 3) hM0_0 rfl rfl el58 rfl (fun w1_5 b1_5 hb1_5 (hM1_5 : Mem w w1_5 [some b, (Value.slice (A) ((l).length) (c)).ownBlock] [[⟨.slice (bl b1_5) 1 1, 58, 3, 1, [.slice (none) (0) (0), .slice (none) (0) (0), .slice (none) (0) (0)]⟩], [⟨.slice (bl b0_0) 1 1, 39, 2, 1, [I ((T).root), .slice ((T).A) ((T).l.length) ((T).cp)]⟩], [⟨.slice (bl b) 1 1, 66, 2, 1, [(p), .slice (A) ((l).length) (c)]⟩], [⟨.slice (A) ((l).length) (c), 5, 1, ((l).length), (l).map byteV⟩]]) => ?_)
  refine O.mstore (vs := [.slice ((((T).l)[(at0).toNat]'hx1_3).k.A) ((((T).l)[(at0).toNat]'hx1_3).k.l.length) ((((T).l)[(at0).toNat]'hx1_3).k.cp), .slice ((((T).l)[(at0).toNat]'hx1_3).c.A) ((((T).l)[(at0).toNat]'hx1_3).c.l.length) ((((T).l)[(at0).toNat]'hx1_3).c.cp), .slice ((((T).l)[(at0).toNat]'hx1_3).v.A) ((((T).l)[(at0).toNat]'hx1_3).v.l.length) ((((T).l)[(at0).toNat]'hx1_3).v.cp)]) (xs' := [.slice ((((T).l)[(at0).toNat]'hx1_3).k.A) ((((T).l)[(at0).toNat]'hx1_3).k.l.length) ((((T).l)[(at0).toNat]'hx1_3).k.cp), .slice ((((T).l)[(at0).toNat]'hx1_3).c.A) ((((T).l)[(at0).toNat]'hx1_3).c.l.length) ((((T).l)[(at0).toNat]'hx1_3).c.cp), .slice ((((T).l)[(at0).toNat]'hx1_3).v.A) ((((T).l)[(at0).toNat]'hx1_3).v.l.length) ((((T).l)[(at0).toNat]'hx1_3).v.cp)]) 0 0 hM1_5 rfl rfl rfl el58 rfl rfl rfl rfl rfl (by simp) (by simp) rfl rfl (fun w1_6 (hM1_6 : Mem w w1_6 [some b, (Value.slice (A) ((l).length) (c)).ownBlock] [[⟨.slice (bl b1_5) 1 1, 58, 3, 1, [.slice ((((T).l)[(at0).toNat]'hx1_3).k.A) ((((T).l)[(at0).toNat]'hx1_3).k.l.length) ((((T).l)[(at0).toNat]'hx1_3).k.cp), .slice ((((T).l)[(at0).toNat]'hx1_3).c.A) ((((T).l)[(at0).toNat]'hx1_3).c.l.length) ((((T).l)[(at0).toNat]'hx1_3).c.cp), .slice ((((T).l)[(at0).toNat]'hx1_3).v.A) ((((T).l)[(at0).toNat]'hx1_3).v.l.length) ((((T).l)[(at0).toNat]'hx1_3).v.cp)]⟩], [⟨.slice (bl b0_0) 1 1, 39, 2, 1, [I ((T).root), .slice ((T).A) ((T).l.length) ((T).cp)]⟩], [⟨.slice (bl b) 1 1, 66, 2, 1, [(p), .slice (A) ((l).length) (c)]⟩], [⟨.slice (A) ((l).length) (c), 5, 1, ((l).length), (l).map byteV⟩]]) => ?_)
  refine O.nil ?_
  refine C.seq ?_
  refine C.seq ?_
  refine C.region ?_
  refine O.val (v := .pointer (ofs (bl b1_5) (1))) rfl (Ru.fieldA fl58_1 rfl rfl) rfl ?_
  refine O.val rfl (Ru.load1 el51 rfl ((hM1_6.rd 0 rfl).ld rfl)) rfl ?_
  refine O.val (v := I ((((((T).l)[(at0).toNat]'hx1_3).c.l.length : Nat) : Int))) rfl (Ru.blenSlice Tryd.underlying51 rfl) rfl ?_
  refine O.val (v := .bool (decide ((((((T).l)[(at0).toNat]'hx1_3).c.l.length : Nat) : Int) = 0))) rfl (Ru.eql rfl rfl) rfl ?_
  refine O.nil ?_
  refine C.cond (p := (((((T).l)[(at0).toNat]'hx1_3).c.l.length : Nat) : Int) = 0) rfl (fun c17 => ?_) (fun c17 => ?_)
  · have hk0 : (gP (T).t at0).kids = [] := by rw [hgp]; exact List.eq_nil_of_length_eq_zero (by show (((T).l[(at0).toNat]'hjx).c.l).length = 0; omega)
    have hvr := prs_valid hfb hk0
    rw [hgp] at hvr
    have hvl := (fr_leaf hfb hk0).1
    rw [hgp] at hvl
    have hte : textT (T).t (n + 1) at0 = fmtL (prsP ((T).l[(at0).toNat]'hjx).t) := by simp only [textT]; rw [if_pos hk0, hgp]
    have hfy := fmtR_yes hvr
    have htl := txt_len hok
    rw [hte] at htl
    have hpl : (prsP ((T).l[(at0).toNat]'hjx).t).length ≤ 4 := by rw [prs_len]; exact hl4
    refine C.seq ?_
    refine C.region ?_
    refine O.val (v := .pointer (ofs (bl b) (0))) rfl (Ru.move rfl) rfl ?_
    refine O.val rfl (Ru.loadN (vs := [.slice ((((T).l)[(at0).toNat]'hx1_3).k.A) ((((T).l)[(at0).toNat]'hx1_3).k.l.length) ((((T).l)[(at0).toNat]'hx1_3).k.cp), .slice ((((T).l)[(at0).toNat]'hx1_3).c.A) ((((T).l)[(at0).toNat]'hx1_3).c.l.length) ((((T).l)[(at0).toNat]'hx1_3).c.cp), .slice ((((T).l)[(at0).toNat]'hx1_3).v.A) ((((T).l)[(at0).toNat]'hx1_3).v.l.length) ((((T).l)[(at0).toNat]'hx1_3).v.cp)]) el58 rfl rfl rfl ((mem_blk (i := 0) (j := 0) hM1_6 rfl rfl).lds (k := 0) rfl)) rfl ?_
    refine O.callg [.agg #[.slice ((((T).l)[(at0).toNat]'hx1_3).k.A) ((((T).l)[(at0).toNat]'hx1_3).k.l.length) ((((T).l)[(at0).toNat]'hx1_3).k.cp), .slice ((((T).l)[(at0).toNat]'hx1_3).c.A) ((((T).l)[(at0).toNat]'hx1_3).c.l.length) ((((T).l)[(at0).toNat]'hx1_3).c.cp), .slice ((((T).l)[(at0).toNat]'hx1_3).v.A) ((((T).l)[(at0).toNat]'hx1_3).v.l.length) ((((T).l)[(at0).toNat]'hx1_3).v.cp)]] rfl en58 rfl rfl (pairsOfLeaf_fn (((T).l)[(at0).toNat]'hx1_3) w1_6 (((hNT.atR hM1_6 hOT)).2.get hx1_3) (by omega) (by exact hvl)) ?_
    rintro _ w3_2 ⟨A13_2, c13_2, rfl, hR3_2⟩
    have hM3_2 : Mem w w3_2 [some b, (Value.slice (A) ((l).length) (c)).ownBlock] [[⟨.slice (A13_2) ((prsP ((((T).l)[(at0).toNat]'hx1_3)).t).length) (c13_2), 61, 2, ((prsP ((((T).l)[(at0).toNat]'hx1_3)).t).length), (prsP ((((T).l)[(at0).toNat]'hx1_3)).t).flatMap encP⟩], [⟨.slice (bl b1_5) 1 1, 58, 3, 1, [.slice ((((T).l)[(at0).toNat]'hx1_3).k.A) ((((T).l)[(at0).toNat]'hx1_3).k.l.length) ((((T).l)[(at0).toNat]'hx1_3).k.cp), .slice ((((T).l)[(at0).toNat]'hx1_3).c.A) ((((T).l)[(at0).toNat]'hx1_3).c.l.length) ((((T).l)[(at0).toNat]'hx1_3).c.cp), .slice ((((T).l)[(at0).toNat]'hx1_3).v.A) ((((T).l)[(at0).toNat]'hx1_3).v.l.length) ((((T).l)[(at0).toNat]'hx1_3).v.cp)]⟩], [⟨.slice (bl b0_0) 1 1, 39, 2, 1, [I ((T).root), .slice ((T).A) ((T).l.length) ((T).cp)]⟩], [⟨.slice (bl b) 1 1, 66, 2, 1, [(p), .slice (A) ((l).length) (c)]⟩], [⟨.slice (A) ((l).length) (c), 5, 1, ((l).length), (l).map byteV⟩]] := Mem.call (Ma := []) hM1_6 hR3_2 rfl
    have hcr3_2_0 := (hM3_2.cap 0 rfl).1
    refine O.callg [.slice (A13_2) ((prsP ((((T).l)[(at0).toNat]'hx1_3)).t).length) (c13_2)] rfl en16 rfl rfl (FormatRow_fn A13_2 c13_2 (prsP ((((T).l)[(at0).toNat]'hx1_3)).t) w3_2 (hM3_2.rd 0 rfl) (by omega) (tab_atR htab hM3_2 htO)) ?_
    rintro _ w3_3 ⟨rfl, hR3_3⟩
    have hM3_3 : Mem w w3_3 [some b, (Value.slice (A) ((l).length) (c)).ownBlock] [[⟨.slice (A13_2) ((prsP ((((T).l)[(at0).toNat]'hx1_3)).t).length) (c13_2), 61, 2, ((prsP ((((T).l)[(at0).toNat]'hx1_3)).t).length), (prsP ((((T).l)[(at0).toNat]'hx1_3)).t).flatMap encP⟩], [⟨.slice (bl b1_5) 1 1, 58, 3, 1, [.slice ((((T).l)[(at0).toNat]'hx1_3).k.A) ((((T).l)[(at0).toNat]'hx1_3).k.l.length) ((((T).l)[(at0).toNat]'hx1_3).k.cp), .slice ((((T).l)[(at0).toNat]'hx1_3).c.A) ((((T).l)[(at0).toNat]'hx1_3).c.l.length) ((((T).l)[(at0).toNat]'hx1_3).c.cp), .slice ((((T).l)[(at0).toNat]'hx1_3).v.A) ((((T).l)[(at0).toNat]'hx1_3).v.l.length) ((((T).l)[(at0).toNat]'hx1_3).v.cp)]⟩], [⟨.slice (bl b0_0) 1 1, 39, 2, 1, [I ((T).root), .slice ((T).A) ((T).l.length) ((T).cp)]⟩], [⟨.slice (bl b) 1 1, 66, 2, 1, [(p), .slice (A) ((l).length) (c)]⟩], [⟨.slice (A) ((l).length) (c), 5, 1, ((l).length), (l).map byteV⟩]] := Mem.call (Ma := []) hM3_2 hR3_3 rfl
    have hMf3_4 : Mem w w3_3 [some b, (Value.slice (A) ((l).length) (c)).ownBlock] [[⟨.slice (bl b) 1 1, 66, 2, 1, [(p), .slice (A) ((l).length) (c)]⟩], [⟨.slice (A) ((l).length) (c), 5, 1, ((l).length), (l).map byteV⟩], [⟨.slice (A13_2) ((prsP ((((T).l)[(at0).toNat]'hx1_3)).t).length) (c13_2), 61, 2, ((prsP ((((T).l)[(at0).toNat]'hx1_3)).t).length), (prsP ((((T).l)[(at0).toNat]'hx1_3)).t).flatMap encP⟩], [⟨.slice (bl b1_5) 1 1, 58, 3, 1, [.slice ((((T).l)[(at0).toNat]'hx1_3).k.A) ((((T).l)[(at0).toNat]'hx1_3).k.l.length) ((((T).l)[(at0).toNat]'hx1_3).k.cp), .slice ((((T).l)[(at0).toNat]'hx1_3).c.A) ((((T).l)[(at0).toNat]'hx1_3).c.l.length) ((((T).l)[(at0).toNat]'hx1_3).c.cp), .slice ((((T).l)[(at0).toNat]'hx1_3).v.A) ((((T).l)[(at0).toNat]'hx1_3).v.l.length) ((((T).l)[(at0).toNat]'hx1_3).v.cp)]⟩], [⟨.slice (bl b0_0) 1 1, 39, 2, 1, [I ((T).root), .slice ((T).A) ((T).l.length) ((T).cp)]⟩]] := hM3_3.pick [3, 4, 0, 1, 2] (by decide) rfl
    refine O.callg [.pointer (ofs (bl b) (0)), S (fmtR (prsP ((((T).l)[(at0).toNat]'hx1_3)).t))] rfl en46 rfl rfl (WriteString_fn b A c l (p) (fmtR (prsP ((((T).l)[(at0).toNat]'hx1_3)).t)) w3_3 (Mem.focus (Ma := [[⟨.slice (bl b) 1 1, 66, 2, 1, [(p), .slice (A) ((l).length) (c)]⟩], [⟨.slice (A) ((l).length) (c), 5, 1, ((l).length), (l).map byteV⟩]]) (rest := [[⟨.slice (A13_2) ((prsP ((((T).l)[(at0).toNat]'hx1_3)).t).length) (c13_2), 61, 2, ((prsP ((((T).l)[(at0).toNat]'hx1_3)).t).length), (prsP ((((T).l)[(at0).toNat]'hx1_3)).t).flatMap encP⟩], [⟨.slice (bl b1_5) 1 1, 58, 3, 1, [.slice ((((T).l)[(at0).toNat]'hx1_3).k.A) ((((T).l)[(at0).toNat]'hx1_3).k.l.length) ((((T).l)[(at0).toNat]'hx1_3).k.cp), .slice ((((T).l)[(at0).toNat]'hx1_3).c.A) ((((T).l)[(at0).toNat]'hx1_3).c.l.length) ((((T).l)[(at0).toNat]'hx1_3).c.cp), .slice ((((T).l)[(at0).toNat]'hx1_3).v.A) ((((T).l)[(at0).toNat]'hx1_3).v.l.length) ((((T).l)[(at0).toNat]'hx1_3).v.cp)]⟩], [⟨.slice (bl b0_0) 1 1, 39, 2, 1, [I ((T).root), .slice ((T).A) ((T).l.length) ((T).cp)]⟩]]) hMf3_4 rfl) (by first | exact .inl rfl | exact .inr rfl | assumption) (by rw [hfy]; omega)) ?_
    rintro _ w3_4 ⟨A13_4, c13_4, rfl, hR3_4⟩
    have hM3_4 : Mem w w3_4 [some b, (Value.slice (A) ((l).length) (c)).ownBlock] [[⟨.slice (bl b) 1 1, 66, 2, 1, [.pointer (ofs (bl b) (0)), .slice (A13_4) ((l ++ (fmtR (prsP ((((T).l)[(at0).toNat]'hx1_3)).t))).length) (c13_4)]⟩], [⟨.slice (A13_4) ((l ++ (fmtR (prsP ((((T).l)[(at0).toNat]'hx1_3)).t))).length) (c13_4), 5, 1, ((l ++ (fmtR (prsP ((((T).l)[(at0).toNat]'hx1_3)).t))).length), (l ++ (fmtR (prsP ((((T).l)[(at0).toNat]'hx1_3)).t))).map byteV⟩], [⟨.slice (A13_2) ((prsP ((((T).l)[(at0).toNat]'hx1_3)).t).length) (c13_2), 61, 2, ((prsP ((((T).l)[(at0).toNat]'hx1_3)).t).length), (prsP ((((T).l)[(at0).toNat]'hx1_3)).t).flatMap encP⟩], [⟨.slice (bl b1_5) 1 1, 58, 3, 1, [.slice ((((T).l)[(at0).toNat]'hx1_3).k.A) ((((T).l)[(at0).toNat]'hx1_3).k.l.length) ((((T).l)[(at0).toNat]'hx1_3).k.cp), .slice ((((T).l)[(at0).toNat]'hx1_3).c.A) ((((T).l)[(at0).toNat]'hx1_3).c.l.length) ((((T).l)[(at0).toNat]'hx1_3).c.cp), .slice ((((T).l)[(at0).toNat]'hx1_3).v.A) ((((T).l)[(at0).toNat]'hx1_3).v.l.length) ((((T).l)[(at0).toNat]'hx1_3).v.cp)]⟩], [⟨.slice (bl b0_0) 1 1, 39, 2, 1, [I ((T).root), .slice ((T).A) ((T).l.length) ((T).cp)]⟩]] := Mem.call (Ma := [[⟨.slice (bl b) 1 1, 66, 2, 1, [(p), .slice (A) ((l).length) (c)]⟩], [⟨.slice (A) ((l).length) (c), 5, 1, ((l).length), (l).map byteV⟩]]) hMf3_4 hR3_4 rfl
    have hcr3_4_1 := (hM3_4.cap 1 rfl).1
    refine O.nil ?_
    refine C.ret ?_
    refine P0 ?_
    have hq1 : (l ++ (fmtR (prsP ((((T).l)[(at0).toNat]'hx1_3)).t)) : List UInt8) = l ++ textT (T).t (n + 1) at0 := (by rw [hte, hfy])
    have hMn1 : Mem w w3_4 [some b, (Value.slice (A) ((l).length) (c)).ownBlock] [[⟨.slice (bl b) 1 1, 66, 2, 1, [.pointer (ofs (bl b) (0)), .slice (A13_4) ((l ++ (fmtR (prsP ((((T).l)[(at0).toNat]'hx1_3)).t))).length) (c13_4)]⟩], [⟨.slice (A13_4) ((l ++ textT (T).t (n + 1) at0).length) (c13_4), 5, 1, ((l ++ textT (T).t (n + 1) at0).length), (l ++ textT (T).t (n + 1) at0).map byteV⟩], [⟨.slice (A13_2) ((prsP ((((T).l)[(at0).toNat]'hx1_3)).t).length) (c13_2), 61, 2, ((prsP ((((T).l)[(at0).toNat]'hx1_3)).t).length), (prsP ((((T).l)[(at0).toNat]'hx1_3)).t).flatMap encP⟩], [⟨.slice (bl b1_5) 1 1, 58, 3, 1, [.slice ((((T).l)[(at0).toNat]'hx1_3).k.A) ((((T).l)[(at0).toNat]'hx1_3).k.l.length) ((((T).l)[(at0).toNat]'hx1_3).k.cp), .slice ((((T).l)[(at0).toNat]'hx1_3).c.A) ((((T).l)[(at0).toNat]'hx1_3).c.l.length) ((((T).l)[(at0).toNat]'hx1_3).c.cp), .slice ((((T).l)[(at0).toNat]'hx1_3).v.A) ((((T).l)[(at0).toNat]'hx1_3).v.l.length) ((((T).l)[(at0).toNat]'hx1_3).v.cp)]⟩], [⟨.slice (bl b0_0) 1 1, 39, 2, 1, [I ((T).root), .slice ((T).A) ((T).l.length) ((T).cp)]⟩]] := hM3_4.relen 1 (n' := (l ++ textT (T).t (n + 1) at0).length) (xs' := (l ++ textT (T).t (n + 1) at0).map byteV) rfl (by first | rfl | exact congrArg List.length hq1 | (have hqq := congrArg List.length hq1; first | omega | (simp at hqq ⊢; omega)) | (simp; done) | (simp; omega)) (congrArg (fun z_ => (z_).map byteV) hq1) rfl
    have hMn2 : Mem w w3_4 [some b, (Value.slice (A) ((l).length) (c)).ownBlock] [[⟨.slice (bl b) 1 1, 66, 2, 1, [.pointer (ofs (bl b) (0)), .slice (A13_4) ((l ++ textT (T).t (n + 1) at0).length) (c13_4)]⟩], [⟨.slice (A13_4) ((l ++ textT (T).t (n + 1) at0).length) (c13_4), 5, 1, ((l ++ textT (T).t (n + 1) at0).length), (l ++ textT (T).t (n + 1) at0).map byteV⟩], [⟨.slice (A13_2) ((prsP ((((T).l)[(at0).toNat]'hx1_3)).t).length) (c13_2), 61, 2, ((prsP ((((T).l)[(at0).toNat]'hx1_3)).t).length), (prsP ((((T).l)[(at0).toNat]'hx1_3)).t).flatMap encP⟩], [⟨.slice (bl b1_5) 1 1, 58, 3, 1, [.slice ((((T).l)[(at0).toNat]'hx1_3).k.A) ((((T).l)[(at0).toNat]'hx1_3).k.l.length) ((((T).l)[(at0).toNat]'hx1_3).k.cp), .slice ((((T).l)[(at0).toNat]'hx1_3).c.A) ((((T).l)[(at0).toNat]'hx1_3).c.l.length) ((((T).l)[(at0).toNat]'hx1_3).c.cp), .slice ((((T).l)[(at0).toNat]'hx1_3).v.A) ((((T).l)[(at0).toNat]'hx1_3).v.l.length) ((((T).l)[(at0).toNat]'hx1_3).v.cp)]⟩], [⟨.slice (bl b0_0) 1 1, 39, 2, 1, [I ((T).root), .slice ((T).A) ((T).l.length) ((T).cp)]⟩]] := Mem.cast hMn1 (congrArg (fun z_ : Nat => ([[⟨.slice (bl b) 1 1, 66, 2, 1, [.pointer (ofs (bl b) (0)), .slice (A13_4) (z_) (c13_4)]⟩], [⟨.slice (A13_4) ((l ++ textT (T).t (n + 1) at0).length) (c13_4), 5, 1, ((l ++ textT (T).t (n + 1) at0).length), (l ++ textT (T).t (n + 1) at0).map byteV⟩], [⟨.slice (A13_2) ((prsP ((((T).l)[(at0).toNat]'hx1_3)).t).length) (c13_2), 61, 2, ((prsP ((((T).l)[(at0).toNat]'hx1_3)).t).length), (prsP ((((T).l)[(at0).toNat]'hx1_3)).t).flatMap encP⟩], [⟨.slice (bl b1_5) 1 1, 58, 3, 1, [.slice ((((T).l)[(at0).toNat]'hx1_3).k.A) ((((T).l)[(at0).toNat]'hx1_3).k.l.length) ((((T).l)[(at0).toNat]'hx1_3).k.cp), .slice ((((T).l)[(at0).toNat]'hx1_3).c.A) ((((T).l)[(at0).toNat]'hx1_3).c.l.length) ((((T).l)[(at0).toNat]'hx1_3).c.cp), .slice ((((T).l)[(at0).toNat]'hx1_3).v.A) ((((T).l)[(at0).toNat]'hx1_3).v.l.length) ((((T).l)[(at0).toNat]'hx1_3).v.cp)]⟩], [⟨.slice (bl b0_0) 1 1, 39, 2, 1, [I ((T).root), .slice ((T).A) ((T).l.length) ((T).cp)]⟩]] : List (List FE))) (show (l ++ (fmtR (prsP ((((T).l)[(at0).toNat]'hx1_3)).t))).length = (l ++ textT (T).t (n + 1) at0).length from congrArg List.length hq1))
    exact ⟨A13_4, c13_4, rfl, (hMn2.pick [0, 1] (by decide) rfl)⟩
  · have hk0 : (gP (T).t at0).kids ≠ [] := by rw [hgp]; intro e9; exact absurd (show (((T).l[(at0).toNat]'hjx).c.l).length = 0 from congrArg List.length e9) (by omega)
    have hkl := (fr_in hfb hk0).2
    rw [hgp] at hkl
    have hkl2 : (((T).l[(at0).toNat]'hjx).c.l).length = (((T).l[(at0).toNat]'hjx).k.l).length + 1 := hkl
    have hte : textT (T).t (n + 1) at0 = 40 :: (kidsX (textT (T).t n) (((T).l[(at0).toNat]'hjx).k.l) 0 (((T).l[(at0).toNat]'hjx).c.l) ++ [41]) := by simp only [textT]; rw [if_neg hk0, hgp]; rfl
    have hkp : ∀ j k : Nat, k ≤ j → (kidsX (textT (T).t n) (((T).l[(at0).toNat]'hjx).k.l) 0 ((((T).l[(at0).toNat]'hjx).c.l).take k)).length ≤ j * (200 * 8 ^ n + 23) := fun j k hk => by have := kids_part hok hk; rw [hgp] at this; exact this
    refine C.skip ?_
    refine C.seq ?_
    refine C.region ?_
    refine O.val (v := .pointer (ofs (bl b) (0))) rfl (Ru.move rfl) rfl ?_
    have hMf4_1 : Mem w w1_6 [some b, (Value.slice (A) ((l).length) (c)).ownBlock] [[⟨.slice (bl b) 1 1, 66, 2, 1, [(p), .slice (A) ((l).length) (c)]⟩], [⟨.slice (A) ((l).length) (c), 5, 1, ((l).length), (l).map byteV⟩], [⟨.slice (bl b1_5) 1 1, 58, 3, 1, [.slice ((((T).l)[(at0).toNat]'hx1_3).k.A) ((((T).l)[(at0).toNat]'hx1_3).k.l.length) ((((T).l)[(at0).toNat]'hx1_3).k.cp), .slice ((((T).l)[(at0).toNat]'hx1_3).c.A) ((((T).l)[(at0).toNat]'hx1_3).c.l.length) ((((T).l)[(at0).toNat]'hx1_3).c.cp), .slice ((((T).l)[(at0).toNat]'hx1_3).v.A) ((((T).l)[(at0).toNat]'hx1_3).v.l.length) ((((T).l)[(at0).toNat]'hx1_3).v.cp)]⟩], [⟨.slice (bl b0_0) 1 1, 39, 2, 1, [I ((T).root), .slice ((T).A) ((T).l.length) ((T).cp)]⟩]] := hM1_6.pick [2, 3, 0, 1] (by decide) rfl
    refine O.callg [.pointer (ofs (bl b) (0)), .int .u8 (40)] rfl en45 rfl rfl (WriteByte_fn b A c l (p) (40 : UInt8) w1_6 (Mem.focus (Ma := [[⟨.slice (bl b) 1 1, 66, 2, 1, [(p), .slice (A) ((l).length) (c)]⟩], [⟨.slice (A) ((l).length) (c), 5, 1, ((l).length), (l).map byteV⟩]]) (rest := [[⟨.slice (bl b1_5) 1 1, 58, 3, 1, [.slice ((((T).l)[(at0).toNat]'hx1_3).k.A) ((((T).l)[(at0).toNat]'hx1_3).k.l.length) ((((T).l)[(at0).toNat]'hx1_3).k.cp), .slice ((((T).l)[(at0).toNat]'hx1_3).c.A) ((((T).l)[(at0).toNat]'hx1_3).c.l.length) ((((T).l)[(at0).toNat]'hx1_3).c.cp), .slice ((((T).l)[(at0).toNat]'hx1_3).v.A) ((((T).l)[(at0).toNat]'hx1_3).v.l.length) ((((T).l)[(at0).toNat]'hx1_3).v.cp)]⟩], [⟨.slice (bl b0_0) 1 1, 39, 2, 1, [I ((T).root), .slice ((T).A) ((T).l.length) ((T).cp)]⟩]]) hMf4_1 rfl) (by first | exact .inl rfl | exact .inr rfl | assumption) (by first | omega | (simp; omega))) ?_
    rintro _ w4_1 ⟨A14_1, c14_1, rfl, hR4_1⟩
    have hM4_1 : Mem w w4_1 [some b, (Value.slice (A) ((l).length) (c)).ownBlock] [[⟨.slice (bl b) 1 1, 66, 2, 1, [.pointer (ofs (bl b) (0)), .slice (A14_1) ((l ++ [(40 : UInt8)]).length) (c14_1)]⟩], [⟨.slice (A14_1) ((l ++ [(40 : UInt8)]).length) (c14_1), 5, 1, ((l ++ [(40 : UInt8)]).length), (l ++ [(40 : UInt8)]).map byteV⟩], [⟨.slice (bl b1_5) 1 1, 58, 3, 1, [.slice ((((T).l)[(at0).toNat]'hx1_3).k.A) ((((T).l)[(at0).toNat]'hx1_3).k.l.length) ((((T).l)[(at0).toNat]'hx1_3).k.cp), .slice ((((T).l)[(at0).toNat]'hx1_3).c.A) ((((T).l)[(at0).toNat]'hx1_3).c.l.length) ((((T).l)[(at0).toNat]'hx1_3).c.cp), .slice ((((T).l)[(at0).toNat]'hx1_3).v.A) ((((T).l)[(at0).toNat]'hx1_3).v.l.length) ((((T).l)[(at0).toNat]'hx1_3).v.cp)]⟩], [⟨.slice (bl b0_0) 1 1, 39, 2, 1, [I ((T).root), .slice ((T).A) ((T).l.length) ((T).cp)]⟩]] := Mem.call (Ma := [[⟨.slice (bl b) 1 1, 66, 2, 1, [(p), .slice (A) ((l).length) (c)]⟩], [⟨.slice (A) ((l).length) (c), 5, 1, ((l).length), (l).map byteV⟩]]) hMf4_1 hR4_1 rfl
    have hcr4_1_1 := (hM4_1.cap 1 rfl).1
    refine O.nil ?_
    refine C.seq ?_
    refine C.seq ?_
    refine C.region ?_
    refine O.val (v := .pointer (ofs (bl b1_5) (1))) rfl (Ru.fieldA fl58_1 rfl rfl) rfl ?_
    refine O.val rfl (Ru.load1 el51 rfl ((hM4_1.rd 2 rfl).ld rfl)) rfl ?_
    refine O.val (v := I ((((((T).l)[(at0).toNat]'hx1_3).c.l.length : Nat) : Int))) rfl (Ru.blenSlice Tryd.underlying51 rfl) rfl ?_
    refine O.val (v := I (0)) rfl (Ru.move rfl) rfl ?_
    refine O.nil ?_
    refine C.block ?_
    have hq3 : (l ++ [(40 : UInt8)] : List UInt8) = l ++ 40 :: kidsX (textT (T).t n) (((T).l[(at0).toNat]'hjx).k.l) 0 ((((T).l[(at0).toNat]'hjx).c.l).take 0) := (by simp [kidsX])
    have hMn3 : Mem w w4_1 [some b, (Value.slice (A) ((l).length) (c)).ownBlock] [[⟨.slice (bl b) 1 1, 66, 2, 1, [.pointer (ofs (bl b) (0)), .slice (A14_1) ((l ++ [(40 : UInt8)]).length) (c14_1)]⟩], [⟨.slice (A14_1) ((l ++ 40 :: kidsX (textT (T).t n) (((T).l[(at0).toNat]'hjx).k.l) 0 ((((T).l[(at0).toNat]'hjx).c.l).take 0)).length) (c14_1), 5, 1, ((l ++ 40 :: kidsX (textT (T).t n) (((T).l[(at0).toNat]'hjx).k.l) 0 ((((T).l[(at0).toNat]'hjx).c.l).take 0)).length), (l ++ 40 :: kidsX (textT (T).t n) (((T).l[(at0).toNat]'hjx).k.l) 0 ((((T).l[(at0).toNat]'hjx).c.l).take 0)).map byteV⟩], [⟨.slice (bl b1_5) 1 1, 58, 3, 1, [.slice ((((T).l)[(at0).toNat]'hx1_3).k.A) ((((T).l)[(at0).toNat]'hx1_3).k.l.length) ((((T).l)[(at0).toNat]'hx1_3).k.cp), .slice ((((T).l)[(at0).toNat]'hx1_3).c.A) ((((T).l)[(at0).toNat]'hx1_3).c.l.length) ((((T).l)[(at0).toNat]'hx1_3).c.cp), .slice ((((T).l)[(at0).toNat]'hx1_3).v.A) ((((T).l)[(at0).toNat]'hx1_3).v.l.length) ((((T).l)[(at0).toNat]'hx1_3).v.cp)]⟩], [⟨.slice (bl b0_0) 1 1, 39, 2, 1, [I ((T).root), .slice ((T).A) ((T).l.length) ((T).cp)]⟩]] := hM4_1.relen 1 (n' := (l ++ 40 :: kidsX (textT (T).t n) (((T).l[(at0).toNat]'hjx).k.l) 0 ((((T).l[(at0).toNat]'hjx).c.l).take 0)).length) (xs' := (l ++ 40 :: kidsX (textT (T).t n) (((T).l[(at0).toNat]'hjx).k.l) 0 ((((T).l[(at0).toNat]'hjx).c.l).take 0)).map byteV) rfl (by first | rfl | exact congrArg List.length hq3 | (have hqq := congrArg List.length hq3; first | omega | (simp at hqq ⊢; omega)) | (simp; done) | (simp; omega)) (congrArg (fun z_ => (z_).map byteV) hq3) rfl
    have hMn4 : Mem w w4_1 [some b, (Value.slice (A) ((l).length) (c)).ownBlock] [[⟨.slice (bl b) 1 1, 66, 2, 1, [.pointer (ofs (bl b) (0)), .slice (A14_1) ((l ++ 40 :: kidsX (textT (T).t n) (((T).l[(at0).toNat]'hjx).k.l) 0 ((((T).l[(at0).toNat]'hjx).c.l).take 0)).length) (c14_1)]⟩], [⟨.slice (A14_1) ((l ++ 40 :: kidsX (textT (T).t n) (((T).l[(at0).toNat]'hjx).k.l) 0 ((((T).l[(at0).toNat]'hjx).c.l).take 0)).length) (c14_1), 5, 1, ((l ++ 40 :: kidsX (textT (T).t n) (((T).l[(at0).toNat]'hjx).k.l) 0 ((((T).l[(at0).toNat]'hjx).c.l).take 0)).length), (l ++ 40 :: kidsX (textT (T).t n) (((T).l[(at0).toNat]'hjx).k.l) 0 ((((T).l[(at0).toNat]'hjx).c.l).take 0)).map byteV⟩], [⟨.slice (bl b1_5) 1 1, 58, 3, 1, [.slice ((((T).l)[(at0).toNat]'hx1_3).k.A) ((((T).l)[(at0).toNat]'hx1_3).k.l.length) ((((T).l)[(at0).toNat]'hx1_3).k.cp), .slice ((((T).l)[(at0).toNat]'hx1_3).c.A) ((((T).l)[(at0).toNat]'hx1_3).c.l.length) ((((T).l)[(at0).toNat]'hx1_3).c.cp), .slice ((((T).l)[(at0).toNat]'hx1_3).v.A) ((((T).l)[(at0).toNat]'hx1_3).v.l.length) ((((T).l)[(at0).toNat]'hx1_3).v.cp)]⟩], [⟨.slice (bl b0_0) 1 1, 39, 2, 1, [I ((T).root), .slice ((T).A) ((T).l.length) ((T).cp)]⟩]] := Mem.cast hMn3 (congrArg (fun z_ : Nat => ([[⟨.slice (bl b) 1 1, 66, 2, 1, [.pointer (ofs (bl b) (0)), .slice (A14_1) (z_) (c14_1)]⟩], [⟨.slice (A14_1) ((l ++ 40 :: kidsX (textT (T).t n) (((T).l[(at0).toNat]'hjx).k.l) 0 ((((T).l[(at0).toNat]'hjx).c.l).take 0)).length) (c14_1), 5, 1, ((l ++ 40 :: kidsX (textT (T).t n) (((T).l[(at0).toNat]'hjx).k.l) 0 ((((T).l[(at0).toNat]'hjx).c.l).take 0)).length), (l ++ 40 :: kidsX (textT (T).t n) (((T).l[(at0).toNat]'hjx).k.l) 0 ((((T).l[(at0).toNat]'hjx).c.l).take 0)).map byteV⟩], [⟨.slice (bl b1_5) 1 1, 58, 3, 1, [.slice ((((T).l)[(at0).toNat]'hx1_3).k.A) ((((T).l)[(at0).toNat]'hx1_3).k.l.length) ((((T).l)[(at0).toNat]'hx1_3).k.cp), .slice ((((T).l)[(at0).toNat]'hx1_3).c.A) ((((T).l)[(at0).toNat]'hx1_3).c.l.length) ((((T).l)[(at0).toNat]'hx1_3).c.cp), .slice ((((T).l)[(at0).toNat]'hx1_3).v.A) ((((T).l)[(at0).toNat]'hx1_3).v.l.length) ((((T).l)[(at0).toNat]'hx1_3).v.cp)]⟩], [⟨.slice (bl b0_0) 1 1, 39, 2, 1, [I ((T).root), .slice ((T).A) ((T).l.length) ((T).cp)]⟩]] : List (List FE))) (show (l ++ [(40 : UInt8)]).length = (l ++ 40 :: kidsX (textT (T).t n) (((T).l[(at0).toNat]'hjx).k.l) 0 ((((T).l[(at0).toNat]'hjx).c.l).take 0)).length from (by simp [kidsX])))
    refine C.loop (ι := Nat × (Option Addr) × Nat) (fun x_ => ([(2, .pointer (ofs (bl b) (0))), (3, .pointer (ofs (bl b0_0) (0))), (6, .pointer (ofs (bl b1_5) (0))), (26, .slice ((((T).l)[(at0).toNat]'hx1_3).c.A) ((((T).l)[(at0).toNat]'hx1_3).c.l.length) ((((T).l)[(at0).toNat]'hx1_3).c.cp)), (27, I ((((((T).l)[(at0).toNat]'hx1_3).c.l.length : Nat) : Int))), (28, I (((x_.1 : Nat) : Int)))] : List (Nat × Value))) (fun x_ w_ => (x_.1 ≤ (((T).l[(at0).toNat]'hjx).c.l).length) ∧ (Mem w w_ [some b, (Value.slice (A) ((l).length) (c)).ownBlock] [[⟨.slice (bl b) 1 1, 66, 2, 1, [.pointer (ofs (bl b) (0)), .slice (x_.2.1) ((l ++ 40 :: kidsX (textT (T).t n) (((T).l[(at0).toNat]'hjx).k.l) 0 ((((T).l[(at0).toNat]'hjx).c.l).take x_.1)).length) (x_.2.2)]⟩], [⟨.slice (x_.2.1) ((l ++ 40 :: kidsX (textT (T).t n) (((T).l[(at0).toNat]'hjx).k.l) 0 ((((T).l[(at0).toNat]'hjx).c.l).take x_.1)).length) (x_.2.2), 5, 1, ((l ++ 40 :: kidsX (textT (T).t n) (((T).l[(at0).toNat]'hjx).k.l) 0 ((((T).l[(at0).toNat]'hjx).c.l).take x_.1)).length), (l ++ 40 :: kidsX (textT (T).t n) (((T).l[(at0).toNat]'hjx).k.l) 0 ((((T).l[(at0).toNat]'hjx).c.l).take x_.1)).map byteV⟩], [⟨.slice (bl b1_5) 1 1, 58, 3, 1, [.slice ((((T).l)[(at0).toNat]'hx1_3).k.A) ((((T).l)[(at0).toNat]'hx1_3).k.l.length) ((((T).l)[(at0).toNat]'hx1_3).k.cp), .slice ((((T).l)[(at0).toNat]'hx1_3).c.A) ((((T).l)[(at0).toNat]'hx1_3).c.l.length) ((((T).l)[(at0).toNat]'hx1_3).c.cp), .slice ((((T).l)[(at0).toNat]'hx1_3).v.A) ((((T).l)[(at0).toNat]'hx1_3).v.l.length) ((((T).l)[(at0).toNat]'hx1_3).v.cp)]⟩], [⟨.slice (bl b0_0) 1 1, 39, 2, 1, [I ((T).root), .slice ((T).A) ((T).l.length) ((T).cp)]⟩]])) (fun x_ => (((T).l[(at0).toNat]'hjx).c.l).length - x_.1) (0, A14_1, c14_1) (Has.cons rfl (Has.cons rfl (Has.cons rfl (Has.cons rfl (Has.cons rfl (Has.cons (I_congr (by first | rfl | omega | (simp; omega) | simp)) Has.nil)))))) ⟨(Nat.zero_le _), (hMn4.pick [0, 1, 2, 3] (by decide) rfl)⟩ (fun ⟨k, A2, c2⟩ σ w_l6 hI => ?_)
    try dsimp only at hI
    obtain ⟨hi0_l6, hM_l6⟩ := hI
    have hcl1_l6 := (hM_l6.cap 1 rfl).1
    refine C.seq ?_
    refine C.region ?_
    refine O.val (v := .bool (decide (((k : Nat) : Int) < (((((T).l)[(at0).toNat]'hx1_3).c.l.length : Nat) : Int)))) rfl (Ru.lss rfl rfl) rfl ?_
    refine O.nil ?_
    refine C.seq ?_
    refine C.cond (p := ((k : Nat) : Int) < (((((T).l)[(at0).toNat]'hx1_3).c.l.length : Nat) : Int)) rfl (fun c29 => ?_) (fun c29 => ?_)
    · have hkt := kidsX_take (f := textT (T).t n) (ks := ((T).l[(at0).toNat]'hjx).k.l) (l := ((T).l[(at0).toNat]'hjx).c.l) (k := k) (by omega)
      have hkx : k < (((T).l[(at0).toNat]'hjx).c.l).length := by omega
      have hok1 := ok_kid hok (k := k) (by rw [hgp]; exact hkx)
      have hck : (gP (T).t at0).kids[k]'(by rw [hgp]; exact hkx) = (((T).l[(at0).toNat]'hjx).c.l)[k] := by simp only [hgp]; rfl
      rw [hck] at hok1
      have htl1 := txt_len hok1
      have hk4 := hkp 4 k (by omega)
      refine C.skip ?_
      refine C.seq ?_
      refine C.block ?_
      refine C.seq ?_
      refine C.region ?_
      refine O.val (v := I (((k : Nat) : Int))) rfl (Ru.move rfl) rfl ?_
      have hx7_1 : k < ((((T).l)[(at0).toNat]'hx1_3).c.l).length := (by first | omega | (simp; omega))
      refine O.val (v := .pointer (ofs ((((T).l)[(at0).toNat]'hx1_3).c.A) (k * 1))) rfl (Ru.indexA (j := k) Tryd.underlying51 el3 rfl rfl (smm (((hNT.atR hM_l6 hOT)).2.get hx1_3).2.1 hx7_1) (by omega) (by first | omega | (simp; omega))) rfl ?_
      refine O.val rfl (Ru.load1 el3 rfl (ldm (((hNT.atR hM_l6 hOT)).2.get hx1_3).2.1 hx7_1)) rfl ?_
      refine O.val (v := I (((k : Nat) : Int))) rfl (Ru.assign rfl) rfl ?_
      refine O.val (v := I (((((T).l)[(at0).toNat]'hx1_3).c.l)[k]'hx7_1)) rfl (Ru.assign rfl) rfl ?_
      refine O.nil ?_
      refine C.seq ?_
      refine C.seq ?_
      refine C.region ?_
      refine O.val (v := I (((k : Nat) : Int))) rfl (Ru.move rfl) rfl ?_
      refine O.val (v := .bool (decide (((k : Nat) : Int) > 0))) rfl (Ru.gtr rfl rfl) rfl ?_
      refine O.nil ?_
      refine C.cond (p := ((k : Nat) : Int) > 0) rfl (fun c34 => ?_) (fun c34 => ?_)
      · have hk0 : k ≠ 0 := by omega
        have hkj : k - 1 < (((T).l[(at0).toNat]'hjx).k.l).length := by omega
        have hkb := validK_bd (show validK (((T).l[(at0).toNat]'hjx).k.l) = true from hvk) hkj
        have hil := itoa_len (n := (((T).l[(at0).toNat]'hjx).k.l)[k - 1]) (by omega) (by omega)
        have hgd := getD_in hkj
        refine C.seq ?_
        refine C.region ?_
        refine O.val (v := .pointer (ofs (bl b) (0))) rfl (Ru.move rfl) rfl ?_
        refine O.callg [.pointer (ofs (bl b) (0)), .int .u8 (32)] rfl en45 rfl rfl (WriteByte_fn b A2 c2 (l ++ 40 :: kidsX (textT (T).t n) (((T).l[(at0).toNat]'hjx).k.l) 0 ((((T).l[(at0).toNat]'hjx).c.l).take k)) (.pointer (ofs (bl b) (0))) (32 : UInt8) w_l6 (Mem.focus (Ma := [[⟨.slice (bl b) 1 1, 66, 2, 1, [.pointer (ofs (bl b) (0)), .slice (A2) ((l ++ 40 :: kidsX (textT (T).t n) (((T).l[(at0).toNat]'hjx).k.l) 0 ((((T).l[(at0).toNat]'hjx).c.l).take k)).length) (c2)]⟩], [⟨.slice (A2) ((l ++ 40 :: kidsX (textT (T).t n) (((T).l[(at0).toNat]'hjx).k.l) 0 ((((T).l[(at0).toNat]'hjx).c.l).take k)).length) (c2), 5, 1, ((l ++ 40 :: kidsX (textT (T).t n) (((T).l[(at0).toNat]'hjx).k.l) 0 ((((T).l[(at0).toNat]'hjx).c.l).take k)).length), (l ++ 40 :: kidsX (textT (T).t n) (((T).l[(at0).toNat]'hjx).k.l) 0 ((((T).l[(at0).toNat]'hjx).c.l).take k)).map byteV⟩]]) (rest := [[⟨.slice (bl b1_5) 1 1, 58, 3, 1, [.slice ((((T).l)[(at0).toNat]'hx1_3).k.A) ((((T).l)[(at0).toNat]'hx1_3).k.l.length) ((((T).l)[(at0).toNat]'hx1_3).k.cp), .slice ((((T).l)[(at0).toNat]'hx1_3).c.A) ((((T).l)[(at0).toNat]'hx1_3).c.l.length) ((((T).l)[(at0).toNat]'hx1_3).c.cp), .slice ((((T).l)[(at0).toNat]'hx1_3).v.A) ((((T).l)[(at0).toNat]'hx1_3).v.l.length) ((((T).l)[(at0).toNat]'hx1_3).v.cp)]⟩], [⟨.slice (bl b0_0) 1 1, 39, 2, 1, [I ((T).root), .slice ((T).A) ((T).l.length) ((T).cp)]⟩]]) hM_l6 rfl) (by first | exact .inl rfl | exact .inr rfl | assumption) (by first | omega | (simp; omega))) ?_
        rintro _ w9_1 ⟨A19_1, c19_1, rfl, hR9_1⟩
        have hM9_1 : Mem w w9_1 [some b, (Value.slice (A) ((l).length) (c)).ownBlock] [[⟨.slice (bl b) 1 1, 66, 2, 1, [.pointer (ofs (bl b) (0)), .slice (A19_1) (((l ++ 40 :: kidsX (textT (T).t n) (((T).l[(at0).toNat]'hjx).k.l) 0 ((((T).l[(at0).toNat]'hjx).c.l).take k)) ++ [(32 : UInt8)]).length) (c19_1)]⟩], [⟨.slice (A19_1) (((l ++ 40 :: kidsX (textT (T).t n) (((T).l[(at0).toNat]'hjx).k.l) 0 ((((T).l[(at0).toNat]'hjx).c.l).take k)) ++ [(32 : UInt8)]).length) (c19_1), 5, 1, (((l ++ 40 :: kidsX (textT (T).t n) (((T).l[(at0).toNat]'hjx).k.l) 0 ((((T).l[(at0).toNat]'hjx).c.l).take k)) ++ [(32 : UInt8)]).length), ((l ++ 40 :: kidsX (textT (T).t n) (((T).l[(at0).toNat]'hjx).k.l) 0 ((((T).l[(at0).toNat]'hjx).c.l).take k)) ++ [(32 : UInt8)]).map byteV⟩], [⟨.slice (bl b1_5) 1 1, 58, 3, 1, [.slice ((((T).l)[(at0).toNat]'hx1_3).k.A) ((((T).l)[(at0).toNat]'hx1_3).k.l.length) ((((T).l)[(at0).toNat]'hx1_3).k.cp), .slice ((((T).l)[(at0).toNat]'hx1_3).c.A) ((((T).l)[(at0).toNat]'hx1_3).c.l.length) ((((T).l)[(at0).toNat]'hx1_3).c.cp), .slice ((((T).l)[(at0).toNat]'hx1_3).v.A) ((((T).l)[(at0).toNat]'hx1_3).v.l.length) ((((T).l)[(at0).toNat]'hx1_3).v.cp)]⟩], [⟨.slice (bl b0_0) 1 1, 39, 2, 1, [I ((T).root), .slice ((T).A) ((T).l.length) ((T).cp)]⟩]] := Mem.call (Ma := [[⟨.slice (bl b) 1 1, 66, 2, 1, [.pointer (ofs (bl b) (0)), .slice (A2) ((l ++ 40 :: kidsX (textT (T).t n) (((T).l[(at0).toNat]'hjx).k.l) 0 ((((T).l[(at0).toNat]'hjx).c.l).take k)).length) (c2)]⟩], [⟨.slice (A2) ((l ++ 40 :: kidsX (textT (T).t n) (((T).l[(at0).toNat]'hjx).k.l) 0 ((((T).l[(at0).toNat]'hjx).c.l).take k)).length) (c2), 5, 1, ((l ++ 40 :: kidsX (textT (T).t n) (((T).l[(at0).toNat]'hjx).k.l) 0 ((((T).l[(at0).toNat]'hjx).c.l).take k)).length), (l ++ 40 :: kidsX (textT (T).t n) (((T).l[(at0).toNat]'hjx).k.l) 0 ((((T).l[(at0).toNat]'hjx).c.l).take k)).map byteV⟩]]) hM_l6 hR9_1 rfl
        have hcr9_1_1 := (hM9_1.cap 1 rfl).1
        refine O.nil ?_
        refine C.seq ?_
        refine C.region ?_
        refine O.val (v := .pointer (ofs (bl b) (0))) rfl (Ru.move rfl) rfl ?_
        refine O.val (v := .pointer (ofs (bl b1_5) (0))) rfl (Ru.fieldA fl58_0 rfl rfl) rfl ?_
        refine O.val rfl (Ru.load1 el51 rfl ((hM9_1.rd 2 rfl).ld rfl)) rfl ?_
        refine O.val (v := I (((k : Nat) : Int))) rfl (Ru.move rfl) rfl ?_
        refine O.val (v := I ((((k : Nat) : Int) - 1))) rfl (Ru.sub rfl rfl (by omega)) rfl ?_
        have hx10_5 : k - 1 < ((((T).l)[(at0).toNat]'hx1_3).k.l).length := hkj
        refine O.val (v := .pointer (ofs ((((T).l)[(at0).toNat]'hx1_3).k.A) ((k - 1) * 1))) rfl (Ru.indexA (j := k - 1) Tryd.underlying51 el3 rfl rfl (smm (((hNT.atR hM9_1 hOT)).2.get hx1_3).1 hx10_5) (by omega) (by omega)) rfl ?_
        refine O.val rfl (Ru.load1 el3 rfl (ldm (((hNT.atR hM9_1 hOT)).2.get hx1_3).1 hx10_5)) rfl ?_
        refine O.callg [I (((((T).l)[(at0).toNat]'hx1_3).k.l)[k - 1]'hx10_5)] rfl en47 rfl rfl (Itoa_fn (((((T).l)[(at0).toNat]'hx1_3).k.l)[k - 1]'hx10_5) w9_1 (tab_atR htab hM9_1 htO) (by constructor <;> omega)) ?_
        rintro _ w10_7 ⟨rfl, hR10_7⟩
        have hM10_7 : Mem w w10_7 [some b, (Value.slice (A) ((l).length) (c)).ownBlock] [[⟨.slice (bl b) 1 1, 66, 2, 1, [.pointer (ofs (bl b) (0)), .slice (A19_1) (((l ++ 40 :: kidsX (textT (T).t n) (((T).l[(at0).toNat]'hjx).k.l) 0 ((((T).l[(at0).toNat]'hjx).c.l).take k)) ++ [(32 : UInt8)]).length) (c19_1)]⟩], [⟨.slice (A19_1) (((l ++ 40 :: kidsX (textT (T).t n) (((T).l[(at0).toNat]'hjx).k.l) 0 ((((T).l[(at0).toNat]'hjx).c.l).take k)) ++ [(32 : UInt8)]).length) (c19_1), 5, 1, (((l ++ 40 :: kidsX (textT (T).t n) (((T).l[(at0).toNat]'hjx).k.l) 0 ((((T).l[(at0).toNat]'hjx).c.l).take k)) ++ [(32 : UInt8)]).length), ((l ++ 40 :: kidsX (textT (T).t n) (((T).l[(at0).toNat]'hjx).k.l) 0 ((((T).l[(at0).toNat]'hjx).c.l).take k)) ++ [(32 : UInt8)]).map byteV⟩], [⟨.slice (bl b1_5) 1 1, 58, 3, 1, [.slice ((((T).l)[(at0).toNat]'hx1_3).k.A) ((((T).l)[(at0).toNat]'hx1_3).k.l.length) ((((T).l)[(at0).toNat]'hx1_3).k.cp), .slice ((((T).l)[(at0).toNat]'hx1_3).c.A) ((((T).l)[(at0).toNat]'hx1_3).c.l.length) ((((T).l)[(at0).toNat]'hx1_3).c.cp), .slice ((((T).l)[(at0).toNat]'hx1_3).v.A) ((((T).l)[(at0).toNat]'hx1_3).v.l.length) ((((T).l)[(at0).toNat]'hx1_3).v.cp)]⟩], [⟨.slice (bl b0_0) 1 1, 39, 2, 1, [I ((T).root), .slice ((T).A) ((T).l.length) ((T).cp)]⟩]] := Mem.call (Ma := []) hM9_1 hR10_7 rfl
        refine O.callg [.pointer (ofs (bl b) (0)), S (itoaS (((((T).l)[(at0).toNat]'hx1_3).k.l)[k - 1]'hx10_5))] rfl en46 rfl rfl (WriteString_fn b A19_1 c19_1 ((l ++ 40 :: kidsX (textT (T).t n) (((T).l[(at0).toNat]'hjx).k.l) 0 ((((T).l[(at0).toNat]'hjx).c.l).take k)) ++ [(32 : UInt8)]) (.pointer (ofs (bl b) (0))) (itoaS (((((T).l)[(at0).toNat]'hx1_3).k.l)[k - 1]'hx10_5)) w10_7 (Mem.focus (Ma := [[⟨.slice (bl b) 1 1, 66, 2, 1, [.pointer (ofs (bl b) (0)), .slice (A19_1) (((l ++ 40 :: kidsX (textT (T).t n) (((T).l[(at0).toNat]'hjx).k.l) 0 ((((T).l[(at0).toNat]'hjx).c.l).take k)) ++ [(32 : UInt8)]).length) (c19_1)]⟩], [⟨.slice (A19_1) (((l ++ 40 :: kidsX (textT (T).t n) (((T).l[(at0).toNat]'hjx).k.l) 0 ((((T).l[(at0).toNat]'hjx).c.l).take k)) ++ [(32 : UInt8)]).length) (c19_1), 5, 1, (((l ++ 40 :: kidsX (textT (T).t n) (((T).l[(at0).toNat]'hjx).k.l) 0 ((((T).l[(at0).toNat]'hjx).c.l).take k)) ++ [(32 : UInt8)]).length), ((l ++ 40 :: kidsX (textT (T).t n) (((T).l[(at0).toNat]'hjx).k.l) 0 ((((T).l[(at0).toNat]'hjx).c.l).take k)) ++ [(32 : UInt8)]).map byteV⟩]]) (rest := [[⟨.slice (bl b1_5) 1 1, 58, 3, 1, [.slice ((((T).l)[(at0).toNat]'hx1_3).k.A) ((((T).l)[(at0).toNat]'hx1_3).k.l.length) ((((T).l)[(at0).toNat]'hx1_3).k.cp), .slice ((((T).l)[(at0).toNat]'hx1_3).c.A) ((((T).l)[(at0).toNat]'hx1_3).c.l.length) ((((T).l)[(at0).toNat]'hx1_3).c.cp), .slice ((((T).l)[(at0).toNat]'hx1_3).v.A) ((((T).l)[(at0).toNat]'hx1_3).v.l.length) ((((T).l)[(at0).toNat]'hx1_3).v.cp)]⟩], [⟨.slice (bl b0_0) 1 1, 39, 2, 1, [I ((T).root), .slice ((T).A) ((T).l.length) ((T).cp)]⟩]]) hM10_7 rfl) (by first | exact .inl rfl | exact .inr rfl | assumption) (by first | omega | (simp; omega))) ?_
        rintro _ w10_8 ⟨A110_8, c110_8, rfl, hR10_8⟩
        have hM10_8 : Mem w w10_8 [some b, (Value.slice (A) ((l).length) (c)).ownBlock] [[⟨.slice (bl b) 1 1, 66, 2, 1, [.pointer (ofs (bl b) (0)), .slice (A110_8) ((((l ++ 40 :: kidsX (textT (T).t n) (((T).l[(at0).toNat]'hjx).k.l) 0 ((((T).l[(at0).toNat]'hjx).c.l).take k)) ++ [(32 : UInt8)]) ++ (itoaS (((((T).l)[(at0).toNat]'hx1_3).k.l)[k - 1]'hx10_5))).length) (c110_8)]⟩], [⟨.slice (A110_8) ((((l ++ 40 :: kidsX (textT (T).t n) (((T).l[(at0).toNat]'hjx).k.l) 0 ((((T).l[(at0).toNat]'hjx).c.l).take k)) ++ [(32 : UInt8)]) ++ (itoaS (((((T).l)[(at0).toNat]'hx1_3).k.l)[k - 1]'hx10_5))).length) (c110_8), 5, 1, ((((l ++ 40 :: kidsX (textT (T).t n) (((T).l[(at0).toNat]'hjx).k.l) 0 ((((T).l[(at0).toNat]'hjx).c.l).take k)) ++ [(32 : UInt8)]) ++ (itoaS (((((T).l)[(at0).toNat]'hx1_3).k.l)[k - 1]'hx10_5))).length), (((l ++ 40 :: kidsX (textT (T).t n) (((T).l[(at0).toNat]'hjx).k.l) 0 ((((T).l[(at0).toNat]'hjx).c.l).take k)) ++ [(32 : UInt8)]) ++ (itoaS (((((T).l)[(at0).toNat]'hx1_3).k.l)[k - 1]'hx10_5))).map byteV⟩], [⟨.slice (bl b1_5) 1 1, 58, 3, 1, [.slice ((((T).l)[(at0).toNat]'hx1_3).k.A) ((((T).l)[(at0).toNat]'hx1_3).k.l.length) ((((T).l)[(at0).toNat]'hx1_3).k.cp), .slice ((((T).l)[(at0).toNat]'hx1_3).c.A) ((((T).l)[(at0).toNat]'hx1_3).c.l.length) ((((T).l)[(at0).toNat]'hx1_3).c.cp), .slice ((((T).l)[(at0).toNat]'hx1_3).v.A) ((((T).l)[(at0).toNat]'hx1_3).v.l.length) ((((T).l)[(at0).toNat]'hx1_3).v.cp)]⟩], [⟨.slice (bl b0_0) 1 1, 39, 2, 1, [I ((T).root), .slice ((T).A) ((T).l.length) ((T).cp)]⟩]] := Mem.call (Ma := [[⟨.slice (bl b) 1 1, 66, 2, 1, [.pointer (ofs (bl b) (0)), .slice (A19_1) (((l ++ 40 :: kidsX (textT (T).t n) (((T).l[(at0).toNat]'hjx).k.l) 0 ((((T).l[(at0).toNat]'hjx).c.l).take k)) ++ [(32 : UInt8)]).length) (c19_1)]⟩], [⟨.slice (A19_1) (((l ++ 40 :: kidsX (textT (T).t n) (((T).l[(at0).toNat]'hjx).k.l) 0 ((((T).l[(at0).toNat]'hjx).c.l).take k)) ++ [(32 : UInt8)]).length) (c19_1), 5, 1, (((l ++ 40 :: kidsX (textT (T).t n) (((T).l[(at0).toNat]'hjx).k.l) 0 ((((T).l[(at0).toNat]'hjx).c.l).take k)) ++ [(32 : UInt8)]).length), ((l ++ 40 :: kidsX (textT (T).t n) (((T).l[(at0).toNat]'hjx).k.l) 0 ((((T).l[(at0).toNat]'hjx).c.l).take k)) ++ [(32 : UInt8)]).map byteV⟩]]) hM10_7 hR10_8 rfl
        have hcr10_8_1 := (hM10_8.cap 1 rfl).1
        refine O.nil ?_
        refine C.region ?_
        refine O.val (v := .pointer (ofs (bl b) (0))) rfl (Ru.move rfl) rfl ?_
        refine O.callg [.pointer (ofs (bl b) (0)), .int .u8 (32)] rfl en45 rfl rfl (WriteByte_fn b A110_8 c110_8 (((l ++ 40 :: kidsX (textT (T).t n) (((T).l[(at0).toNat]'hjx).k.l) 0 ((((T).l[(at0).toNat]'hjx).c.l).take k)) ++ [(32 : UInt8)]) ++ (itoaS (((((T).l)[(at0).toNat]'hx1_3).k.l)[k - 1]'hx10_5))) (.pointer (ofs (bl b) (0))) (32 : UInt8) w10_8 (Mem.focus (Ma := [[⟨.slice (bl b) 1 1, 66, 2, 1, [.pointer (ofs (bl b) (0)), .slice (A110_8) ((((l ++ 40 :: kidsX (textT (T).t n) (((T).l[(at0).toNat]'hjx).k.l) 0 ((((T).l[(at0).toNat]'hjx).c.l).take k)) ++ [(32 : UInt8)]) ++ (itoaS (((((T).l)[(at0).toNat]'hx1_3).k.l)[k - 1]'hx10_5))).length) (c110_8)]⟩], [⟨.slice (A110_8) ((((l ++ 40 :: kidsX (textT (T).t n) (((T).l[(at0).toNat]'hjx).k.l) 0 ((((T).l[(at0).toNat]'hjx).c.l).take k)) ++ [(32 : UInt8)]) ++ (itoaS (((((T).l)[(at0).toNat]'hx1_3).k.l)[k - 1]'hx10_5))).length) (c110_8), 5, 1, ((((l ++ 40 :: kidsX (textT (T).t n) (((T).l[(at0).toNat]'hjx).k.l) 0 ((((T).l[(at0).toNat]'hjx).c.l).take k)) ++ [(32 : UInt8)]) ++ (itoaS (((((T).l)[(at0).toNat]'hx1_3).k.l)[k - 1]'hx10_5))).length), (((l ++ 40 :: kidsX (textT (T).t n) (((T).l[(at0).toNat]'hjx).k.l) 0 ((((T).l[(at0).toNat]'hjx).c.l).take k)) ++ [(32 : UInt8)]) ++ (itoaS (((((T).l)[(at0).toNat]'hx1_3).k.l)[k - 1]'hx10_5))).map byteV⟩]]) (rest := [[⟨.slice (bl b1_5) 1 1, 58, 3, 1, [.slice ((((T).l)[(at0).toNat]'hx1_3).k.A) ((((T).l)[(at0).toNat]'hx1_3).k.l.length) ((((T).l)[(at0).toNat]'hx1_3).k.cp), .slice ((((T).l)[(at0).toNat]'hx1_3).c.A) ((((T).l)[(at0).toNat]'hx1_3).c.l.length) ((((T).l)[(at0).toNat]'hx1_3).c.cp), .slice ((((T).l)[(at0).toNat]'hx1_3).v.A) ((((T).l)[(at0).toNat]'hx1_3).v.l.length) ((((T).l)[(at0).toNat]'hx1_3).v.cp)]⟩], [⟨.slice (bl b0_0) 1 1, 39, 2, 1, [I ((T).root), .slice ((T).A) ((T).l.length) ((T).cp)]⟩]]) hM10_8 rfl) (by first | exact .inl rfl | exact .inr rfl | assumption) (by first | omega | (simp; omega))) ?_
        rintro _ w11_1 ⟨A111_1, c111_1, rfl, hR11_1⟩
        have hM11_1 : Mem w w11_1 [some b, (Value.slice (A) ((l).length) (c)).ownBlock] [[⟨.slice (bl b) 1 1, 66, 2, 1, [.pointer (ofs (bl b) (0)), .slice (A111_1) (((((l ++ 40 :: kidsX (textT (T).t n) (((T).l[(at0).toNat]'hjx).k.l) 0 ((((T).l[(at0).toNat]'hjx).c.l).take k)) ++ [(32 : UInt8)]) ++ (itoaS (((((T).l)[(at0).toNat]'hx1_3).k.l)[k - 1]'hx10_5))) ++ [(32 : UInt8)]).length) (c111_1)]⟩], [⟨.slice (A111_1) (((((l ++ 40 :: kidsX (textT (T).t n) (((T).l[(at0).toNat]'hjx).k.l) 0 ((((T).l[(at0).toNat]'hjx).c.l).take k)) ++ [(32 : UInt8)]) ++ (itoaS (((((T).l)[(at0).toNat]'hx1_3).k.l)[k - 1]'hx10_5))) ++ [(32 : UInt8)]).length) (c111_1), 5, 1, (((((l ++ 40 :: kidsX (textT (T).t n) (((T).l[(at0).toNat]'hjx).k.l) 0 ((((T).l[(at0).toNat]'hjx).c.l).take k)) ++ [(32 : UInt8)]) ++ (itoaS (((((T).l)[(at0).toNat]'hx1_3).k.l)[k - 1]'hx10_5))) ++ [(32 : UInt8)]).length), ((((l ++ 40 :: kidsX (textT (T).t n) (((T).l[(at0).toNat]'hjx).k.l) 0 ((((T).l[(at0).toNat]'hjx).c.l).take k)) ++ [(32 : UInt8)]) ++ (itoaS (((((T).l)[(at0).toNat]'hx1_3).k.l)[k - 1]'hx10_5))) ++ [(32 : UInt8)]).map byteV⟩], [⟨.slice (bl b1_5) 1 1, 58, 3, 1, [.slice ((((T).l)[(at0).toNat]'hx1_3).k.A) ((((T).l)[(at0).toNat]'hx1_3).k.l.length) ((((T).l)[(at0).toNat]'hx1_3).k.cp), .slice ((((T).l)[(at0).toNat]'hx1_3).c.A) ((((T).l)[(at0).toNat]'hx1_3).c.l.length) ((((T).l)[(at0).toNat]'hx1_3).c.cp), .slice ((((T).l)[(at0).toNat]'hx1_3).v.A) ((((T).l)[(at0).toNat]'hx1_3).v.l.length) ((((T).l)[(at0).toNat]'hx1_3).v.cp)]⟩], [⟨.slice (bl b0_0) 1 1, 39, 2, 1, [I ((T).root), .slice ((T).A) ((T).l.length) ((T).cp)]⟩]] := Mem.call (Ma := [[⟨.slice (bl b) 1 1, 66, 2, 1, [.pointer (ofs (bl b) (0)), .slice (A110_8) ((((l ++ 40 :: kidsX (textT (T).t n) (((T).l[(at0).toNat]'hjx).k.l) 0 ((((T).l[(at0).toNat]'hjx).c.l).take k)) ++ [(32 : UInt8)]) ++ (itoaS (((((T).l)[(at0).toNat]'hx1_3).k.l)[k - 1]'hx10_5))).length) (c110_8)]⟩], [⟨.slice (A110_8) ((((l ++ 40 :: kidsX (textT (T).t n) (((T).l[(at0).toNat]'hjx).k.l) 0 ((((T).l[(at0).toNat]'hjx).c.l).take k)) ++ [(32 : UInt8)]) ++ (itoaS (((((T).l)[(at0).toNat]'hx1_3).k.l)[k - 1]'hx10_5))).length) (c110_8), 5, 1, ((((l ++ 40 :: kidsX (textT (T).t n) (((T).l[(at0).toNat]'hjx).k.l) 0 ((((T).l[(at0).toNat]'hjx).c.l).take k)) ++ [(32 : UInt8)]) ++ (itoaS (((((T).l)[(at0).toNat]'hx1_3).k.l)[k - 1]'hx10_5))).length), (((l ++ 40 :: kidsX (textT (T).t n) (((T).l[(at0).toNat]'hjx).k.l) 0 ((((T).l[(at0).toNat]'hjx).c.l).take k)) ++ [(32 : UInt8)]) ++ (itoaS (((((T).l)[(at0).toNat]'hx1_3).k.l)[k - 1]'hx10_5))).map byteV⟩]]) hM10_8 hR11_1 rfl
        have hcr11_1_1 := (hM11_1.cap 1 rfl).1
        refine O.nil ?_
        refine C.region ?_
        refine O.val rfl (Ru.loadN (vs := [I ((T).root), .slice ((T).A) ((T).l.length) ((T).cp)]) el39 rfl rfl rfl ((mem_blk (i := 3) (j := 0) hM11_1 rfl rfl).lds (k := 0) rfl)) rfl ?_
        refine O.val (v := I (((((T).l)[(at0).toNat]'hx1_3).c.l)[k]'hx7_1)) rfl (Ru.move rfl) rfl ?_
        refine O.val (v := .pointer (ofs (bl b) (0))) rfl (Ru.move rfl) rfl ?_
        refine O.callg [.agg #[I ((T).root), .slice ((T).A) ((T).l.length) ((T).cp)], I (((((T).l)[(at0).toNat]'hx1_3).c.l)[k]'hx7_1), .pointer (ofs (bl b) (0))] rfl en62 rfl rfl (ih_fn T (((((T).l)[(at0).toNat]'hx1_3).c.l)[k]'hx7_1) b A111_1 c111_1 ((((l ++ 40 :: kidsX (textT (T).t n) (((T).l[(at0).toNat]'hjx).k.l) 0 ((((T).l[(at0).toNat]'hjx).c.l).take k)) ++ [(32 : UInt8)]) ++ (itoaS (((((T).l)[(at0).toNat]'hx1_3).k.l)[k - 1]'hx10_5))) ++ [(32 : UInt8)]) (.pointer (ofs (bl b) (0))) _ _ w11_1 (hNT.atR hM11_1 hOT) (TrO.cons (TrO.own hM11_1 hNT hOT 0 rfl) (TrO.cons (TrO.own hM11_1 hNT hOT 1 rfl) TrO.nil)) (Mem.focus (Ma := [[⟨.slice (bl b) 1 1, 66, 2, 1, [.pointer (ofs (bl b) (0)), .slice (A111_1) (((((l ++ 40 :: kidsX (textT (T).t n) (((T).l[(at0).toNat]'hjx).k.l) 0 ((((T).l[(at0).toNat]'hjx).c.l).take k)) ++ [(32 : UInt8)]) ++ (itoaS (((((T).l)[(at0).toNat]'hx1_3).k.l)[k - 1]'hx10_5))) ++ [(32 : UInt8)]).length) (c111_1)]⟩], [⟨.slice (A111_1) (((((l ++ 40 :: kidsX (textT (T).t n) (((T).l[(at0).toNat]'hjx).k.l) 0 ((((T).l[(at0).toNat]'hjx).c.l).take k)) ++ [(32 : UInt8)]) ++ (itoaS (((((T).l)[(at0).toNat]'hx1_3).k.l)[k - 1]'hx10_5))) ++ [(32 : UInt8)]).length) (c111_1), 5, 1, (((((l ++ 40 :: kidsX (textT (T).t n) (((T).l[(at0).toNat]'hjx).k.l) 0 ((((T).l[(at0).toNat]'hjx).c.l).take k)) ++ [(32 : UInt8)]) ++ (itoaS (((((T).l)[(at0).toNat]'hx1_3).k.l)[k - 1]'hx10_5))) ++ [(32 : UInt8)]).length), ((((l ++ 40 :: kidsX (textT (T).t n) (((T).l[(at0).toNat]'hjx).k.l) 0 ((((T).l[(at0).toNat]'hjx).c.l).take k)) ++ [(32 : UInt8)]) ++ (itoaS (((((T).l)[(at0).toNat]'hx1_3).k.l)[k - 1]'hx10_5))) ++ [(32 : UInt8)]).map byteV⟩]]) (rest := [[⟨.slice (bl b1_5) 1 1, 58, 3, 1, [.slice ((((T).l)[(at0).toNat]'hx1_3).k.A) ((((T).l)[(at0).toNat]'hx1_3).k.l.length) ((((T).l)[(at0).toNat]'hx1_3).k.cp), .slice ((((T).l)[(at0).toNat]'hx1_3).c.A) ((((T).l)[(at0).toNat]'hx1_3).c.l.length) ((((T).l)[(at0).toNat]'hx1_3).c.cp), .slice ((((T).l)[(at0).toNat]'hx1_3).v.A) ((((T).l)[(at0).toNat]'hx1_3).v.l.length) ((((T).l)[(at0).toNat]'hx1_3).v.cp)]⟩], [⟨.slice (bl b0_0) 1 1, 39, 2, 1, [I ((T).root), .slice ((T).A) ((T).l.length) ((T).cp)]⟩]]) hM11_1 rfl) (by first | exact .inl rfl | exact .inr rfl | assumption) (by first | omega | assumption | (simp; omega) | simp | (intros; omega)) (by exact hok1) (by omega) (by first | omega | (simp; omega)) (tab_atR htab hM11_1 htO) (TabO.cons (TabO.own htab hM11_1 htO 0 rfl) (TabO.cons (TabO.own htab hM11_1 htO 1 rfl) TabO.nil))) ?_
        rintro _ w12_3 ⟨A112_3, c112_3, rfl, hR12_3⟩
        have hM12_3 : Mem w w12_3 [some b, (Value.slice (A) ((l).length) (c)).ownBlock] [[⟨.slice (bl b) 1 1, 66, 2, 1, [.pointer (ofs (bl b) (0)), .slice (A112_3) ((((((l ++ 40 :: kidsX (textT (T).t n) (((T).l[(at0).toNat]'hjx).k.l) 0 ((((T).l[(at0).toNat]'hjx).c.l).take k)) ++ [(32 : UInt8)]) ++ (itoaS (((((T).l)[(at0).toNat]'hx1_3).k.l)[k - 1]'hx10_5))) ++ [(32 : UInt8)]) ++ textT (T).t n (((((T).l)[(at0).toNat]'hx1_3).c.l)[k]'hx7_1)).length) (c112_3)]⟩], [⟨.slice (A112_3) ((((((l ++ 40 :: kidsX (textT (T).t n) (((T).l[(at0).toNat]'hjx).k.l) 0 ((((T).l[(at0).toNat]'hjx).c.l).take k)) ++ [(32 : UInt8)]) ++ (itoaS (((((T).l)[(at0).toNat]'hx1_3).k.l)[k - 1]'hx10_5))) ++ [(32 : UInt8)]) ++ textT (T).t n (((((T).l)[(at0).toNat]'hx1_3).c.l)[k]'hx7_1)).length) (c112_3), 5, 1, ((((((l ++ 40 :: kidsX (textT (T).t n) (((T).l[(at0).toNat]'hjx).k.l) 0 ((((T).l[(at0).toNat]'hjx).c.l).take k)) ++ [(32 : UInt8)]) ++ (itoaS (((((T).l)[(at0).toNat]'hx1_3).k.l)[k - 1]'hx10_5))) ++ [(32 : UInt8)]) ++ textT (T).t n (((((T).l)[(at0).toNat]'hx1_3).c.l)[k]'hx7_1)).length), (((((l ++ 40 :: kidsX (textT (T).t n) (((T).l[(at0).toNat]'hjx).k.l) 0 ((((T).l[(at0).toNat]'hjx).c.l).take k)) ++ [(32 : UInt8)]) ++ (itoaS (((((T).l)[(at0).toNat]'hx1_3).k.l)[k - 1]'hx10_5))) ++ [(32 : UInt8)]) ++ textT (T).t n (((((T).l)[(at0).toNat]'hx1_3).c.l)[k]'hx7_1)).map byteV⟩], [⟨.slice (bl b1_5) 1 1, 58, 3, 1, [.slice ((((T).l)[(at0).toNat]'hx1_3).k.A) ((((T).l)[(at0).toNat]'hx1_3).k.l.length) ((((T).l)[(at0).toNat]'hx1_3).k.cp), .slice ((((T).l)[(at0).toNat]'hx1_3).c.A) ((((T).l)[(at0).toNat]'hx1_3).c.l.length) ((((T).l)[(at0).toNat]'hx1_3).c.cp), .slice ((((T).l)[(at0).toNat]'hx1_3).v.A) ((((T).l)[(at0).toNat]'hx1_3).v.l.length) ((((T).l)[(at0).toNat]'hx1_3).v.cp)]⟩], [⟨.slice (bl b0_0) 1 1, 39, 2, 1, [I ((T).root), .slice ((T).A) ((T).l.length) ((T).cp)]⟩]] := Mem.call (Ma := [[⟨.slice (bl b) 1 1, 66, 2, 1, [.pointer (ofs (bl b) (0)), .slice (A111_1) (((((l ++ 40 :: kidsX (textT (T).t n) (((T).l[(at0).toNat]'hjx).k.l) 0 ((((T).l[(at0).toNat]'hjx).c.l).take k)) ++ [(32 : UInt8)]) ++ (itoaS (((((T).l)[(at0).toNat]'hx1_3).k.l)[k - 1]'hx10_5))) ++ [(32 : UInt8)]).length) (c111_1)]⟩], [⟨.slice (A111_1) (((((l ++ 40 :: kidsX (textT (T).t n) (((T).l[(at0).toNat]'hjx).k.l) 0 ((((T).l[(at0).toNat]'hjx).c.l).take k)) ++ [(32 : UInt8)]) ++ (itoaS (((((T).l)[(at0).toNat]'hx1_3).k.l)[k - 1]'hx10_5))) ++ [(32 : UInt8)]).length) (c111_1), 5, 1, (((((l ++ 40 :: kidsX (textT (T).t n) (((T).l[(at0).toNat]'hjx).k.l) 0 ((((T).l[(at0).toNat]'hjx).c.l).take k)) ++ [(32 : UInt8)]) ++ (itoaS (((((T).l)[(at0).toNat]'hx1_3).k.l)[k - 1]'hx10_5))) ++ [(32 : UInt8)]).length), ((((l ++ 40 :: kidsX (textT (T).t n) (((T).l[(at0).toNat]'hjx).k.l) 0 ((((T).l[(at0).toNat]'hjx).c.l).take k)) ++ [(32 : UInt8)]) ++ (itoaS (((((T).l)[(at0).toNat]'hx1_3).k.l)[k - 1]'hx10_5))) ++ [(32 : UInt8)]).map byteV⟩]]) hM11_1 hR12_3 rfl
        have hcr12_3_1 := (hM12_3.cap 1 rfl).1
        refine O.nil ?_
        refine C.region ?_
        refine O.val (v := I ((((k + 1) : Nat) : Int))) rfl (Ru.congr (v := I ((((k : Nat) : Int) + 1))) (v' := I ((((k + 1) : Nat) : Int))) (Ru.add rfl rfl (by omega)) (I_congr (by first | omega | simp))) rfl ?_
        refine O.val (v := I ((((k + 1) : Nat) : Int))) rfl (Ru.move rfl) rfl ?_
        refine O.nil ?_
        have hq5 : (((((l ++ 40 :: kidsX (textT (T).t n) (((T).l[(at0).toNat]'hjx).k.l) 0 ((((T).l[(at0).toNat]'hjx).c.l).take k)) ++ [(32 : UInt8)]) ++ (itoaS (((((T).l)[(at0).toNat]'hx1_3).k.l)[k - 1]'hx10_5))) ++ [(32 : UInt8)]) ++ textT (T).t n (((((T).l)[(at0).toNat]'hx1_3).c.l)[k]'hx7_1) : List UInt8) = l ++ 40 :: kidsX (textT (T).t n) (((T).l[(at0).toNat]'hjx).k.l) 0 ((((T).l[(at0).toNat]'hjx).c.l).take (k + 1)) := (by rw [hkt]; first | (simp [hk0]; done) | (rw [if_neg hk0, hgd]; simp))
        have hMn5 : Mem w w12_3 [some b, (Value.slice (A) ((l).length) (c)).ownBlock] [[⟨.slice (bl b) 1 1, 66, 2, 1, [.pointer (ofs (bl b) (0)), .slice (A112_3) ((((((l ++ 40 :: kidsX (textT (T).t n) (((T).l[(at0).toNat]'hjx).k.l) 0 ((((T).l[(at0).toNat]'hjx).c.l).take k)) ++ [(32 : UInt8)]) ++ (itoaS (((((T).l)[(at0).toNat]'hx1_3).k.l)[k - 1]'hx10_5))) ++ [(32 : UInt8)]) ++ textT (T).t n (((((T).l)[(at0).toNat]'hx1_3).c.l)[k]'hx7_1)).length) (c112_3)]⟩], [⟨.slice (A112_3) ((l ++ 40 :: kidsX (textT (T).t n) (((T).l[(at0).toNat]'hjx).k.l) 0 ((((T).l[(at0).toNat]'hjx).c.l).take (k + 1))).length) (c112_3), 5, 1, ((l ++ 40 :: kidsX (textT (T).t n) (((T).l[(at0).toNat]'hjx).k.l) 0 ((((T).l[(at0).toNat]'hjx).c.l).take (k + 1))).length), (l ++ 40 :: kidsX (textT (T).t n) (((T).l[(at0).toNat]'hjx).k.l) 0 ((((T).l[(at0).toNat]'hjx).c.l).take (k + 1))).map byteV⟩], [⟨.slice (bl b1_5) 1 1, 58, 3, 1, [.slice ((((T).l)[(at0).toNat]'hx1_3).k.A) ((((T).l)[(at0).toNat]'hx1_3).k.l.length) ((((T).l)[(at0).toNat]'hx1_3).k.cp), .slice ((((T).l)[(at0).toNat]'hx1_3).c.A) ((((T).l)[(at0).toNat]'hx1_3).c.l.length) ((((T).l)[(at0).toNat]'hx1_3).c.cp), .slice ((((T).l)[(at0).toNat]'hx1_3).v.A) ((((T).l)[(at0).toNat]'hx1_3).v.l.length) ((((T).l)[(at0).toNat]'hx1_3).v.cp)]⟩], [⟨.slice (bl b0_0) 1 1, 39, 2, 1, [I ((T).root), .slice ((T).A) ((T).l.length) ((T).cp)]⟩]] := hM12_3.relen 1 (n' := (l ++ 40 :: kidsX (textT (T).t n) (((T).l[(at0).toNat]'hjx).k.l) 0 ((((T).l[(at0).toNat]'hjx).c.l).take (k + 1))).length) (xs' := (l ++ 40 :: kidsX (textT (T).t n) (((T).l[(at0).toNat]'hjx).k.l) 0 ((((T).l[(at0).toNat]'hjx).c.l).take (k + 1))).map byteV) rfl (by first | rfl | exact congrArg List.length hq5 | (have hqq := congrArg List.length hq5; first | omega | (simp at hqq ⊢; omega)) | (simp; done) | (simp; omega)) (congrArg (fun z_ => (z_).map byteV) hq5) rfl
        have hMn6 : Mem w w12_3 [some b, (Value.slice (A) ((l).length) (c)).ownBlock] [[⟨.slice (bl b) 1 1, 66, 2, 1, [.pointer (ofs (bl b) (0)), .slice (A112_3) ((l ++ 40 :: kidsX (textT (T).t n) (((T).l[(at0).toNat]'hjx).k.l) 0 ((((T).l[(at0).toNat]'hjx).c.l).take (k + 1))).length) (c112_3)]⟩], [⟨.slice (A112_3) ((l ++ 40 :: kidsX (textT (T).t n) (((T).l[(at0).toNat]'hjx).k.l) 0 ((((T).l[(at0).toNat]'hjx).c.l).take (k + 1))).length) (c112_3), 5, 1, ((l ++ 40 :: kidsX (textT (T).t n) (((T).l[(at0).toNat]'hjx).k.l) 0 ((((T).l[(at0).toNat]'hjx).c.l).take (k + 1))).length), (l ++ 40 :: kidsX (textT (T).t n) (((T).l[(at0).toNat]'hjx).k.l) 0 ((((T).l[(at0).toNat]'hjx).c.l).take (k + 1))).map byteV⟩], [⟨.slice (bl b1_5) 1 1, 58, 3, 1, [.slice ((((T).l)[(at0).toNat]'hx1_3).k.A) ((((T).l)[(at0).toNat]'hx1_3).k.l.length) ((((T).l)[(at0).toNat]'hx1_3).k.cp), .slice ((((T).l)[(at0).toNat]'hx1_3).c.A) ((((T).l)[(at0).toNat]'hx1_3).c.l.length) ((((T).l)[(at0).toNat]'hx1_3).c.cp), .slice ((((T).l)[(at0).toNat]'hx1_3).v.A) ((((T).l)[(at0).toNat]'hx1_3).v.l.length) ((((T).l)[(at0).toNat]'hx1_3).v.cp)]⟩], [⟨.slice (bl b0_0) 1 1, 39, 2, 1, [I ((T).root), .slice ((T).A) ((T).l.length) ((T).cp)]⟩]] := Mem.cast hMn5 (congrArg (fun z_ : Nat => ([[⟨.slice (bl b) 1 1, 66, 2, 1, [.pointer (ofs (bl b) (0)), .slice (A112_3) (z_) (c112_3)]⟩], [⟨.slice (A112_3) ((l ++ 40 :: kidsX (textT (T).t n) (((T).l[(at0).toNat]'hjx).k.l) 0 ((((T).l[(at0).toNat]'hjx).c.l).take (k + 1))).length) (c112_3), 5, 1, ((l ++ 40 :: kidsX (textT (T).t n) (((T).l[(at0).toNat]'hjx).k.l) 0 ((((T).l[(at0).toNat]'hjx).c.l).take (k + 1))).length), (l ++ 40 :: kidsX (textT (T).t n) (((T).l[(at0).toNat]'hjx).k.l) 0 ((((T).l[(at0).toNat]'hjx).c.l).take (k + 1))).map byteV⟩], [⟨.slice (bl b1_5) 1 1, 58, 3, 1, [.slice ((((T).l)[(at0).toNat]'hx1_3).k.A) ((((T).l)[(at0).toNat]'hx1_3).k.l.length) ((((T).l)[(at0).toNat]'hx1_3).k.cp), .slice ((((T).l)[(at0).toNat]'hx1_3).c.A) ((((T).l)[(at0).toNat]'hx1_3).c.l.length) ((((T).l)[(at0).toNat]'hx1_3).c.cp), .slice ((((T).l)[(at0).toNat]'hx1_3).v.A) ((((T).l)[(at0).toNat]'hx1_3).v.l.length) ((((T).l)[(at0).toNat]'hx1_3).v.cp)]⟩], [⟨.slice (bl b0_0) 1 1, 39, 2, 1, [I ((T).root), .slice ((T).A) ((T).l.length) ((T).cp)]⟩]] : List (List FE))) (show (((((l ++ 40 :: kidsX (textT (T).t n) (((T).l[(at0).toNat]'hjx).k.l) 0 ((((T).l[(at0).toNat]'hjx).c.l).take k)) ++ [(32 : UInt8)]) ++ (itoaS (((((T).l)[(at0).toNat]'hx1_3).k.l)[k - 1]'hx10_5))) ++ [(32 : UInt8)]) ++ textT (T).t n (((((T).l)[(at0).toNat]'hx1_3).c.l)[k]'hx7_1)).length = (l ++ 40 :: kidsX (textT (T).t n) (((T).l[(at0).toNat]'hjx).k.l) 0 ((((T).l[(at0).toNat]'hjx).c.l).take (k + 1))).length from congrArg List.length hq5))
        exact loopEnd (k + 1, A112_3, c112_3) (by (try dsimp only); omega) (Has.cons rfl (Has.cons rfl (Has.cons rfl (Has.cons rfl (Has.cons rfl (Has.cons (I_congr (by first | rfl | omega | (simp; omega) | simp)) Has.nil)))))) ⟨(by (try dsimp only); omega), (hMn6.pick [0, 1, 2, 3] (by decide) rfl)⟩
      · have hk0 : k = 0 := by omega
        refine C.skip ?_
        refine C.region ?_
        refine O.val rfl (Ru.loadN (vs := [I ((T).root), .slice ((T).A) ((T).l.length) ((T).cp)]) el39 rfl rfl rfl ((mem_blk (i := 3) (j := 0) hM_l6 rfl rfl).lds (k := 0) rfl)) rfl ?_
        refine O.val (v := I (((((T).l)[(at0).toNat]'hx1_3).c.l)[k]'hx7_1)) rfl (Ru.move rfl) rfl ?_
        refine O.val (v := .pointer (ofs (bl b) (0))) rfl (Ru.move rfl) rfl ?_
        refine O.callg [.agg #[I ((T).root), .slice ((T).A) ((T).l.length) ((T).cp)], I (((((T).l)[(at0).toNat]'hx1_3).c.l)[k]'hx7_1), .pointer (ofs (bl b) (0))] rfl en62 rfl rfl (ih_fn T (((((T).l)[(at0).toNat]'hx1_3).c.l)[k]'hx7_1) b A2 c2 (l ++ 40 :: kidsX (textT (T).t n) (((T).l[(at0).toNat]'hjx).k.l) 0 ((((T).l[(at0).toNat]'hjx).c.l).take k)) (.pointer (ofs (bl b) (0))) _ _ w_l6 (hNT.atR hM_l6 hOT) (TrO.cons (TrO.own hM_l6 hNT hOT 0 rfl) (TrO.cons (TrO.own hM_l6 hNT hOT 1 rfl) TrO.nil)) (Mem.focus (Ma := [[⟨.slice (bl b) 1 1, 66, 2, 1, [.pointer (ofs (bl b) (0)), .slice (A2) ((l ++ 40 :: kidsX (textT (T).t n) (((T).l[(at0).toNat]'hjx).k.l) 0 ((((T).l[(at0).toNat]'hjx).c.l).take k)).length) (c2)]⟩], [⟨.slice (A2) ((l ++ 40 :: kidsX (textT (T).t n) (((T).l[(at0).toNat]'hjx).k.l) 0 ((((T).l[(at0).toNat]'hjx).c.l).take k)).length) (c2), 5, 1, ((l ++ 40 :: kidsX (textT (T).t n) (((T).l[(at0).toNat]'hjx).k.l) 0 ((((T).l[(at0).toNat]'hjx).c.l).take k)).length), (l ++ 40 :: kidsX (textT (T).t n) (((T).l[(at0).toNat]'hjx).k.l) 0 ((((T).l[(at0).toNat]'hjx).c.l).take k)).map byteV⟩]]) (rest := [[⟨.slice (bl b1_5) 1 1, 58, 3, 1, [.slice ((((T).l)[(at0).toNat]'hx1_3).k.A) ((((T).l)[(at0).toNat]'hx1_3).k.l.length) ((((T).l)[(at0).toNat]'hx1_3).k.cp), .slice ((((T).l)[(at0).toNat]'hx1_3).c.A) ((((T).l)[(at0).toNat]'hx1_3).c.l.length) ((((T).l)[(at0).toNat]'hx1_3).c.cp), .slice ((((T).l)[(at0).toNat]'hx1_3).v.A) ((((T).l)[(at0).toNat]'hx1_3).v.l.length) ((((T).l)[(at0).toNat]'hx1_3).v.cp)]⟩], [⟨.slice (bl b0_0) 1 1, 39, 2, 1, [I ((T).root), .slice ((T).A) ((T).l.length) ((T).cp)]⟩]]) hM_l6 rfl) (by first | exact .inl rfl | exact .inr rfl | assumption) (by first | omega | assumption | (simp; omega) | simp | (intros; omega)) (by exact hok1) (by omega) (by first | omega | (simp; omega)) (tab_atR htab hM_l6 htO) (TabO.cons (TabO.own htab hM_l6 htO 0 rfl) (TabO.cons (TabO.own htab hM_l6 htO 1 rfl) TabO.nil))) ?_
        rintro _ w12_3 ⟨A112_3, c112_3, rfl, hR12_3⟩
        have hM12_3 : Mem w w12_3 [some b, (Value.slice (A) ((l).length) (c)).ownBlock] [[⟨.slice (bl b) 1 1, 66, 2, 1, [.pointer (ofs (bl b) (0)), .slice (A112_3) (((l ++ 40 :: kidsX (textT (T).t n) (((T).l[(at0).toNat]'hjx).k.l) 0 ((((T).l[(at0).toNat]'hjx).c.l).take k)) ++ textT (T).t n (((((T).l)[(at0).toNat]'hx1_3).c.l)[k]'hx7_1)).length) (c112_3)]⟩], [⟨.slice (A112_3) (((l ++ 40 :: kidsX (textT (T).t n) (((T).l[(at0).toNat]'hjx).k.l) 0 ((((T).l[(at0).toNat]'hjx).c.l).take k)) ++ textT (T).t n (((((T).l)[(at0).toNat]'hx1_3).c.l)[k]'hx7_1)).length) (c112_3), 5, 1, (((l ++ 40 :: kidsX (textT (T).t n) (((T).l[(at0).toNat]'hjx).k.l) 0 ((((T).l[(at0).toNat]'hjx).c.l).take k)) ++ textT (T).t n (((((T).l)[(at0).toNat]'hx1_3).c.l)[k]'hx7_1)).length), ((l ++ 40 :: kidsX (textT (T).t n) (((T).l[(at0).toNat]'hjx).k.l) 0 ((((T).l[(at0).toNat]'hjx).c.l).take k)) ++ textT (T).t n (((((T).l)[(at0).toNat]'hx1_3).c.l)[k]'hx7_1)).map byteV⟩], [⟨.slice (bl b1_5) 1 1, 58, 3, 1, [.slice ((((T).l)[(at0).toNat]'hx1_3).k.A) ((((T).l)[(at0).toNat]'hx1_3).k.l.length) ((((T).l)[(at0).toNat]'hx1_3).k.cp), .slice ((((T).l)[(at0).toNat]'hx1_3).c.A) ((((T).l)[(at0).toNat]'hx1_3).c.l.length) ((((T).l)[(at0).toNat]'hx1_3).c.cp), .slice ((((T).l)[(at0).toNat]'hx1_3).v.A) ((((T).l)[(at0).toNat]'hx1_3).v.l.length) ((((T).l)[(at0).toNat]'hx1_3).v.cp)]⟩], [⟨.slice (bl b0_0) 1 1, 39, 2, 1, [I ((T).root), .slice ((T).A) ((T).l.length) ((T).cp)]⟩]] := Mem.call (Ma := [[⟨.slice (bl b) 1 1, 66, 2, 1, [.pointer (ofs (bl b) (0)), .slice (A2) ((l ++ 40 :: kidsX (textT (T).t n) (((T).l[(at0).toNat]'hjx).k.l) 0 ((((T).l[(at0).toNat]'hjx).c.l).take k)).length) (c2)]⟩], [⟨.slice (A2) ((l ++ 40 :: kidsX (textT (T).t n) (((T).l[(at0).toNat]'hjx).k.l) 0 ((((T).l[(at0).toNat]'hjx).c.l).take k)).length) (c2), 5, 1, ((l ++ 40 :: kidsX (textT (T).t n) (((T).l[(at0).toNat]'hjx).k.l) 0 ((((T).l[(at0).toNat]'hjx).c.l).take k)).length), (l ++ 40 :: kidsX (textT (T).t n) (((T).l[(at0).toNat]'hjx).k.l) 0 ((((T).l[(at0).toNat]'hjx).c.l).take k)).map byteV⟩]]) hM_l6 hR12_3 rfl
        have hcr12_3_1 := (hM12_3.cap 1 rfl).1
        refine O.nil ?_
        refine C.region ?_
        refine O.val (v := I ((((k + 1) : Nat) : Int))) rfl (Ru.congr (v := I ((((k : Nat) : Int) + 1))) (v' := I ((((k + 1) : Nat) : Int))) (Ru.add rfl rfl (by omega)) (I_congr (by first | omega | simp))) rfl ?_
        refine O.val (v := I ((((k + 1) : Nat) : Int))) rfl (Ru.move rfl) rfl ?_
        refine O.nil ?_
        have hq7 : ((l ++ 40 :: kidsX (textT (T).t n) (((T).l[(at0).toNat]'hjx).k.l) 0 ((((T).l[(at0).toNat]'hjx).c.l).take k)) ++ textT (T).t n (((((T).l)[(at0).toNat]'hx1_3).c.l)[k]'hx7_1) : List UInt8) = l ++ 40 :: kidsX (textT (T).t n) (((T).l[(at0).toNat]'hjx).k.l) 0 ((((T).l[(at0).toNat]'hjx).c.l).take (k + 1)) := (by rw [hkt]; first | (simp [hk0]; done) | (rw [if_neg hk0, hgd]; simp))
        have hMn7 : Mem w w12_3 [some b, (Value.slice (A) ((l).length) (c)).ownBlock] [[⟨.slice (bl b) 1 1, 66, 2, 1, [.pointer (ofs (bl b) (0)), .slice (A112_3) (((l ++ 40 :: kidsX (textT (T).t n) (((T).l[(at0).toNat]'hjx).k.l) 0 ((((T).l[(at0).toNat]'hjx).c.l).take k)) ++ textT (T).t n (((((T).l)[(at0).toNat]'hx1_3).c.l)[k]'hx7_1)).length) (c112_3)]⟩], [⟨.slice (A112_3) ((l ++ 40 :: kidsX (textT (T).t n) (((T).l[(at0).toNat]'hjx).k.l) 0 ((((T).l[(at0).toNat]'hjx).c.l).take (k + 1))).length) (c112_3), 5, 1, ((l ++ 40 :: kidsX (textT (T).t n) (((T).l[(at0).toNat]'hjx).k.l) 0 ((((T).l[(at0).toNat]'hjx).c.l).take (k + 1))).length), (l ++ 40 :: kidsX (textT (T).t n) (((T).l[(at0).toNat]'hjx).k.l) 0 ((((T).l[(at0).toNat]'hjx).c.l).take (k + 1))).map byteV⟩], [⟨.slice (bl b1_5) 1 1, 58, 3, 1, [.slice ((((T).l)[(at0).toNat]'hx1_3).k.A) ((((T).l)[(at0).toNat]'hx1_3).k.l.length) ((((T).l)[(at0).toNat]'hx1_3).k.cp), .slice ((((T).l)[(at0).toNat]'hx1_3).c.A) ((((T).l)[(at0).toNat]'hx1_3).c.l.length) ((((T).l)[(at0).toNat]'hx1_3).c.cp), .slice ((((T).l)[(at0).toNat]'hx1_3).v.A) ((((T).l)[(at0).toNat]'hx1_3).v.l.length) ((((T).l)[(at0).toNat]'hx1_3).v.cp)]⟩], [⟨.slice (bl b0_0) 1 1, 39, 2, 1, [I ((T).root), .slice ((T).A) ((T).l.length) ((T).cp)]⟩]] := hM12_3.relen 1 (n' := (l ++ 40 :: kidsX (textT (T).t n) (((T).l[(at0).toNat]'hjx).k.l) 0 ((((T).l[(at0).toNat]'hjx).c.l).take (k + 1))).length) (xs' := (l ++ 40 :: kidsX (textT (T).t n) (((T).l[(at0).toNat]'hjx).k.l) 0 ((((T).l[(at0).toNat]'hjx).c.l).take (k + 1))).map byteV) rfl (by first | rfl | exact congrArg List.length hq7 | (have hqq := congrArg List.length hq7; first | omega | (simp at hqq ⊢; omega)) | (simp; done) | (simp; omega)) (congrArg (fun z_ => (z_).map byteV) hq7) rfl
        have hMn8 : Mem w w12_3 [some b, (Value.slice (A) ((l).length) (c)).ownBlock] [[⟨.slice (bl b) 1 1, 66, 2, 1, [.pointer (ofs (bl b) (0)), .slice (A112_3) ((l ++ 40 :: kidsX (textT (T).t n) (((T).l[(at0).toNat]'hjx).k.l) 0 ((((T).l[(at0).toNat]'hjx).c.l).take (k + 1))).length) (c112_3)]⟩], [⟨.slice (A112_3) ((l ++ 40 :: kidsX (textT (T).t n) (((T).l[(at0).toNat]'hjx).k.l) 0 ((((T).l[(at0).toNat]'hjx).c.l).take (k + 1))).length) (c112_3), 5, 1, ((l ++ 40 :: kidsX (textT (T).t n) (((T).l[(at0).toNat]'hjx).k.l) 0 ((((T).l[(at0).toNat]'hjx).c.l).take (k + 1))).length), (l ++ 40 :: kidsX (textT (T).t n) (((T).l[(at0).toNat]'hjx).k.l) 0 ((((T).l[(at0).toNat]'hjx).c.l).take (k + 1))).map byteV⟩], [⟨.slice (bl b1_5) 1 1, 58, 3, 1, [.slice ((((T).l)[(at0).toNat]'hx1_3).k.A) ((((T).l)[(at0).toNat]'hx1_3).k.l.length) ((((T).l)[(at0).toNat]'hx1_3).k.cp), .slice ((((T).l)[(at0).toNat]'hx1_3).c.A) ((((T).l)[(at0).toNat]'hx1_3).c.l.length) ((((T).l)[(at0).toNat]'hx1_3).c.cp), .slice ((((T).l)[(at0).toNat]'hx1_3).v.A) ((((T).l)[(at0).toNat]'hx1_3).v.l.length) ((((T).l)[(at0).toNat]'hx1_3).v.cp)]⟩], [⟨.slice (bl b0_0) 1 1, 39, 2, 1, [I ((T).root), .slice ((T).A) ((T).l.length) ((T).cp)]⟩]] := Mem.cast hMn7 (congrArg (fun z_ : Nat => ([[⟨.slice (bl b) 1 1, 66, 2, 1, [.pointer (ofs (bl b) (0)), .slice (A112_3) (z_) (c112_3)]⟩], [⟨.slice (A112_3) ((l ++ 40 :: kidsX (textT (T).t n) (((T).l[(at0).toNat]'hjx).k.l) 0 ((((T).l[(at0).toNat]'hjx).c.l).take (k + 1))).length) (c112_3), 5, 1, ((l ++ 40 :: kidsX (textT (T).t n) (((T).l[(at0).toNat]'hjx).k.l) 0 ((((T).l[(at0).toNat]'hjx).c.l).take (k + 1))).length), (l ++ 40 :: kidsX (textT (T).t n) (((T).l[(at0).toNat]'hjx).k.l) 0 ((((T).l[(at0).toNat]'hjx).c.l).take (k + 1))).map byteV⟩], [⟨.slice (bl b1_5) 1 1, 58, 3, 1, [.slice ((((T).l)[(at0).toNat]'hx1_3).k.A) ((((T).l)[(at0).toNat]'hx1_3).k.l.length) ((((T).l)[(at0).toNat]'hx1_3).k.cp), .slice ((((T).l)[(at0).toNat]'hx1_3).c.A) ((((T).l)[(at0).toNat]'hx1_3).c.l.length) ((((T).l)[(at0).toNat]'hx1_3).c.cp), .slice ((((T).l)[(at0).toNat]'hx1_3).v.A) ((((T).l)[(at0).toNat]'hx1_3).v.l.length) ((((T).l)[(at0).toNat]'hx1_3).v.cp)]⟩], [⟨.slice (bl b0_0) 1 1, 39, 2, 1, [I ((T).root), .slice ((T).A) ((T).l.length) ((T).cp)]⟩]] : List (List FE))) (show ((l ++ 40 :: kidsX (textT (T).t n) (((T).l[(at0).toNat]'hjx).k.l) 0 ((((T).l[(at0).toNat]'hjx).c.l).take k)) ++ textT (T).t n (((((T).l)[(at0).toNat]'hx1_3).c.l)[k]'hx7_1)).length = (l ++ 40 :: kidsX (textT (T).t n) (((T).l[(at0).toNat]'hjx).k.l) 0 ((((T).l[(at0).toNat]'hjx).c.l).take (k + 1))).length from congrArg List.length hq7))
        exact loopEnd (k + 1, A112_3, c112_3) (by (try dsimp only); omega) (Has.cons rfl (Has.cons rfl (Has.cons rfl (Has.cons rfl (Has.cons rfl (Has.cons (I_congr (by first | rfl | omega | (simp; omega) | simp)) Has.nil)))))) ⟨(by (try dsimp only); omega), (hMn8.pick [0, 1, 2, 3] (by decide) rfl)⟩
    · refine C.exit ?_
      refine C.region ?_
      refine O.val (v := .pointer (ofs (bl b) (0))) rfl (Ru.move rfl) rfl ?_
      have hk5 := hkp 5 k (by omega)
      refine O.callg [.pointer (ofs (bl b) (0)), .int .u8 (41)] rfl en45 rfl rfl (WriteByte_fn b A2 c2 (l ++ 40 :: kidsX (textT (T).t n) (((T).l[(at0).toNat]'hjx).k.l) 0 ((((T).l[(at0).toNat]'hjx).c.l).take k)) (.pointer (ofs (bl b) (0))) (41 : UInt8) w_l6 (Mem.focus (Ma := [[⟨.slice (bl b) 1 1, 66, 2, 1, [.pointer (ofs (bl b) (0)), .slice (A2) ((l ++ 40 :: kidsX (textT (T).t n) (((T).l[(at0).toNat]'hjx).k.l) 0 ((((T).l[(at0).toNat]'hjx).c.l).take k)).length) (c2)]⟩], [⟨.slice (A2) ((l ++ 40 :: kidsX (textT (T).t n) (((T).l[(at0).toNat]'hjx).k.l) 0 ((((T).l[(at0).toNat]'hjx).c.l).take k)).length) (c2), 5, 1, ((l ++ 40 :: kidsX (textT (T).t n) (((T).l[(at0).toNat]'hjx).k.l) 0 ((((T).l[(at0).toNat]'hjx).c.l).take k)).length), (l ++ 40 :: kidsX (textT (T).t n) (((T).l[(at0).toNat]'hjx).k.l) 0 ((((T).l[(at0).toNat]'hjx).c.l).take k)).map byteV⟩]]) (rest := [[⟨.slice (bl b1_5) 1 1, 58, 3, 1, [.slice ((((T).l)[(at0).toNat]'hx1_3).k.A) ((((T).l)[(at0).toNat]'hx1_3).k.l.length) ((((T).l)[(at0).toNat]'hx1_3).k.cp), .slice ((((T).l)[(at0).toNat]'hx1_3).c.A) ((((T).l)[(at0).toNat]'hx1_3).c.l.length) ((((T).l)[(at0).toNat]'hx1_3).c.cp), .slice ((((T).l)[(at0).toNat]'hx1_3).v.A) ((((T).l)[(at0).toNat]'hx1_3).v.l.length) ((((T).l)[(at0).toNat]'hx1_3).v.cp)]⟩], [⟨.slice (bl b0_0) 1 1, 39, 2, 1, [I ((T).root), .slice ((T).A) ((T).l.length) ((T).cp)]⟩]]) hM_l6 rfl) (by first | exact .inl rfl | exact .inr rfl | assumption) (by first | omega | (simp; omega))) ?_
      rintro _ w14_1 ⟨A114_1, c114_1, rfl, hR14_1⟩
      have hM14_1 : Mem w w14_1 [some b, (Value.slice (A) ((l).length) (c)).ownBlock] [[⟨.slice (bl b) 1 1, 66, 2, 1, [.pointer (ofs (bl b) (0)), .slice (A114_1) (((l ++ 40 :: kidsX (textT (T).t n) (((T).l[(at0).toNat]'hjx).k.l) 0 ((((T).l[(at0).toNat]'hjx).c.l).take k)) ++ [(41 : UInt8)]).length) (c114_1)]⟩], [⟨.slice (A114_1) (((l ++ 40 :: kidsX (textT (T).t n) (((T).l[(at0).toNat]'hjx).k.l) 0 ((((T).l[(at0).toNat]'hjx).c.l).take k)) ++ [(41 : UInt8)]).length) (c114_1), 5, 1, (((l ++ 40 :: kidsX (textT (T).t n) (((T).l[(at0).toNat]'hjx).k.l) 0 ((((T).l[(at0).toNat]'hjx).c.l).take k)) ++ [(41 : UInt8)]).length), ((l ++ 40 :: kidsX (textT (T).t n) (((T).l[(at0).toNat]'hjx).k.l) 0 ((((T).l[(at0).toNat]'hjx).c.l).take k)) ++ [(41 : UInt8)]).map byteV⟩], [⟨.slice (bl b1_5) 1 1, 58, 3, 1, [.slice ((((T).l)[(at0).toNat]'hx1_3).k.A) ((((T).l)[(at0).toNat]'hx1_3).k.l.length) ((((T).l)[(at0).toNat]'hx1_3).k.cp), .slice ((((T).l)[(at0).toNat]'hx1_3).c.A) ((((T).l)[(at0).toNat]'hx1_3).c.l.length) ((((T).l)[(at0).toNat]'hx1_3).c.cp), .slice ((((T).l)[(at0).toNat]'hx1_3).v.A) ((((T).l)[(at0).toNat]'hx1_3).v.l.length) ((((T).l)[(at0).toNat]'hx1_3).v.cp)]⟩], [⟨.slice (bl b0_0) 1 1, 39, 2, 1, [I ((T).root), .slice ((T).A) ((T).l.length) ((T).cp)]⟩]] := Mem.call (Ma := [[⟨.slice (bl b) 1 1, 66, 2, 1, [.pointer (ofs (bl b) (0)), .slice (A2) ((l ++ 40 :: kidsX (textT (T).t n) (((T).l[(at0).toNat]'hjx).k.l) 0 ((((T).l[(at0).toNat]'hjx).c.l).take k)).length) (c2)]⟩], [⟨.slice (A2) ((l ++ 40 :: kidsX (textT (T).t n) (((T).l[(at0).toNat]'hjx).k.l) 0 ((((T).l[(at0).toNat]'hjx).c.l).take k)).length) (c2), 5, 1, ((l ++ 40 :: kidsX (textT (T).t n) (((T).l[(at0).toNat]'hjx).k.l) 0 ((((T).l[(at0).toNat]'hjx).c.l).take k)).length), (l ++ 40 :: kidsX (textT (T).t n) (((T).l[(at0).toNat]'hjx).k.l) 0 ((((T).l[(at0).toNat]'hjx).c.l).take k)).map byteV⟩]]) hM_l6 hR14_1 rfl
      have hcr14_1_1 := (hM14_1.cap 1 rfl).1
      refine O.nil ?_
      refine P0 ?_
      have hq9 : ((l ++ 40 :: kidsX (textT (T).t n) (((T).l[(at0).toNat]'hjx).k.l) 0 ((((T).l[(at0).toNat]'hjx).c.l).take k)) ++ [(41 : UInt8)] : List UInt8) = l ++ textT (T).t (n + 1) at0 := (by rw [hte, List.take_of_length_le (by omega)]; simp)
      have hMn9 : Mem w w14_1 [some b, (Value.slice (A) ((l).length) (c)).ownBlock] [[⟨.slice (bl b) 1 1, 66, 2, 1, [.pointer (ofs (bl b) (0)), .slice (A114_1) (((l ++ 40 :: kidsX (textT (T).t n) (((T).l[(at0).toNat]'hjx).k.l) 0 ((((T).l[(at0).toNat]'hjx).c.l).take k)) ++ [(41 : UInt8)]).length) (c114_1)]⟩], [⟨.slice (A114_1) ((l ++ textT (T).t (n + 1) at0).length) (c114_1), 5, 1, ((l ++ textT (T).t (n + 1) at0).length), (l ++ textT (T).t (n + 1) at0).map byteV⟩], [⟨.slice (bl b1_5) 1 1, 58, 3, 1, [.slice ((((T).l)[(at0).toNat]'hx1_3).k.A) ((((T).l)[(at0).toNat]'hx1_3).k.l.length) ((((T).l)[(at0).toNat]'hx1_3).k.cp), .slice ((((T).l)[(at0).toNat]'hx1_3).c.A) ((((T).l)[(at0).toNat]'hx1_3).c.l.length) ((((T).l)[(at0).toNat]'hx1_3).c.cp), .slice ((((T).l)[(at0).toNat]'hx1_3).v.A) ((((T).l)[(at0).toNat]'hx1_3).v.l.length) ((((T).l)[(at0).toNat]'hx1_3).v.cp)]⟩], [⟨.slice (bl b0_0) 1 1, 39, 2, 1, [I ((T).root), .slice ((T).A) ((T).l.length) ((T).cp)]⟩]] := hM14_1.relen 1 (n' := (l ++ textT (T).t (n + 1) at0).length) (xs' := (l ++ textT (T).t (n + 1) at0).map byteV) rfl (by first | rfl | exact congrArg List.length hq9 | (have hqq := congrArg List.length hq9; first | omega | (simp at hqq ⊢; omega)) | (simp; done) | (simp; omega)) (congrArg (fun z_ => (z_).map byteV) hq9) rfl
      have hMn10 : Mem w w14_1 [some b, (Value.slice (A) ((l).length) (c)).ownBlock] [[⟨.slice (bl b) 1 1, 66, 2, 1, [.pointer (ofs (bl b) (0)), .slice (A114_1) ((l ++ textT (T).t (n + 1) at0).length) (c114_1)]⟩], [⟨.slice (A114_1) ((l ++ textT (T).t (n + 1) at0).length) (c114_1), 5, 1, ((l ++ textT (T).t (n + 1) at0).length), (l ++ textT (T).t (n + 1) at0).map byteV⟩], [⟨.slice (bl b1_5) 1 1, 58, 3, 1, [.slice ((((T).l)[(at0).toNat]'hx1_3).k.A) ((((T).l)[(at0).toNat]'hx1_3).k.l.length) ((((T).l)[(at0).toNat]'hx1_3).k.cp), .slice ((((T).l)[(at0).toNat]'hx1_3).c.A) ((((T).l)[(at0).toNat]'hx1_3).c.l.length) ((((T).l)[(at0).toNat]'hx1_3).c.cp), .slice ((((T).l)[(at0).toNat]'hx1_3).v.A) ((((T).l)[(at0).toNat]'hx1_3).v.l.length) ((((T).l)[(at0).toNat]'hx1_3).v.cp)]⟩], [⟨.slice (bl b0_0) 1 1, 39, 2, 1, [I ((T).root), .slice ((T).A) ((T).l.length) ((T).cp)]⟩]] := Mem.cast hMn9 (congrArg (fun z_ : Nat => ([[⟨.slice (bl b) 1 1, 66, 2, 1, [.pointer (ofs (bl b) (0)), .slice (A114_1) (z_) (c114_1)]⟩], [⟨.slice (A114_1) ((l ++ textT (T).t (n + 1) at0).length) (c114_1), 5, 1, ((l ++ textT (T).t (n + 1) at0).length), (l ++ textT (T).t (n + 1) at0).map byteV⟩], [⟨.slice (bl b1_5) 1 1, 58, 3, 1, [.slice ((((T).l)[(at0).toNat]'hx1_3).k.A) ((((T).l)[(at0).toNat]'hx1_3).k.l.length) ((((T).l)[(at0).toNat]'hx1_3).k.cp), .slice ((((T).l)[(at0).toNat]'hx1_3).c.A) ((((T).l)[(at0).toNat]'hx1_3).c.l.length) ((((T).l)[(at0).toNat]'hx1_3).c.cp), .slice ((((T).l)[(at0).toNat]'hx1_3).v.A) ((((T).l)[(at0).toNat]'hx1_3).v.l.length) ((((T).l)[(at0).toNat]'hx1_3).v.cp)]⟩], [⟨.slice (bl b0_0) 1 1, 39, 2, 1, [I ((T).root), .slice ((T).A) ((T).l.length) ((T).cp)]⟩]] : List (List FE))) (show ((l ++ 40 :: kidsX (textT (T).t n) (((T).l[(at0).toNat]'hjx).k.l) 0 ((((T).l[(at0).toNat]'hjx).c.l).take k)) ++ [(41 : UInt8)]).length = (l ++ textT (T).t (n + 1) at0).length from congrArg List.length hq9))
      exact ⟨A114_1, c114_1, rfl, (hMn10.pick [0, 1] (by decide) rfl)⟩

theorem textBelow_fn : ∀ (n : Nat), ∀ (T : TreeL) (at0 : Int) (b : Nat) (A : Option Addr) (c : Nat) (l : List UInt8) (p : Value) (lo : Int) (hi : Int) (w : World) (hNT : TrN w T) (hOT : TrO T [some b, (Value.slice (A) ((l).length) (c)).ownBlock]) (hM : Mem w w [some b, (Value.slice (A) ((l).length) (c)).ownBlock] [[⟨.slice (bl b) 1 1, 66, 2, 1, [(p), .slice (A) ((l).length) (c)]⟩], [⟨.slice (A) ((l).length) (c), 5, 1, ((l).length), (l).map byteV⟩]]) (hp : p = .pointer none ∨ p = .pointer (ofs (bl b) 0)) (hs : SzT T) (hok : okB (T).t n at0 lo hi = true) (h3 : n ≤ 3) (hl : l.length + 200 * 8 ^ n ≤ 1000000) (htab : TAB w) (htO : TabO Tryd.prog tabN [some b, (Value.slice (A) ((l).length) (c)).ownBlock]), Does Tryd.prog 62 [.agg #[I ((T).root), .slice ((T).A) ((T).l.length) ((T).cp)], I (at0), .pointer (ofs (bl b) (0))] w (fun v w1 => ∃ (A1 : Option Addr) (c1 : Nat), v = (.tuple #[]) ∧ Mem w w1 [some b, (Value.slice (A) ((l).length) (c)).ownBlock] [[⟨.slice (bl b) 1 1, 66, 2, 1, [.pointer (ofs (bl b) (0)), .slice (A1) ((l ++ textT (T).t n at0).length) (c1)]⟩], [⟨.slice (A1) ((l ++ textT (T).t n at0).length) (c1), 5, 1, ((l ++ textT (T).t n at0).length), (l ++ textT (T).t n at0).map byteV⟩]]) := by
  intro n
  induction n with
  | zero => exact textBelow0_fn
  | succ n ih => exact textBelowS_fn n ih
end Go.Proofs.YtfdlmimgooeioaaDoor
