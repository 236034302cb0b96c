/- Own layer, part 5: plain theorems on the walk of this program's functions and on what they compute; no conditions. -/
import Derived.Test.YtemejgglbhjodaaDoorP3
set_option linter.unusedVariables false
set_option linter.unusedSimpArgs false
section
namespace Go.Proofs.YtemejgglbhjodaaDoor
open Go.Px
theorem rowOf_fn (p : PgL) (w : World) (hNp : PgN w p) (hk : (p).k.l.length ≤ 1048576) (hv : (p).v.l.length = (p).k.l.length) :
    Does Tryd.prog 47 [.agg #[.slice ((p).k.A) ((p).k.l.length) ((p).k.cp), .slice ((p).c.A) ((p).c.l.length) ((p).c.cp), .slice ((p).v.A) ((p).v.l.length) ((p).v.cp)]] w (fun v w1 => ∃ (A1 : Option Addr) (c1 : Nat), v = .slice (A1) ((prsP (p).t).length) (c1) ∧ Mem w w1 [] [[⟨.slice (A1) ((prsP (p).t).length) (c1), 57, 2, ((prsP (p).t).length), (prsP (p).t).flatMap encP⟩]]) := by
  have hM : Mem w w [] [] := Mem.refl
  refine Does.n1 Tryd.func47 rfl Tryd.results47 Tryd.ntmps47 rfl ?_
  refine Bx 2 [] fun w0_0 b0_0 hb0_0 hM0_0 => ?_
  refine Lt 4 [] (([]).flatMap encP) (fun w1_0 b1_0 hb1_0 hM1_0 => ?_)
  have hq1 : ([] : List PairT) = (prsP (p).t).take 0 := (by first | rfl | simp | (simp; omega))
  have hMn1 := hM1_0.reF 0 hq1 (f := encP)
  refine lp3 8 [] (fun (k : Nat) (A2 : Option Addr) (c2 : Nat) => ([(3, Vl (A2) (((prsP (p).t).take k).length) (c2)), (4, Vi (((k : Nat) : Int)))] : List (Nat × SV))) (fun (k : Nat) (A2 : Option Addr) (c2 : Nat) => (k ≤ (p).k.l.length)) (fun (k : Nat) (A2 : Option Addr) (c2 : Nat) => [[⟨.slice (A2) (((prsP (p).t).take k).length) (c2), 57, 2, (((prsP (p).t).take k).length), ((prsP (p).t).take k).flatMap encP⟩]]) (fun (k : Nat) (A2 : Option Addr) (c2 : Nat) => (p).k.l.length - k) [1] [0] [1] 0 (bl b1_0) 0 (fun k A2 c2 σ w_l3 hI hM_l3 => ?_) (h0 := (Nat.zero_le _))
  have hi0_l3 := hI
  have hcl0_l3 := (hM_l3.cap 0 rfl).1
  refine cd 9 [1] (fun c10 => ?_) (fun c10 => ?_)
  · refine any 3 [] 15 [1] fun w5a hM5a => ?_
    have hx5_4 : k < ((p).k.l).length := (by first | omega | (simp; omega))
    refine av [0, 1, 2, 3] [0] 4 (a := by exact fun _ hw2 => kixM hx5_4 (hNp.at hM5a).1) (b := ?_)
    have hx5_9 : k < ((p).v.l).length := (by first | omega | (simp; omega))
    refine av [6, 7, 8] [0] 9 (a := by exact fun _ hw2 => kixM hx5_9 (hNp.at hM5a).2.2) (b := ?_)
    refine aT [] [] 5 10 ?_ ?_
    · refine ov 0 [] (a := kldM hx5_4 (hNp.at hM5a).1) (b := ?_)
      refine os 0 [] [1] ?_
      refine aO [] [] 10 ?_
      refine ov 0 [] (a := kldM hx5_9 (hNp.at hM5a).2.2) (b := ?_)
      refine os 0 [] [1] ?_
      refine aO [11] [] 12 ?_
      refine Lt 0 [] (([(⟨((p).k.l)[k]'hx5_4, ((p).v.l)[k]'hx5_9⟩ : PairT)]).flatMap encP) (fun w5_12 b5_12 hb5_12 hM5_12 => ?_)
      refine os 0 [] [2] ?_
      refine aO [] [] 13 ?_
      refine aF 0 [] 1 (hM5_12.rd 0 rfl) (fun w5_13 A5_13 c5_13 hc5_13 hM5_13 => ?_) (hn := by first | omega | (simp; omega)) (hb := by first | omega | (simp; omega))
      refine os 0 [] [2] ?_
      refine an [14] [] ?_
      refine ov 2 [] (a := kaddN (k + 1)) (b := ?_)
      have hq2 : ((prsP (p).t).take k ++ [(⟨((p).k.l)[k]'hx5_4, ((p).v.l)[k]'hx5_9⟩ : PairT)] : List PairT) = (prsP (p).t).take (k + 1) := (prs_snoc hx5_4 hx5_9)
      have hMn2 := hM5_13.reF 1 hq2
      exact le3 2 [] (k + 1) A5_13 c5_13 [1, 2] (h := by exact (by (try dsimp only); omega))
    refine ov 0 [] (a := kldM hx5_9 (hNp.at hM5a).2.2) (b := ?_)
    refine os 0 [] [1] ?_
    refine aO [] [] 5 ?_
    refine ov 0 [] (a := kldM hx5_4 (hNp.at hM5a).1) (b := ?_)
    refine os 0 [] [1] ?_
    refine aO [11] [] 12 ?_
    refine Lt 0 [] (([(⟨((p).k.l)[k]'hx5_4, ((p).v.l)[k]'hx5_9⟩ : PairT)]).flatMap encP) (fun w5_12 b5_12 hb5_12 hM5_12 => ?_)
    refine os 0 [] [2] ?_
    refine aO [] [] 13 ?_
    refine aF 0 [] 1 (hM5_12.rd 0 rfl) (fun w5_13 A5_13 c5_13 hc5_13 hM5_13 => ?_) (hn := by first | omega | (simp; omega)) (hb := by first | omega | (simp; omega))
    refine os 0 [] [2] ?_
    refine an [14] [] ?_
    refine ov 2 [] (a := kaddN (k + 1)) (b := ?_)
    have hq3 : ((prsP (p).t).take k ++ [(⟨((p).k.l)[k]'hx5_4, ((p).v.l)[k]'hx5_9⟩ : PairT)] : List PairT) = (prsP (p).t).take (k + 1) := (prs_snoc hx5_4 hx5_9)
    have hMn3 := hM5_13.reF 1 hq3
    exact le3 2 [] (k + 1) A5_13 c5_13 [1, 2] (h := by exact (by (try dsimp only); omega))
  refine E1 7 [] (.slice (A2) (((prsP (p).t).take k).length) (c2)) ?_
  have hq4 : ((prsP (p).t).take k : List PairT) = prsP (p).t := (prs_take (by omega))
  have hMn4 := hM_l3.reF 0 hq4
  exact ⟨A2, c2, (sl_congr (by rw [prs_take (by omega)])), (hMn4.pk [0])⟩
theorem pairsOfLeaf_fn (p : PgL) (w : World) (hNp : PgN w p) (hk : (p).k.l.length ≤ 1048576) (hv : (p).v.l.length = (p).k.l.length) :
    Does Tryd.prog 26 [.agg #[.slice ((p).k.A) ((p).k.l.length) ((p).k.cp), .slice ((p).c.A) ((p).c.l.length) ((p).c.cp), .slice ((p).v.A) ((p).v.l.length) ((p).v.cp)]] w (fun v w1 => ∃ (A1 : Option Addr) (c1 : Nat), v = .slice (A1) ((prsP (p).t).length) (c1) ∧ Mem w w1 [] [[⟨.slice (A1) ((prsP (p).t).length) (c1), 57, 2, ((prsP (p).t).length), (prsP (p).t).flatMap encP⟩]]) := by
  have hM : Mem w w [] [] := Mem.refl
  refine Does.n1 Tryd.func26 rfl Tryd.results26 Tryd.ntmps26 rfl ?_
  refine Bx 2 [] fun w0_0 b0_0 hb0_0 hM0_0 => ?_
  refine go 7 [0] ?_
  refine O.mmake (k := (p).k.l.length) (sz := 2) (xs := (List.replicate ((p).k.l.length) (⟨0, 0⟩ : PairT)).flatMap encP) hM0_0 rfl Tryd.underlying31 el57 rfl rfl rfl rfl (by omega) (by omega) (zer_flat rfl) (fun w1_3 b1_3 hb1_3 hM1_3 => ?_)
  have hq1 : (List.replicate ((p).k.l.length) (⟨0, 0⟩ : PairT) : List PairT) = (prsP (p).t).take 0 ++ List.replicate ((p).k.l.length - 0) (⟨0, 0⟩ : PairT) := (by simp)
  have hMn1 : Mem w w1_3 [] [[⟨.slice (bl b1_3) ((p).k.l.length) ((p).k.l.length), 57, 2, ((p).k.l.length), ((prsP (p).t).take 0 ++ List.replicate ((p).k.l.length - 0) (⟨0, 0⟩ : PairT)).flatMap encP⟩], [⟨.slice (bl b0_0) 1 1, 39, 3, 1, [.slice ((p).k.A) ((p).k.l.length) ((p).k.cp), .slice ((p).c.A) ((p).c.l.length) ((p).c.cp), .slice ((p).v.A) ((p).v.l.length) ((p).v.cp)]⟩]] := hM1_3.relen 0 (n' := (p).k.l.length) (xs' := ((prsP (p).t).take 0 ++ List.replicate ((p).k.l.length - 0) (⟨0, 0⟩ : PairT)).flatMap encP) rfl (by first | rfl | exact congrArg List.length hq1 | (have hqq := congrArg List.length hq1; first | omega | (simp at hqq ⊢; omega)) | (simp; done) | (simp; omega)) (congrArg (fun z_ => (z_).flatMap encP) hq1) rfl
  refine lp1 11 [1] (fun (k : Nat) => ([(3, Vl (bl b1_3) ((p).k.l.length) ((p).k.l.length)), (13, Vi (((k : Nat) : Int)))] : List (Nat × SV))) (fun (k : Nat) => (k ≤ (p).k.l.length)) (fun (k : Nat) => [[⟨.slice (bl b1_3) ((p).k.l.length) ((p).k.l.length), 57, 2, ((p).k.l.length), ((prsP (p).t).take k ++ List.replicate ((p).k.l.length - k) (⟨0, 0⟩ : PairT)).flatMap encP⟩]]) (fun (k : Nat) => (p).k.l.length - k) [1, 11, 12] [0] [1] 0 (fun k σ w_l3 hI hM_l3 => ?_) (h0 := (Nat.zero_le _))
  have hi0_l3 := hI
  have hcl0_l3 := (hM_l3.cap 0 rfl).1
  refine cd 5 [] (fun c14 => ?_) (fun c14 => ?_)
  · have hx4_1 : k < ((p).k.l).length := (by first | omega | (simp; omega))
    refine ov 6 [] (a := kixM hx4_1 (hNp.at hM_l3).1) (b := ?_)
    refine ov 0 [] (a := kldM hx4_1 (hNp.at hM_l3).1) (b := ?_)
    have hx5_6 : k < ((p).v.l).length := (by first | omega | (simp; omega))
    refine ov 10 [1] (a := kixM hx5_6 (hNp.at hM_l3).2.2) (b := ?_)
    refine ov 0 [] (a := kldM hx5_6 (hNp.at hM_l3).2.2) (b := ?_)
    have hx5_9 : k < ((prsP (p).t).take k ++ List.replicate ((p).k.l.length - k) (⟨0, 0⟩ : PairT)).length := (by rw [List.length_append, List.length_take, List.length_replicate, prs_len]; show k < min k (p).k.l.length + ((p).k.l.length - k); omega)
    refine ov 1 [] (a := kixF hx5_9 (hM_l3.rd 0 rfl) (h0 := by omega)) (b := ?_)
    refine sF 0 [] 0 (⟨((p).k.l)[k]'hx4_1, ((p).v.l)[k]'hx5_6⟩ : PairT) hx5_9 fun w5_10 hM5_10 => ?_
    refine ov 2 [] (a := kaddN (k + 1)) (b := ?_)
    have hq2 : (((prsP (p).t).take k ++ List.replicate ((p).k.l.length - k) (⟨0, 0⟩ : PairT)).set (k) (⟨((p).k.l)[k]'hx4_1, ((p).v.l)[k]'hx5_6⟩ : PairT) : List PairT) = (prsP (p).t).take (k + 1) ++ List.replicate ((p).k.l.length - (k + 1)) (⟨0, 0⟩ : PairT) := (prs_set hx4_1 hx5_6)
    have hMn2 : Mem w w5_10 [] [[⟨.slice (bl b1_3) ((p).k.l.length) ((p).k.l.length), 57, 2, ((p).k.l.length), ((prsP (p).t).take (k + 1) ++ List.replicate ((p).k.l.length - (k + 1)) (⟨0, 0⟩ : PairT)).flatMap encP⟩], [⟨.slice (bl b0_0) 1 1, 39, 3, 1, [.slice ((p).k.A) ((p).k.l.length) ((p).k.cp), .slice ((p).c.A) ((p).c.l.length) ((p).c.cp), .slice ((p).v.A) ((p).v.l.length) ((p).v.cp)]⟩]] := hM5_10.relen 0 (n' := (p).k.l.length) (xs' := ((prsP (p).t).take (k + 1) ++ List.replicate ((p).k.l.length - (k + 1)) (⟨0, 0⟩ : PairT)).flatMap encP) rfl (by first | rfl | exact congrArg List.length hq2 | (have hqq := congrArg List.length hq2; first | omega | (simp at hqq ⊢; omega)) | (simp; done) | (simp; omega)) (congrArg (fun z_ => (z_).flatMap encP) hq2) rfl
    exact le1 2 [] (k + 1) [0, 1] (h := by exact (by (try dsimp only); omega))
  refine E1 7 [] (.slice (bl b1_3) ((p).k.l.length) ((p).k.l.length)) ?_
  have hke : k = (p).k.l.length := by omega
  have hq3 : ((prsP (p).t).take k ++ List.replicate ((p).k.l.length - k) (⟨0, 0⟩ : PairT) : List PairT) = prsP (p).t := (by rw [prs_take (by omega), show (p).k.l.length - k = 0 by omega]; simp)
  have hMn3 := hM_l3.reF 0 hq3
  exact ⟨bl b1_3, (p).k.l.length, (sl_congr (by rw [prs_len]; rfl)), (hMn3.pk [0])⟩
theorem textBelow0_fn : ∀ (T : TreeL) (at0 : Int) (b : Nat) (A : Option Addr) (c : Nat) (l : List UInt8) (p : Value) (lo : Int) (hi : Int) (w : World) (hNT : TrN w T) (hOT : TrO T [some b, (Value.slice (A) ((l).length) (c)).ownBlock]) (hM : Mem w w [some b, (Value.slice (A) ((l).length) (c)).ownBlock] [[⟨.slice (bl b) 1 1, 45, 2, 1, [(p), .slice (A) ((l).length) (c)]⟩], [⟨.slice (A) ((l).length) (c), 5, 1, ((l).length), (l).map byteV⟩]]) (hp : p = .pointer none ∨ p = .pointer (ofs (bl b) 0)) (hs : SzT T) (hok : okB (T).t 0 at0 lo hi = true) (h3 : 0 ≤ 3) (hl : l.length + 200 * 8 ^ 0 ≤ 1000000) (htab : TAB w) (htO : TabO Tryd.prog tabN [some b, (Value.slice (A) ((l).length) (c)).ownBlock]), Does Tryd.prog 20 [.agg #[I ((T).root), .slice ((T).A) ((T).l.length) ((T).cp)], I (at0), .pointer (ofs (bl b) (0))] w (fun v w1 => ∃ (A1 : Option Addr) (c1 : Nat), v = (.tuple #[]) ∧ Mem w w1 [some b, (Value.slice (A) ((l).length) (c)).ownBlock] [[⟨.slice (bl b) 1 1, 45, 2, 1, [.pointer (ofs (bl b) (0)), .slice (A1) ((l ++ textT (T).t 0 at0).length) (c1)]⟩], [⟨.slice (A1) ((l ++ textT (T).t 0 at0).length) (c1), 5, 1, ((l ++ textT (T).t 0 at0).length), (l ++ textT (T).t 0 at0).map byteV⟩]]) := by
  intro T at0 b A c l p lo hi w hNT hOT hM hp hs hok h3 hl htab htO; simp [okB] at hok
set_option maxHeartbeats 4000000 in
theorem textBelowS_fn (n : Nat) (ih_fn : ∀ (T : TreeL) (at0 : Int) (b : Nat) (A : Option Addr) (c : Nat) (l : List UInt8) (p : Value) (lo : Int) (hi : Int) (w : World) (hNT : TrN w T) (hOT : TrO T [some b, (Value.slice (A) ((l).length) (c)).ownBlock]) (hM : Mem w w [some b, (Value.slice (A) ((l).length) (c)).ownBlock] [[⟨.slice (bl b) 1 1, 45, 2, 1, [(p), .slice (A) ((l).length) (c)]⟩], [⟨.slice (A) ((l).length) (c), 5, 1, ((l).length), (l).map byteV⟩]]) (hp : p = .pointer none ∨ p = .pointer (ofs (bl b) 0)) (hs : SzT T) (hok : okB (T).t n at0 lo hi = true) (h3 : n ≤ 3) (hl : l.length + 200 * 8 ^ n ≤ 1000000) (htab : TAB w) (htO : TabO Tryd.prog tabN [some b, (Value.slice (A) ((l).length) (c)).ownBlock]), Does Tryd.prog 20 [.agg #[I ((T).root), .slice ((T).A) ((T).l.length) ((T).cp)], I (at0), .pointer (ofs (bl b) (0))] w (fun v w1 => ∃ (A1 : Option Addr) (c1 : Nat), v = (.tuple #[]) ∧ Mem w w1 [some b, (Value.slice (A) ((l).length) (c)).ownBlock] [[⟨.slice (bl b) 1 1, 45, 2, 1, [.pointer (ofs (bl b) (0)), .slice (A1) ((l ++ textT (T).t n at0).length) (c1)]⟩], [⟨.slice (A1) ((l ++ textT (T).t n at0).length) (c1), 5, 1, ((l ++ textT (T).t n at0).length), (l ++ textT (T).t n at0).map byteV⟩]])) (T : TreeL) (at0 : Int) (b : Nat) (A : Option Addr) (c : Nat) (l : List UInt8) (p : Value) (lo : Int) (hi : Int) (w : World) (hNT : TrN w T) (hOT : TrO T [some b, (Value.slice (A) ((l).length) (c)).ownBlock]) (hM : Mem w w [some b, (Value.slice (A) ((l).length) (c)).ownBlock] [[⟨.slice (bl b) 1 1, 45, 2, 1, [(p), .slice (A) ((l).length) (c)]⟩], [⟨.slice (A) ((l).length) (c), 5, 1, ((l).length), (l).map byteV⟩]]) (hp : p = .pointer none ∨ p = .pointer (ofs (bl b) 0)) (hs : SzT T) (hok : okB (T).t (n + 1) at0 lo hi = true) (h3 : (n + 1) ≤ 3) (hl : l.length + 200 * 8 ^ (n + 1) ≤ 1000000) (htab : TAB w) (htO : TabO Tryd.prog tabN [some b, (Value.slice (A) ((l).length) (c)).ownBlock]) :
    Does Tryd.prog 20 [.agg #[I ((T).root), .slice ((T).A) ((T).l.length) ((T).cp)], I (at0), .pointer (ofs (bl b) (0))] w (fun v w1 => ∃ (A1 : Option Addr) (c1 : Nat), v = (.tuple #[]) ∧ Mem w w1 [some b, (Value.slice (A) ((l).length) (c)).ownBlock] [[⟨.slice (bl b) 1 1, 45, 2, 1, [.pointer (ofs (bl b) (0)), .slice (A1) ((l ++ textT (T).t (n + 1) at0).length) (c1)]⟩], [⟨.slice (A1) ((l ++ textT (T).t (n + 1) at0).length) (c1), 5, 1, ((l ++ textT (T).t (n + 1) at0).length), (l ++ textT (T).t (n + 1) at0).map byteV⟩]]) := by
  refine Does.n0 Tryd.func20 rfl Tryd.results20 Tryd.ntmps20 rfl ?_
  have hat := inT_t.1 (okB_in hok)
  have hjx : (at0).toNat < (T).l.length := by omega
  have hgp : gP (T).t at0 = ((T).l[(at0).toNat]'hjx).t := gP_at rfl hjx
  have hsz := hs.at hjx
  have hfb := (okB_iff.1 hok).2.1
  have hl4 := fr_len hfb
  rw [hgp] at hl4
  have hl5 : (((T).l[(at0).toNat]'hjx).k.l).length ≤ 4 := hl4
  have hp3 := pow3 (d := n) (by omega)
  have hp1 : 1 ≤ 8 ^ n := Nat.pow_pos (by omega)
  have hps : 8 ^ (n + 1) = 8 ^ n * 8 := Nat.pow_succ ..
  have hvk := fr_keys hfb
  rw [hgp] at hvk
  refine Bx 2 [] fun w0_0 b0_0 hb0_0 hM0_0 => ?_
  have hx1_3 : (at0).toNat < ((T).l).length := (by first | omega | (simp; omega))
  refine ov 6 [0] (a := kixF hx1_3 (hNT.atR hM0_0 hOT).1) (b := ?_)
  refine ov 0 [] (a := kldN hx1_3 (hNT.atR hM0_0 hOT).1) (b := ?_)
  refine Al 0 [] fun w1_5 b1_5 hb1_5 hM1_5 => ?_
  refine Sb 0 [] 0 fun w1_6 hM1_6 => ?_
  refine cd 9 [0] (fun c17 => ?_) (fun c17 => ?_)
  · have hk0 : (gP (T).t at0).kids = [] := by rw [hgp]; exact List.eq_nil_of_length_eq_zero (by show (((T).l[(at0).toNat]'hjx).c.l).length = 0; omega)
    have hvr := prs_valid hfb hk0
    rw [hgp] at hvr
    have hvl := (fr_leaf hfb hk0).1
    rw [hgp] at hvl
    have hte : textT (T).t (n + 1) at0 = fmtL (prsP ((T).l[(at0).toNat]'hjx).t) := by simp only [textT]; rw [if_pos hk0, hgp]
    have hfy := fmtR_yes hvr
    have htl := txt_len hok
    rw [hte] at htl
    have hpl : (prsP ((T).l[(at0).toNat]'hjx).t).length ≤ 4 := by rw [prs_len]; exact hl4
    refine cq 4 [0] (b := pairsOfLeaf_fn (((T).l)[(at0).toNat]'hx1_3) w1_6 (((hNT.atR hM1_6 hOT)).2.get hx1_3) qo (by exact hvl)) (c := ?_)
    rintro _ w3_2 ⟨A13_2, c13_2, rfl, hR3_2⟩
    have hM3_2 := hM1_6.cl 0 hR3_2
    have hcr3_2_0 := (hM3_2.cap 0 rfl).1
    refine cp 0 [] (b := FormatRow_fn _ _ _ w3_2 (hM3_2.rd 0 rfl) qo (tab_atR htab hM3_2 htO)) (c := fun w3_3 hM3_3 => ?_)
    have hMf3_4 := hM3_3.pk [3, 4, 0, 1, 2]
    refine cq 0 [] (b := WriteString_fn b A c l (p) _ w3_3 (hMf3_4.fp [0, 1] rfl rfl) (by first | exact .inl rfl | exact .inr rfl | assumption) (by rw [hfy]; omega)) (c := ?_)
    rintro _ w3_4 ⟨A13_4, c13_4, rfl, hR3_4⟩
    have hM3_4 := hMf3_4.cl 2 hR3_4
    have hcr3_4_1 := (hM3_4.cap 1 rfl).1
    refine E0 2 [] ?_
    have hq1 : (l ++ (fmtR (prsP ((((T).l)[(at0).toNat]'hx1_3)).t)) : List UInt8) = l ++ textT (T).t (n + 1) at0 := (by rw [hte, hfy])
    have hMn1 := hM3_4.reM 1 hq1
    have hMn2 := hMn1.reB 0 1 (show (l ++ (fmtR (prsP ((((T).l)[(at0).toNat]'hx1_3)).t))).length = (l ++ textT (T).t (n + 1) at0).length from congrArg List.length hq1)
    exact ⟨A13_4, c13_4, rfl, (hMn2.pk [0, 1])⟩
  have hk0 : (gP (T).t at0).kids ≠ [] := by rw [hgp]; intro e9; exact absurd (show (((T).l[(at0).toNat]'hjx).c.l).length = 0 from congrArg List.length e9) (by omega)
  have hkl := (fr_in hfb hk0).2
  rw [hgp] at hkl
  have hkl2 : (((T).l[(at0).toNat]'hjx).c.l).length = (((T).l[(at0).toNat]'hjx).k.l).length + 1 := hkl
  have hte : textT (T).t (n + 1) at0 = 40 :: (kidsX (textT (T).t n) (((T).l[(at0).toNat]'hjx).k.l) 0 (((T).l[(at0).toNat]'hjx).c.l) ++ [41]) := by simp only [textT]; rw [if_neg hk0, hgp]; rfl
  have hkp : ∀ j k : Nat, k ≤ j → (kidsX (textT (T).t n) (((T).l[(at0).toNat]'hjx).k.l) 0 ((((T).l[(at0).toNat]'hjx).c.l).take k)).length ≤ j * (200 * 8 ^ n + 23) := fun j k hk => by have := kids_part hok hk; rw [hgp] at this; exact this
  have hMf4_1 := hM1_6.pk [2, 3, 0, 1]
  refine cq 4 [] (b := WriteByte_fn b A c l (p) (40 : UInt8) w1_6 (hMf4_1.fp [0, 1] rfl rfl) (by first | exact .inl rfl | exact .inr rfl | assumption) (by first | omega | (simp; omega))) (c := ?_)
  rintro _ w4_1 ⟨A14_1, c14_1, rfl, hR4_1⟩
  have hM4_1 := hMf4_1.cl 2 hR4_1
  have hcr4_1_1 := (hM4_1.cap 1 rfl).1
  have hq3 : (l ++ [(40 : UInt8)] : List UInt8) = l ++ 40 :: kidsX (textT (T).t n) (((T).l[(at0).toNat]'hjx).k.l) 0 ((((T).l[(at0).toNat]'hjx).c.l).take 0) := (by simp [kidsX])
  have hMn3 := hM4_1.reM 1 hq3
  have hMn4 := hMn3.reB 0 1 (show (l ++ [(40 : UInt8)]).length = (l ++ 40 :: kidsX (textT (T).t n) (((T).l[(at0).toNat]'hjx).k.l) 0 ((((T).l[(at0).toNat]'hjx).c.l).take 0)).length from (by simp [kidsX]))
  refine lp3 10 [2] (fun (k : Nat) (A2 : Option Addr) (c2 : Nat) => ([(28, Vi (((k : Nat) : Int)))] : List (Nat × SV))) (fun (k : Nat) (A2 : Option Addr) (c2 : Nat) => (k ≤ (((T).l[(at0).toNat]'hjx).c.l).length)) (fun (k : Nat) (A2 : Option Addr) (c2 : Nat) => [[⟨.slice (bl b) 1 1, 45, 2, 1, [.pointer (ofs (bl b) (0)), .slice (A2) ((l ++ 40 :: kidsX (textT (T).t n) (((T).l[(at0).toNat]'hjx).k.l) 0 ((((T).l[(at0).toNat]'hjx).c.l).take k)).length) (c2)]⟩], [⟨.slice (A2) ((l ++ 40 :: kidsX (textT (T).t n) (((T).l[(at0).toNat]'hjx).k.l) 0 ((((T).l[(at0).toNat]'hjx).c.l).take k)).length) (c2), 5, 1, ((l ++ 40 :: kidsX (textT (T).t n) (((T).l[(at0).toNat]'hjx).k.l) 0 ((((T).l[(at0).toNat]'hjx).c.l).take k)).length), (l ++ 40 :: kidsX (textT (T).t n) (((T).l[(at0).toNat]'hjx).k.l) 0 ((((T).l[(at0).toNat]'hjx).c.l).take k)).map byteV⟩]]) (fun (k : Nat) (A2 : Option Addr) (c2 : Nat) => (((T).l[(at0).toNat]'hjx).c.l).length - k) [2, 3, 6, 26, 27] [0, 1] [2, 3] 0 A14_1 c14_1 (fun k A2 c2 σ w_l6 hI hM_l6 => ?_) (h0 := (Nat.zero_le _))
  have hi0_l6 := hI
  have hcl1_l6 := (hM_l6.cap 1 rfl).1
  refine cd 5 [] (fun c29 => ?_) (fun c29 => ?_)
  · have hkt := kidsX_take (f := textT (T).t n) (ks := ((T).l[(at0).toNat]'hjx).k.l) (l := ((T).l[(at0).toNat]'hjx).c.l) (k := k) (by omega)
    have hkx : k < (((T).l[(at0).toNat]'hjx).c.l).length := by omega
    have hok1 := ok_kid hok (k := k) (by rw [hgp]; exact hkx)
    have hck : (gP (T).t at0).kids[k]'(by rw [hgp]; exact hkx) = (((T).l[(at0).toNat]'hjx).c.l)[k] := by simp only [hgp]; rfl
    rw [hck] at hok1
    have htl1 := txt_len hok1
    have hk4 := hkp 4 k (by omega)
    have hx7_1 : k < ((((T).l)[(at0).toNat]'hx1_3).c.l).length := (by first | omega | (simp; omega))
    refine ov 6 [] (a := kixM hx7_1 (((hNT.atR hM_l6 hOT)).2.get hx1_3).2.1) (b := ?_)
    refine ov 0 [] (a := kldM hx7_1 (((hNT.atR hM_l6 hOT)).2.get hx1_3).2.1) (b := ?_)
    refine cd 9 [] (fun c34 => ?_) (fun c34 => ?_)
    · have hk0 : k ≠ 0 := by omega
      have hkj : k - 1 < (((T).l[(at0).toNat]'hjx).k.l).length := by omega
      have hkb := validK_bd (show validK (((T).l[(at0).toNat]'hjx).k.l) = true from hvk) hkj
      have hil := itoa_len (n := (((T).l[(at0).toNat]'hjx).k.l)[k - 1]) (by omega) (by omega)
      have hgd := getD_in hkj
      refine cq 3 [] (b := WriteByte_fn b A2 c2 (l ++ 40 :: kidsX (textT (T).t n) (((T).l[(at0).toNat]'hjx).k.l) 0 ((((T).l[(at0).toNat]'hjx).c.l).take k)) (.pointer (ofs (bl b) (0))) (32 : UInt8) w_l6 (hM_l6.fp [0, 1] rfl rfl) (by first | exact .inl rfl | exact .inr rfl | assumption) (by first | omega | (simp; omega))) (c := ?_)
      rintro _ w9_1 ⟨A19_1, c19_1, rfl, hR9_1⟩
      have hM9_1 := hM_l6.cl 2 hR9_1
      have hcr9_1_1 := (hM9_1.cap 1 rfl).1
      refine ov 7 [2] (a := ksub) (b := ?_)
      have hx10_5 : k - 1 < ((((T).l)[(at0).toNat]'hx1_3).k.l).length := hkj
      refine ov 0 [] (a := kixM hx10_5 (((hNT.atR hM9_1 hOT)).2.get hx1_3).1 (h0 := by omega)) (b := ?_)
      refine ov 0 [] (a := kldM hx10_5 (((hNT.atR hM9_1 hOT)).2.get hx1_3).1) (b := ?_)
      refine cp 0 [] (b := Itoa_fn _ w9_1 (tab_atR htab hM9_1 htO) (by constructor <;> omega)) (c := fun w10_7 hM10_7 => ?_)
      refine cq 0 [] (b := WriteString_fn b A19_1 c19_1 ((l ++ 40 :: kidsX (textT (T).t n) (((T).l[(at0).toNat]'hjx).k.l) 0 ((((T).l[(at0).toNat]'hjx).c.l).take k)) ++ [(32 : UInt8)]) (.pointer (ofs (bl b) (0))) _ w10_7 (hM10_7.fp [0, 1] rfl rfl) (by first | exact .inl rfl | exact .inr rfl | assumption) (by first | omega | (simp; omega))) (c := ?_)
      rintro _ w10_8 ⟨A110_8, c110_8, rfl, hR10_8⟩
      have hM10_8 := hM10_7.cl 2 hR10_8
      have hcr10_8_1 := (hM10_8.cap 1 rfl).1
      refine cq 3 [] (b := WriteByte_fn b A110_8 c110_8 (((l ++ 40 :: kidsX (textT (T).t n) (((T).l[(at0).toNat]'hjx).k.l) 0 ((((T).l[(at0).toNat]'hjx).c.l).take k)) ++ [(32 : UInt8)]) ++ (itoaS (((((T).l)[(at0).toNat]'hx1_3).k.l)[k - 1]'hx10_5))) (.pointer (ofs (bl b) (0))) (32 : UInt8) w10_8 (hM10_8.fp [0, 1] rfl rfl) (by first | exact .inl rfl | exact .inr rfl | assumption) (by first | omega | (simp; omega))) (c := ?_)
      rintro _ w11_1 ⟨A111_1, c111_1, rfl, hR11_1⟩
      have hM11_1 := hM10_8.cl 2 hR11_1
      have hcr11_1_1 := (hM11_1.cap 1 rfl).1
      refine cq 5 [3] (b := ih_fn T _ b A111_1 c111_1 ((((l ++ 40 :: kidsX (textT (T).t n) (((T).l[(at0).toNat]'hjx).k.l) 0 ((((T).l[(at0).toNat]'hjx).c.l).take k)) ++ [(32 : UInt8)]) ++ (itoaS (((((T).l)[(at0).toNat]'hx1_3).k.l)[k - 1]'hx10_5))) ++ [(32 : UInt8)]) (.pointer (ofs (bl b) (0))) _ _ w11_1 (hNT.atR hM11_1 hOT) (TrO.cons (TrO.own hM11_1 hNT hOT 0 rfl) (TrO.cons (TrO.own hM11_1 hNT hOT 1 rfl) TrO.nil)) (hM11_1.fp [0, 1] rfl rfl) (by first | exact .inl rfl | exact .inr rfl | assumption) q0 (by exact hok1) qo (by first | omega | (simp; omega)) (tab_atR htab hM11_1 htO) (TabO.cons (TabO.own htab hM11_1 htO 0 rfl) (TabO.cons (TabO.own htab hM11_1 htO 1 rfl) TabO.nil))) (c := ?_)
      rintro _ w12_3 ⟨A112_3, c112_3, rfl, hR12_3⟩
      have hM12_3 := hM11_1.cl 2 hR12_3
      have hcr12_3_1 := (hM12_3.cap 1 rfl).1
      refine ov 2 [] (a := kaddN (k + 1)) (b := ?_)
      have hq5 : (((((l ++ 40 :: kidsX (textT (T).t n) (((T).l[(at0).toNat]'hjx).k.l) 0 ((((T).l[(at0).toNat]'hjx).c.l).take k)) ++ [(32 : UInt8)]) ++ (itoaS (((((T).l)[(at0).toNat]'hx1_3).k.l)[k - 1]'hx10_5))) ++ [(32 : UInt8)]) ++ textT (T).t n (((((T).l)[(at0).toNat]'hx1_3).c.l)[k]'hx7_1) : List UInt8) = l ++ 40 :: kidsX (textT (T).t n) (((T).l[(at0).toNat]'hjx).k.l) 0 ((((T).l[(at0).toNat]'hjx).c.l).take (k + 1)) := (by rw [hkt]; first | (simp [hk0]; done) | (rw [if_neg hk0, hgd]; simp))
      have hMn5 := hM12_3.reM 1 hq5
      have hMn6 := hMn5.reB 0 1 (show (((((l ++ 40 :: kidsX (textT (T).t n) (((T).l[(at0).toNat]'hjx).k.l) 0 ((((T).l[(at0).toNat]'hjx).c.l).take k)) ++ [(32 : UInt8)]) ++ (itoaS (((((T).l)[(at0).toNat]'hx1_3).k.l)[k - 1]'hx10_5))) ++ [(32 : UInt8)]) ++ textT (T).t n (((((T).l)[(at0).toNat]'hx1_3).c.l)[k]'hx7_1)).length = (l ++ 40 :: kidsX (textT (T).t n) (((T).l[(at0).toNat]'hjx).k.l) 0 ((((T).l[(at0).toNat]'hjx).c.l).take (k + 1))).length from congrArg List.length hq5)
      exact le3 2 [] (k + 1) A112_3 c112_3 [0, 1, 2, 3] (h := by exact (by (try dsimp only); omega))
    have hk0 : k = 0 := by omega
    refine cq 5 [3] (b := ih_fn T _ b A2 c2 (l ++ 40 :: kidsX (textT (T).t n) (((T).l[(at0).toNat]'hjx).k.l) 0 ((((T).l[(at0).toNat]'hjx).c.l).take k)) (.pointer (ofs (bl b) (0))) _ _ w_l6 (hNT.atR hM_l6 hOT) (TrO.cons (TrO.own hM_l6 hNT hOT 0 rfl) (TrO.cons (TrO.own hM_l6 hNT hOT 1 rfl) TrO.nil)) (hM_l6.fp [0, 1] rfl rfl) (by first | exact .inl rfl | exact .inr rfl | assumption) q0 (by exact hok1) qo (by first | omega | (simp; omega)) (tab_atR htab hM_l6 htO) (TabO.cons (TabO.own htab hM_l6 htO 0 rfl) (TabO.cons (TabO.own htab hM_l6 htO 1 rfl) TabO.nil))) (c := ?_)
    rintro _ w12_3 ⟨A112_3, c112_3, rfl, hR12_3⟩
    have hM12_3 := hM_l6.cl 2 hR12_3
    have hcr12_3_1 := (hM12_3.cap 1 rfl).1
    refine ov 2 [] (a := kaddN (k + 1)) (b := ?_)
    have hq7 : ((l ++ 40 :: kidsX (textT (T).t n) (((T).l[(at0).toNat]'hjx).k.l) 0 ((((T).l[(at0).toNat]'hjx).c.l).take k)) ++ textT (T).t n (((((T).l)[(at0).toNat]'hx1_3).c.l)[k]'hx7_1) : List UInt8) = l ++ 40 :: kidsX (textT (T).t n) (((T).l[(at0).toNat]'hjx).k.l) 0 ((((T).l[(at0).toNat]'hjx).c.l).take (k + 1)) := (by rw [hkt]; first | (simp [hk0]; done) | (rw [if_neg hk0, hgd]; simp))
    have hMn7 := hM12_3.reM 1 hq7
    have hMn8 := hMn7.reB 0 1 (show ((l ++ 40 :: kidsX (textT (T).t n) (((T).l[(at0).toNat]'hjx).k.l) 0 ((((T).l[(at0).toNat]'hjx).c.l).take k)) ++ textT (T).t n (((((T).l)[(at0).toNat]'hx1_3).c.l)[k]'hx7_1)).length = (l ++ 40 :: kidsX (textT (T).t n) (((T).l[(at0).toNat]'hjx).k.l) 0 ((((T).l[(at0).toNat]'hjx).c.l).take (k + 1))).length from congrArg List.length hq7)
    exact le3 2 [] (k + 1) A112_3 c112_3 [0, 1, 2, 3] (h := by exact (by (try dsimp only); omega))
  have hk5 := hkp 5 k (by omega)
  refine cq 3 [] (b := WriteByte_fn b A2 c2 (l ++ 40 :: kidsX (textT (T).t n) (((T).l[(at0).toNat]'hjx).k.l) 0 ((((T).l[(at0).toNat]'hjx).c.l).take k)) (.pointer (ofs (bl b) (0))) (41 : UInt8) w_l6 (hM_l6.fp [0, 1] rfl rfl) (by first | exact .inl rfl | exact .inr rfl | assumption) (by first | omega | (simp; omega))) (c := ?_)
  rintro _ w14_1 ⟨A114_1, c114_1, rfl, hR14_1⟩
  have hM14_1 := hM_l6.cl 2 hR14_1
  have hcr14_1_1 := (hM14_1.cap 1 rfl).1
  refine E0 1 [] ?_
  have hq9 : ((l ++ 40 :: kidsX (textT (T).t n) (((T).l[(at0).toNat]'hjx).k.l) 0 ((((T).l[(at0).toNat]'hjx).c.l).take k)) ++ [(41 : UInt8)] : List UInt8) = l ++ textT (T).t (n + 1) at0 := (by rw [hte, List.take_of_length_le (by omega)]; simp)
  have hMn9 := hM14_1.reM 1 hq9
  have hMn10 := hMn9.reB 0 1 (show ((l ++ 40 :: kidsX (textT (T).t n) (((T).l[(at0).toNat]'hjx).k.l) 0 ((((T).l[(at0).toNat]'hjx).c.l).take k)) ++ [(41 : UInt8)]).length = (l ++ textT (T).t (n + 1) at0).length from congrArg List.length hq9)
  exact ⟨A114_1, c114_1, rfl, (hMn10.pk [0, 1])⟩
theorem textBelow_fn : ∀ (n : Nat), ∀ (T : TreeL) (at0 : Int) (b : Nat) (A : Option Addr) (c : Nat) (l : List UInt8) (p : Value) (lo : Int) (hi : Int) (w : World) (hNT : TrN w T) (hOT : TrO T [some b, (Value.slice (A) ((l).length) (c)).ownBlock]) (hM : Mem w w [some b, (Value.slice (A) ((l).length) (c)).ownBlock] [[⟨.slice (bl b) 1 1, 45, 2, 1, [(p), .slice (A) ((l).length) (c)]⟩], [⟨.slice (A) ((l).length) (c), 5, 1, ((l).length), (l).map byteV⟩]]) (hp : p = .pointer none ∨ p = .pointer (ofs (bl b) 0)) (hs : SzT T) (hok : okB (T).t n at0 lo hi = true) (h3 : n ≤ 3) (hl : l.length + 200 * 8 ^ n ≤ 1000000) (htab : TAB w) (htO : TabO Tryd.prog tabN [some b, (Value.slice (A) ((l).length) (c)).ownBlock]), Does Tryd.prog 20 [.agg #[I ((T).root), .slice ((T).A) ((T).l.length) ((T).cp)], I (at0), .pointer (ofs (bl b) (0))] w (fun v w1 => ∃ (A1 : Option Addr) (c1 : Nat), v = (.tuple #[]) ∧ Mem w w1 [some b, (Value.slice (A) ((l).length) (c)).ownBlock] [[⟨.slice (bl b) 1 1, 45, 2, 1, [.pointer (ofs (bl b) (0)), .slice (A1) ((l ++ textT (T).t n at0).length) (c1)]⟩], [⟨.slice (A1) ((l ++ textT (T).t n at0).length) (c1), 5, 1, ((l ++ textT (T).t n at0).length), (l ++ textT (T).t n at0).map byteV⟩]]) := by
  intro n
  induction n with
  | zero => exact textBelow0_fn
  | succ n ih => exact textBelowS_fn n ih
end Go.Proofs.YtemejgglbhjodaaDoor
end
section
namespace Go.Proofs.YtemejgglbhjodaaDoor
open Go.Px
theorem FormatTree_fn (T : TreeL) (w : World) (hNT : TrN w T) (hs : SzT T) (htab : TAB w) :
    Does Tryd.prog 7 [.agg #[I ((T).root), .slice ((T).A) ((T).l.length) ((T).cp)]] w (fun v w1 => v = S (frX (T).t) ∧ Mem w w1 [] []) := by
  have hM : Mem w w [] [] := Mem.refl
  refine Does.n1 Tryd.func7 rfl Tryd.results7 Tryd.ntmps7 rfl ?_
  refine Bx 2 [] fun w0_0 b0_0 hb0_0 hM0_0 => ?_
  refine cp 6 [0] (b := ValidTree_fn T w0_0 (hNT.at hM0_0) q0) (c := fun w1_1 hM1_1 => ?_)
  refine cn 2 [] (fun c6 => ?_) (fun c6 => ?_)
  · refine E1 5 [] (S ([])) ?_
    exact ⟨(congrArg S (by rw [frX_no (by simpa using c6)])), (Mem.none hM1_1)⟩
  have hv : validT (T).t = true := by simpa using c6
  obtain ⟨hh3, hok, _⟩ := valid_ok hv
  have hp3 := pow3 hh3
  have hok0 : okB (T).t (heightT (T).t) (T).root 0 100 = true := hok
  refine Al 3 [] fun w3_0 b3_0 hb3_0 hM3_0 => ?_
  have hMn1 := Mem.addNil (e := 5) (sz := 1) hM3_0
  have hMf4_3 := hMn1.pk [1, 0, 2]
  refine cq 6 [2, 2] (b := textBelow_fn (heightT (T).t) T _ b3_0 none 0 [] (.pointer none) 0 100 w3_0 (hNT.at hMf4_3) (TrO.cons (TrO.old hMf4_3 hNT 0 rfl) (TrO.cons (TrO.old hMf4_3 hNT 1 rfl) TrO.nil)) (hMf4_3.fp [0, 1] rfl rfl) (by first | exact .inl rfl | exact .inr rfl | assumption) q0 (by exact hok0) (by exact hh3) (by first | omega | (simp; omega)) (tab_at htab hMf4_3) (TabO.cons (TabO.old htab hMf4_3 0 rfl) (TabO.cons (TabO.old htab hMf4_3 1 rfl) TabO.nil))) (c := ?_)
  rintro _ w4_3 ⟨A14_3, c14_3, rfl, hR4_3⟩
  have hM4_3 := hMf4_3.cl 2 hR4_3
  have hcr4_3_1 := (hM4_3.cap 1 rfl).1
  refine go 3 [] ?_
  refine O.callg [.pointer (ofs (bl b3_0) (0))] rfl en21 rfl rfl (String_fn (l := [] ++ textT (T).t (heightT (T).t) ((T).root)) w4_3 hM4_3.size (hM4_3.builder 0 1 rfl rfl (by first | exact .inl rfl | exact .inr rfl | assumption))) ?_
  rintro _ w5_0 ⟨rfl, hB5_0⟩
  have hM5_0 : Mem w w5_0 [] [] := mem_below hM4_3 hB5_0
  refine E1 3 [] (S ([] ++ textT (T).t (heightT (T).t) ((T).root))) ?_
  exact ⟨(congrArg S (by rw [frX_yes hv]; first | rfl | (simp; done))), (Mem.none hM5_0)⟩
end Go.Proofs.YtemejgglbhjodaaDoor
end
section
namespace Go.Proofs.YtemejgglbhjodaaDoor
open Go.Px
theorem equalInts_fn (A : Option Addr) (c : Nat) (a : List Int) (B : Option Addr) (d : Nat) (b : List Int) (w : World) (hA : Rd w A ((a).map I)) (hB : Rd w B ((b).map I)) (ha : a.length ≤ 1048576) :
    Does Tryd.prog 58 [.slice (A) ((a).length) (c), .slice (B) ((b).length) (d)] w (fun v w1 => v = .bool (decide (a = b)) ∧ Mem w w1 [] []) := by
  have hM : Mem w w [] [] := Mem.refl
  refine Does.n1 Tryd.func58 rfl Tryd.results58 Tryd.ntmps58 rfl ?_
  refine cd 13 [] (fun c10 => ?_) (fun c10 => ?_)
  · refine E1 5 [] (.bool (false)) ?_
    exact ⟨(by rw [ne_len (by omega)]), (Mem.none hM)⟩
  refine lp1 7 [] (fun (k : Nat) => ([(5, Vi (((k : Nat) : Int)))] : List (Nat × SV))) (fun (k : Nat) => (k ≤ a.length) ∧ (a.take k = b.take k)) (fun (k : Nat) => []) (fun (k : Nat) => a.length - k) [0, 1] [] [] 0 (fun k σ w_l4 hI hM_l4 => ?_) (h0 := ⟨(Nat.zero_le _), (by (try dsimp only); simp)⟩)
  obtain ⟨hi0_l4, hi1_l4⟩ := hI
  refine cd 8 [] (fun c14 => ?_) (fun c14 => ?_)
  · refine dr 4 [] ?_
    have hx6_2 : k < (a).length := (by first | omega | (simp; omega))
    refine qv 2 [] (a := by exact fun _ hw2 => kixM hx6_2 (hA.at hw2)) (b := ?_)
    refine qv 0 [] (a := by exact fun _ hw2 => kldM hx6_2 (hA.at hw2)) (b := ?_)
    have hx6_6 : k < (b).length := (by first | omega | (simp; omega))
    refine qv 2 [] (a := by exact fun _ hw2 => kixM hx6_6 (hB.at hw2)) (b := ?_)
    refine qv 0 [] (a := by exact fun _ hw2 => kldM hx6_6 (hB.at hw2)) (b := ?_)
    refine qn 1 [] fun w6d hM6d => ?_
    refine cd 0 [] (fun c25 => ?_) (fun c25 => ?_)
    · refine E1 5 [] (.bool (false)) ?_
      exact ⟨(by rw [ne_at hx6_2 hx6_6 (by simpa using c25)]), (Mem.none hM6d)⟩
    refine ov 3 [] (a := kaddN (k + 1)) (b := ?_)
    exact le1 2 [] (k + 1) [] (h := by exact ⟨(by (try dsimp only); omega), (eq_step hx6_2 hx6_6 hi1_l4 (by simpa using c25))⟩)
  refine E1 6 [] (.bool (true)) ?_
  exact ⟨(by rw [eq_all (by omega) (by omega) hi1_l4]), (Mem.none hM_l4)⟩
end Go.Proofs.YtemejgglbhjodaaDoor
end
section
namespace Go.Px
open Go.RowKit
section
variable {P : Program} {n : Nat} {ops rest : List Oper} {Q : Post} {τ : Fm} {K : List Fk} {w w0 : World} {R : List (Option Nat)} {M : List (List FE)} {T U T' e t : TypeId} {pos : String} {after : Array Edge} {g : Option (Nat × Bool)} {x y z : Operand} {zs : List Value} {bytes : Nat} {agg : Bool} {d : Nat} {p : Prop} {dst : Option Tmp}
variable {KS : List (Nat × SV)} {KN : List (List FE)} {c cx cy : Code} {m : Nat}
structure LE13 {α0 α1 α2 α3 α4 α5 α6 α7 α8 α9 α10 α11 α12 : Type} (L : α0 → α1 → α2 → α3 → α4 → α5 → α6 → α7 → α8 → α9 → α10 → α11 → α12 → List (Nat × SV)) (KS : List (Nat × SV)) (J : α0 → α1 → α2 → α3 → α4 → α5 → α6 → α7 → α8 → α9 → α10 → α11 → α12 → Prop) (N : α0 → α1 → α2 → α3 → α4 → α5 → α6 → α7 → α8 → α9 → α10 → α11 → α12 → List (List FE)) (KN : List (List FE)) (w0 : World) (R : List (Option Nat)) (μ : α0 → α1 → α2 → α3 → α4 → α5 → α6 → α7 → α8 → α9 → α10 → α11 → α12 → Nat) (m : Nat) (σ : Sig) (w : World) : Prop where h : ∃ x : α0 × α1 × α2 × α3 × α4 × α5 × α6 × α7 × α8 × α9 × α10 × α11 × α12, μ x.1 x.2.1 x.2.2.1 x.2.2.2.1 x.2.2.2.2.1 x.2.2.2.2.2.1 x.2.2.2.2.2.2.1 x.2.2.2.2.2.2.2.1 x.2.2.2.2.2.2.2.2.1 x.2.2.2.2.2.2.2.2.2.1 x.2.2.2.2.2.2.2.2.2.2.1 x.2.2.2.2.2.2.2.2.2.2.2.1 x.2.2.2.2.2.2.2.2.2.2.2.2 < m ∧ Has σ (vals (L x.1 x.2.1 x.2.2.1 x.2.2.2.1 x.2.2.2.2.1 x.2.2.2.2.2.1 x.2.2.2.2.2.2.1 x.2.2.2.2.2.2.2.1 x.2.2.2.2.2.2.2.2.1 x.2.2.2.2.2.2.2.2.2.1 x.2.2.2.2.2.2.2.2.2.2.1 x.2.2.2.2.2.2.2.2.2.2.2.1 x.2.2.2.2.2.2.2.2.2.2.2.2 ++ KS)) ∧ (fun x w => J x.1 x.2.1 x.2.2.1 x.2.2.2.1 x.2.2.2.2.1 x.2.2.2.2.2.1 x.2.2.2.2.2.2.1 x.2.2.2.2.2.2.2.1 x.2.2.2.2.2.2.2.2.1 x.2.2.2.2.2.2.2.2.2.1 x.2.2.2.2.2.2.2.2.2.2.1 x.2.2.2.2.2.2.2.2.2.2.2.1 x.2.2.2.2.2.2.2.2.2.2.2.2 ∧ Mem w0 w R (N x.1 x.2.1 x.2.2.1 x.2.2.2.1 x.2.2.2.2.1 x.2.2.2.2.2.1 x.2.2.2.2.2.2.1 x.2.2.2.2.2.2.2.1 x.2.2.2.2.2.2.2.2.1 x.2.2.2.2.2.2.2.2.2.1 x.2.2.2.2.2.2.2.2.2.2.1 x.2.2.2.2.2.2.2.2.2.2.2.1 x.2.2.2.2.2.2.2.2.2.2.2.2 ++ KN)) x w
theorem lp13 {α0 α1 α2 α3 α4 α5 α6 α7 α8 α9 α10 α11 α12 : Type}  (k9 : Nat) (is : List Nat) (L : α0 → α1 → α2 → α3 → α4 → α5 → α6 → α7 → α8 → α9 → α10 → α11 → α12 → List (Nat × SV)) (J : α0 → α1 → α2 → α3 → α4 → α5 → α6 → α7 → α8 → α9 → α10 → α11 → α12 → Prop) (N : α0 → α1 → α2 → α3 → α4 → α5 → α6 → α7 → α8 → α9 → α10 → α11 → α12 → List (List FE)) (μ : α0 → α1 → α2 → α3 → α4 → α5 → α6 → α7 → α8 → α9 → α10 → α11 → α12 → Nat) (ks io ik : List Nat) (a0 : α0) (a1 : α1) (a2 : α2) (a3 : α3) (a4 : α4) (a5 : α5) (a6 : α6) (a7 : α7) (a8 : α8) (a9 : α9) (a10 : α10) (a11 : α11) (a12 : α12) (h : ∀ (a0 : α0) (a1 : α1) (a2 : α2) (a3 : α3) (a4 : α4) (a5 : α5) (a6 : α6) (a7 : α7) (a8 : α8) (a9 : α9) (a10 : α10) (a11 : α11) (a12 : α12) (τ' : Fm) (w' : World), J a0 a1 a2 a3 a4 a5 a6 a7 a8 a9 a10 a11 a12 → Mem w0 w' R (N a0 a1 a2 a3 a4 a5 a6 a7 a8 a9 a10 a11 a12 ++ KN) → den P n Q w' ⟨.c c, .nm (LE13 L KS J N KN w0 R μ (μ a0 a1 a2 a3 a4 a5 a6 a7 a8 a9 a10 a11 a12)) :: K, upl τ' (L a0 a1 a2 a3 a4 a5 a6 a7 a8 a9 a10 a11 a12 ++ KS)⟩) (pre : Run k9 is (den P n Q w ⟨.c (.loop c), K, τ⟩) p := by exact Go.Px.p9) (hM : Mem w0 w R M := by assumption) (hk : keep τ ks = some KS := by exact rfl) (hr : Pk M ik KN := by (repeat (first | exact Go.Px.Pk.nil | (apply Go.Px.Pk.cons; exact rfl)))) (hN : Pk M io (N a0 a1 a2 a3 a4 a5 a6 a7 a8 a9 a10 a11 a12) := by (repeat (first | exact Go.Px.Pk.nil | (apply Go.Px.Pk.cons; exact rfl)))) (hn : (io ++ ik).Nodup := by decide) (hL : Has (Sg τ) (vals (L a0 a1 a2 a3 a4 a5 a6 a7 a8 a9 a10 a11 a12)) := by (repeat (first | exact True.intro | refine And.intro (by first | exact rfl | exact Go.Px.I_congr (by first | omega | (simp; omega) | simp) | exact Go.Px.sl_congr (by first | omega | (simp; done) | (simp; omega) | exact congrArg List.length (by assumption))) ?_))) (h0 : J a0 a1 a2 a3 a4 a5 a6 a7 a8 a9 a10 a11 a12) : p := pre (C.loop (ι := α0 × α1 × α2 × α3 × α4 × α5 × α6 × α7 × α8 × α9 × α10 × α11 × α12) (fun x => vals (L x.1 x.2.1 x.2.2.1 x.2.2.2.1 x.2.2.2.2.1 x.2.2.2.2.2.1 x.2.2.2.2.2.2.1 x.2.2.2.2.2.2.2.1 x.2.2.2.2.2.2.2.2.1 x.2.2.2.2.2.2.2.2.2.1 x.2.2.2.2.2.2.2.2.2.2.1 x.2.2.2.2.2.2.2.2.2.2.2.1 x.2.2.2.2.2.2.2.2.2.2.2.2 ++ KS)) (fun x w => J x.1 x.2.1 x.2.2.1 x.2.2.2.1 x.2.2.2.2.1 x.2.2.2.2.2.1 x.2.2.2.2.2.2.1 x.2.2.2.2.2.2.2.1 x.2.2.2.2.2.2.2.2.1 x.2.2.2.2.2.2.2.2.2.1 x.2.2.2.2.2.2.2.2.2.2.1 x.2.2.2.2.2.2.2.2.2.2.2.1 x.2.2.2.2.2.2.2.2.2.2.2.2 ∧ Mem w0 w R (N x.1 x.2.1 x.2.2.1 x.2.2.2.1 x.2.2.2.2.1 x.2.2.2.2.2.1 x.2.2.2.2.2.2.1 x.2.2.2.2.2.2.2.1 x.2.2.2.2.2.2.2.2.1 x.2.2.2.2.2.2.2.2.2.1 x.2.2.2.2.2.2.2.2.2.2.1 x.2.2.2.2.2.2.2.2.2.2.2.1 x.2.2.2.2.2.2.2.2.2.2.2.2 ++ KN)) (fun x => μ x.1 x.2.1 x.2.2.1 x.2.2.2.1 x.2.2.2.2.1 x.2.2.2.2.2.1 x.2.2.2.2.2.2.1 x.2.2.2.2.2.2.2.1 x.2.2.2.2.2.2.2.2.1 x.2.2.2.2.2.2.2.2.2.1 x.2.2.2.2.2.2.2.2.2.2.1 x.2.2.2.2.2.2.2.2.2.2.2.1 x.2.2.2.2.2.2.2.2.2.2.2.2) (a0, a1, a2, a3, a4, a5, a6, a7, a8, a9, a10, a11, a12) (has_app hL (keep_has hk)) ⟨h0, (hN.app hr).mem hn hM⟩ (fun x σ' w' hI => by have h9 := h x.1 x.2.1 x.2.2.1 x.2.2.2.1 x.2.2.2.2.1 x.2.2.2.2.2.1 x.2.2.2.2.2.2.1 x.2.2.2.2.2.2.2.1 x.2.2.2.2.2.2.2.2.1 x.2.2.2.2.2.2.2.2.2.1 x.2.2.2.2.2.2.2.2.2.2.1 x.2.2.2.2.2.2.2.2.2.2.2.1 x.2.2.2.2.2.2.2.2.2.2.2.2 (lf σ') w' hI.1 hI.2; simp only [den, Sg_upl, Sg_lf] at h9; exact C.mono h9 fun e σ w hh => by cases e <;> first | exact hh.h | exact hh))
theorem le13 {α0 α1 α2 α3 α4 α5 α6 α7 α8 α9 α10 α11 α12 : Type} {L : α0 → α1 → α2 → α3 → α4 → α5 → α6 → α7 → α8 → α9 → α10 → α11 → α12 → List (Nat × SV)} {J : α0 → α1 → α2 → α3 → α4 → α5 → α6 → α7 → α8 → α9 → α10 → α11 → α12 → Prop} {N : α0 → α1 → α2 → α3 → α4 → α5 → α6 → α7 → α8 → α9 → α10 → α11 → α12 → List (List FE)} {μ : α0 → α1 → α2 → α3 → α4 → α5 → α6 → α7 → α8 → α9 → α10 → α11 → α12 → Nat} (k9 : Nat) (is : List Nat) (a0 : α0) (a1 : α1) (a2 : α2) (a3 : α3) (a4 : α4) (a5 : α5) (a6 : α6) (a7 : α7) (a8 : α8) (a9 : α9) (a10 : α10) (a11 : α11) (a12 : α12) (io : List Nat) (pre : Run k9 is (den P n Q w ⟨.q .normal, .nm (LE13 L KS J N KN w0 R μ m) :: K, τ⟩) p := by exact Go.Px.p9) (hM : Mem w0 w R M := by assumption) (hm : μ a0 a1 a2 a3 a4 a5 a6 a7 a8 a9 a10 a11 a12 < m := by (try dsimp only); omega) (hL : Has (Sg τ) (vals (L a0 a1 a2 a3 a4 a5 a6 a7 a8 a9 a10 a11 a12)) := by (repeat (first | exact True.intro | refine And.intro (by first | exact rfl | exact Go.Px.I_congr (by first | omega | (simp; omega) | simp) | exact Go.Px.sl_congr (by first | omega | (simp; done) | (simp; omega) | exact congrArg List.length (by assumption))) ?_))) (hK : KS.map (fun p => τ p.1) = KS.map (·.2) := by exact rfl) (hp : Pk M io (N a0 a1 a2 a3 a4 a5 a6 a7 a8 a9 a10 a11 a12 ++ KN) := by (repeat (first | exact Go.Px.Pk.nil | (apply Go.Px.Pk.cons; exact rfl)))) (hn : io.Nodup := by decide) (h : J a0 a1 a2 a3 a4 a5 a6 a7 a8 a9 a10 a11 a12) : p := pre (show LE13 L KS J N KN w0 R μ m (Sg τ) w from ⟨(a0, a1, a2, a3, a4, a5, a6, a7, a8, a9, a10, a11, a12), hm, has_app hL (same_has hK), h, hp.mem hn hM⟩)
end
end Go.Px
end
section
namespace Go.Proofs.YtemejgglbhjodaaDoor
open Go.Px
theorem eq57 : EqT Tryd.prog 57 [3, 3] := EqT.of (by kernel_rfl) (by kernel_rfl) (by kernel_rfl) (by kernel_rfl)
end Go.Proofs.YtemejgglbhjodaaDoor
end
section
namespace Go.Proofs.YtemejgglbhjodaaDoor
open Go.Px
theorem copyPage_fn (p : PgL) (w : World) (hNp : PgN w p) (hp : (p).k.l.length ≤ 1048576 ∧ (p).c.l.length ≤ 1048576 ∧ (p).v.l.length ≤ 1048576) :
    Does Tryd.prog 56 [.agg #[.slice ((p).k.A) ((p).k.l.length) ((p).k.cp), .slice ((p).c.A) ((p).c.l.length) ((p).c.cp), .slice ((p).v.A) ((p).v.l.length) ((p).v.cp)]] w (fun v w1 => ∃ (A1 : Option Addr) (c1 : Nat) (A2 : Option Addr) (c2 : Nat) (A3 : Option Addr) (c3 : Nat), v = .agg #[.slice (A1) (((p).k.l).length) (c1), .slice (A2) (((p).c.l).length) (c2), .slice (A3) (((p).v.l).length) (c3)] ∧ Mem w w1 [] [[⟨.slice (A1) (((p).k.l).length) (c1), 3, 1, (((p).k.l).length), ((p).k.l).map I⟩], [⟨.slice (A2) (((p).c.l).length) (c2), 3, 1, (((p).c.l).length), ((p).c.l).map I⟩], [⟨.slice (A3) (((p).v.l).length) (c3), 3, 1, (((p).v.l).length), ((p).v.l).map I⟩]]) := by
  have hM : Mem w w [] [] := Mem.refl
  refine Does.nG (rs := [.cell 2 39]) Tryd.func56 rfl Tryd.results56 Tryd.ntmps56 rfl ?_
  refine Bx 2 [] fun w0_0 b0_0 hb0_0 hM0_0 => ?_
  refine Al 0 [] fun w0_1 b0_1 hb0_1 hM0_1 => ?_
  refine any 2 [] 11 [1] fun w1a hM1a => ?_
  refine aO [0, 1, 3, 4, 6, 7] [0, 0, 0] 2 ?_
  refine cq 0 [] (vs := [.slice ((p).k.A) (((p).k.l).length) ((p).k.cp)]) (hvs := (by first | rfl | (rw [show ((p).k.l).length = (p).k.l.length from (by first | rfl | (simp; done) | omega | (simp; omega))]; rfl))) (b := scopyInts_fn ((p).k.A) ((p).k.cp) ((p).k.l) w1a (hNp.at hM1a).1 q0) (c := ?_)
  rintro _ w1_2 ⟨A11_2, c11_2, rfl, hR1_2⟩
  have hM1_2 := hM1a.cl 0 hR1_2
  have hcr1_2_0 := (hM1_2.cap 0 rfl).1
  refine os 0 [] [2] ?_
  refine aO [] [] 5 ?_
  refine cq 0 [] (vs := [.slice ((p).c.A) (((p).c.l).length) ((p).c.cp)]) (hvs := (by first | rfl | (rw [show ((p).c.l).length = (p).c.l.length from (by first | rfl | (simp; done) | omega | (simp; omega))]; rfl))) (b := scopyInts_fn ((p).c.A) ((p).c.cp) ((p).c.l) w1_2 (hNp.at hM1_2).2.1 q0) (c := ?_)
  rintro _ w1_5 ⟨A11_5, c11_5, rfl, hR1_5⟩
  have hM1_5 := hM1_2.cl 0 hR1_5
  have hcr1_5_0 := (hM1_5.cap 0 rfl).1
  refine os 0 [] [3] ?_
  refine aO [] [] 8 ?_
  refine cq 0 [] (vs := [.slice ((p).v.A) (((p).v.l).length) ((p).v.cp)]) (hvs := (by first | rfl | (rw [show ((p).v.l).length = (p).v.l.length from (by first | rfl | (simp; done) | omega | (simp; omega))]; rfl))) (b := scopyInts_fn ((p).v.A) ((p).v.cp) ((p).v.l) w1_5 (hNp.at hM1_5).2.2 q0) (c := ?_)
  rintro _ w1_8 ⟨A11_8, c11_8, rfl, hR1_8⟩
  have hM1_8 := hM1_5.cl 0 hR1_8
  have hcr1_8_0 := (hM1_8.cap 0 rfl).1
  refine os 0 [] [4] ?_
  refine aO [9] [] 10 ?_
  refine Sb 0 [] 3 fun w1_10 hM1_10 => ?_
  refine os 0 [] [4] ?_
  refine an [] [] ?_
  refine EG 1 [] ?_
  refine PG (vs := [.agg #[.slice (A11_2) ((((p).k.l)).length) (c11_2), .slice (A11_5) ((((p).c.l)).length) (c11_5), .slice (A11_8) ((((p).v.l)).length) (c11_8)]]) (ResV.cell (l := [.slice (A11_2) ((((p).k.l)).length) (c11_2), .slice (A11_5) ((((p).c.l)).length) (c11_5), .slice (A11_8) ((((p).v.l)).length) (c11_8)]) rfl (mem_blk (i := 3) (j := 0) hM1_10 rfl rfl) el39 rfl ResV.nil) ?_
  have hq1 : (((p).k.l) : List Int) = (p).k.l := (by first | rfl | simp | (simp; omega))
  have hMn1 := hM1_10.reM 2 hq1
  have hq2 : (((p).c.l) : List Int) = (p).c.l := (by first | rfl | simp | (simp; omega))
  have hMn2 := hMn1.reM 1 hq2
  have hq3 : (((p).v.l) : List Int) = (p).v.l := (by first | rfl | simp | (simp; omega))
  have hMn3 := hMn2.reM 0 hq3
  exact ⟨A11_2, c11_2, A11_5, c11_5, A11_8, c11_8, (by first | rfl | exact sl_congr (by first | omega | (simp; done) | (simp; omega)) | (simp; done)), (hMn3.pk [2, 1, 0])⟩
set_option maxHeartbeats 2000000 in
theorem scopyTree_fn (T : TreeL) (w : World) (hNT : TrN w T) (hs : SzT T) :
    Does Tryd.prog 85 [.agg #[I ((T).root), .slice ((T).A) ((T).l.length) ((T).cp)]] w (fun v w1 => ∃ (L1 : List PgL) (A1 : Option Addr) (c1 : Nat), v = .agg #[I ((T).root), .slice (A1) ((L1).length) (c1)] ∧ (tsG L1 = tsG (T).l) ∧ Mem w w1 [] [[⟨.slice (A1) ((L1).length) (c1), 39, 3, ((L1).length), (L1).flatMap encPg⟩], (L1).flatMap (pgF 3)]) := by
  have hM : Mem w w [] [] := Mem.refl
  refine Does.nG (rs := [.cell 2 25]) Tryd.func85 rfl Tryd.results85 Tryd.ntmps85 rfl ?_
  have hs1 := hs.1
  refine Bx 2 [] fun w0_0 b0_0 hb0_0 hM0_0 => ?_
  refine Al 0 [] fun w0_1 b0_1 hb0_1 hM0_1 => ?_
  refine Lt 5 [1] (([]).flatMap encPg) (fun w1_2 b1_2 hb1_2 hM1_2 => ?_)
  refine Al 1 [] fun w1_4 b1_4 hb1_4 hM1_4 => ?_
  refine Sb 0 [] 0 fun w1_5 hM1_5 => ?_
  have hMk1 := Mem.gnil (e := 3) hM1_5
  have hq2 : ([] : List PgL) = ([] : List PgL) := (by first | rfl | simp | (simp; omega))
  have hMn2 := hMk1.reF 2 hq2 (f := encPg)
  refine lp4 7 [] (fun (k : Nat) (Ch : List PgL) (A2 : Option Addr) (c2 : Nat) => ([(4, Vi (((k : Nat) : Int)))] : List (Nat × SV))) (fun (k : Nat) (Ch : List PgL) (A2 : Option Addr) (c2 : Nat) => (k ≤ (T).l.length) ∧ (tsG Ch = (tsG (T).l).take k)) (fun (k : Nat) (Ch : List PgL) (A2 : Option Addr) (c2 : Nat) => [(Ch).flatMap (pgF 3), [⟨.slice (bl b1_4) 1 1, 25, 2, 1, [I ((T).root), .slice (A2) ((Ch).length) (c2)]⟩], [⟨.slice (A2) ((Ch).length) (c2), 39, 3, ((Ch).length), (Ch).flatMap encPg⟩]]) (fun (k : Nat) (Ch : List PgL) (A2 : Option Addr) (c2 : Nat) => (T).l.length - k) [1, 2, 3] [0, 1, 2] [3, 4] 0 (([] : List PgL) : List PgL) (bl b1_2) 0 (fun k Ch A2 c2 σ w_l3 hI hM_l3 => ?_) (h0 := ⟨(Nat.zero_le _), (by (try dsimp only); simp)⟩)
  obtain ⟨hi0_l3, hi1_l3⟩ := hI
  have hcl2_l3 := (hM_l3.cap 2 rfl).1
  have hCl := tsg_len hi1_l3 hi0_l3
  refine cd 9 [4] (fun c13 => ?_) (fun c13 => ?_)
  · refine any 3 [] 12 [0, 3, 4] fun w5a hM5a => ?_
    have hx5_5 : k < ((T).l).length := (by first | omega | (simp; omega))
    refine av [0, 2, 3, 4] [2] 5 (a := by exact fun _ hw2 => kixF hx5_5 (hNT.at hM5a).1) (b := ?_)
    refine aT [] [] 1 6 ?_ ?_
    · refine os 1 [1] [0, 3, 4] ?_
      refine aO [] [] 6 ?_
      refine ov 0 [] (a := kldN hx5_5 (hNT.at hM5a).1) (b := ?_)
      refine os 0 [] [0, 3, 4] ?_
      refine aO [] [] 7 ?_
      refine cq 0 [] (b := copyPage_fn (((T).l)[k]'hx5_5) w5a (((hNT.at hM5a)).2.get hx5_5) (by exact hs.at hx5_5)) (c := ?_)
      rintro _ w5_7 ⟨A15_7, c15_7, A25_7, c25_7, A35_7, c35_7, rfl, hR5_7⟩
      have hM5_7 := hM5a.cl 0 hR5_7
      have hcr5_7_0 := (hM5_7.cap 0 rfl).1
      have hcr5_7_1 := (hM5_7.cap 1 rfl).1
      have hcr5_7_2 := (hM5_7.cap 2 rfl).1
      refine os 0 [] [3, 6, 7] ?_
      refine aO [] [] 8 ?_
      let p1_ : PgL := (⟨⟨A15_7, c15_7, ((((T).l)[k]'hx5_5)).k.l⟩, ⟨A25_7, c25_7, ((((T).l)[k]'hx5_5)).c.l⟩, ⟨A35_7, c35_7, ((((T).l)[k]'hx5_5)).v.l⟩⟩ : PgL)
      refine Lt 0 [] (([p1_]).flatMap encPg) (fun w5_8 b5_8 hb5_8 hM5_8 => ?_)
      refine os 0 [] [4, 7, 8] ?_
      refine aO [] [] 9 ?_
      refine aF 0 [] 6 (hM5_8.rd 0 rfl) (fun w5_9 A5_9 c5_9 hc5_9 hM5_9 => ?_)
      refine os 0 [] [4, 7, 8] ?_
      refine aO [10] [] 11 ?_
      refine Sb 0 [] 5 fun w5_11 hM5_11 => ?_
      refine os 0 [] [4, 7, 8] ?_
      refine an [] [] ?_
      have hMk4 := Mem.gapp (k := ⟨A15_7, c15_7, ((((T).l)[k]'hx5_5)).k.l⟩) (c := ⟨A25_7, c25_7, ((((T).l)[k]'hx5_5)).c.l⟩) (v := ⟨A35_7, c35_7, ((((T).l)[k]'hx5_5)).v.l⟩) (hM5_11.pk [4, 1, 2, 3, 0, 5, 6, 7, 8])
      refine ov 2 [] (a := kaddN (k + 1)) (b := ?_)
      have hq5 : (Ch ++ [p1_] : List PgL) = (Ch ++ [p1_]) := (by first | rfl | simp | (simp; omega))
      have hMn5 := hMk4.reF 3 hq5
      exact le4 2 [] (k + 1) (Ch ++ [p1_]) A5_9 c5_9 [0, 2, 3, 4, 5] (h := by exact ⟨(by (try dsimp only); omega), (tsg_snoc hi1_l3 hx5_5 rfl)⟩)
    refine ov 0 [] (a := kldN hx5_5 (hNT.at hM5a).1) (b := ?_)
    refine os 0 [] [0, 3, 4] ?_
    refine aT [] [] 1 7 ?_ ?_
    · refine os 1 [1] [0, 3, 4] ?_
      refine aO [] [] 7 ?_
      refine cq 0 [] (b := copyPage_fn (((T).l)[k]'hx5_5) w5a (((hNT.at hM5a)).2.get hx5_5) (by exact hs.at hx5_5)) (c := ?_)
      rintro _ w5_7 ⟨A15_7, c15_7, A25_7, c25_7, A35_7, c35_7, rfl, hR5_7⟩
      have hM5_7 := hM5a.cl 0 hR5_7
      have hcr5_7_0 := (hM5_7.cap 0 rfl).1
      have hcr5_7_1 := (hM5_7.cap 1 rfl).1
      have hcr5_7_2 := (hM5_7.cap 2 rfl).1
      refine os 0 [] [3, 6, 7] ?_
      refine aO [] [] 8 ?_
      let p2_ : PgL := (⟨⟨A15_7, c15_7, ((((T).l)[k]'hx5_5)).k.l⟩, ⟨A25_7, c25_7, ((((T).l)[k]'hx5_5)).c.l⟩, ⟨A35_7, c35_7, ((((T).l)[k]'hx5_5)).v.l⟩⟩ : PgL)
      refine Lt 0 [] (([p2_]).flatMap encPg) (fun w5_8 b5_8 hb5_8 hM5_8 => ?_)
      refine os 0 [] [4, 7, 8] ?_
      refine aO [] [] 9 ?_
      refine aF 0 [] 6 (hM5_8.rd 0 rfl) (fun w5_9 A5_9 c5_9 hc5_9 hM5_9 => ?_)
      refine os 0 [] [4, 7, 8] ?_
      refine aO [10] [] 11 ?_
      refine Sb 0 [] 5 fun w5_11 hM5_11 => ?_
      refine os 0 [] [4, 7, 8] ?_
      refine an [] [] ?_
      have hMk7 := Mem.gapp (k := ⟨A15_7, c15_7, ((((T).l)[k]'hx5_5)).k.l⟩) (c := ⟨A25_7, c25_7, ((((T).l)[k]'hx5_5)).c.l⟩) (v := ⟨A35_7, c35_7, ((((T).l)[k]'hx5_5)).v.l⟩) (hM5_11.pk [4, 1, 2, 3, 0, 5, 6, 7, 8])
      refine ov 2 [] (a := kaddN (k + 1)) (b := ?_)
      have hq8 : (Ch ++ [p2_] : List PgL) = (Ch ++ [p2_]) := (by first | rfl | simp | (simp; omega))
      have hMn8 := hMk7.reF 3 hq8
      exact le4 2 [] (k + 1) (Ch ++ [p2_]) A5_9 c5_9 [0, 2, 3, 4, 5] (h := by exact ⟨(by (try dsimp only); omega), (tsg_snoc hi1_l3 hx5_5 rfl)⟩)
    refine cq 0 [] (b := copyPage_fn (((T).l)[k]'hx5_5) w5a (((hNT.at hM5a)).2.get hx5_5) (by exact hs.at hx5_5)) (c := ?_)
    rintro _ w5_7 ⟨A15_7, c15_7, A25_7, c25_7, A35_7, c35_7, rfl, hR5_7⟩
    have hM5_7 := hM5a.cl 0 hR5_7
    have hcr5_7_0 := (hM5_7.cap 0 rfl).1
    have hcr5_7_1 := (hM5_7.cap 1 rfl).1
    have hcr5_7_2 := (hM5_7.cap 2 rfl).1
    refine os 0 [] [3, 6, 7] ?_
    refine aT [] [] 1 8 ?_ ?_
    · refine os 1 [4] [3, 6, 7] ?_
      refine aO [] [] 8 ?_
      let p3_ : PgL := (⟨⟨A15_7, c15_7, ((((T).l)[k]'hx5_5)).k.l⟩, ⟨A25_7, c25_7, ((((T).l)[k]'hx5_5)).c.l⟩, ⟨A35_7, c35_7, ((((T).l)[k]'hx5_5)).v.l⟩⟩ : PgL)
      refine Lt 0 [] (([p3_]).flatMap encPg) (fun w5_8 b5_8 hb5_8 hM5_8 => ?_)
      refine os 0 [] [4, 7, 8] ?_
      refine aO [] [] 9 ?_
      refine aF 0 [] 6 (hM5_8.rd 0 rfl) (fun w5_9 A5_9 c5_9 hc5_9 hM5_9 => ?_)
      refine os 0 [] [4, 7, 8] ?_
      refine aO [10] [] 11 ?_
      refine Sb 0 [] 5 fun w5_11 hM5_11 => ?_
      refine os 0 [] [4, 7, 8] ?_
      refine an [] [] ?_
      have hMk10 := Mem.gapp (k := ⟨A15_7, c15_7, ((((T).l)[k]'hx5_5)).k.l⟩) (c := ⟨A25_7, c25_7, ((((T).l)[k]'hx5_5)).c.l⟩) (v := ⟨A35_7, c35_7, ((((T).l)[k]'hx5_5)).v.l⟩) (hM5_11.pk [4, 1, 2, 3, 0, 5, 6, 7, 8])
      refine ov 2 [] (a := kaddN (k + 1)) (b := ?_)
      have hq11 : (Ch ++ [p3_] : List PgL) = (Ch ++ [p3_]) := (by first | rfl | simp | (simp; omega))
      have hMn11 := hMk10.reF 3 hq11
      exact le4 2 [] (k + 1) (Ch ++ [p3_]) A5_9 c5_9 [0, 2, 3, 4, 5] (h := by exact ⟨(by (try dsimp only); omega), (tsg_snoc hi1_l3 hx5_5 rfl)⟩)
    let p4_ : PgL := (⟨⟨A15_7, c15_7, ((((T).l)[k]'hx5_5)).k.l⟩, ⟨A25_7, c25_7, ((((T).l)[k]'hx5_5)).c.l⟩, ⟨A35_7, c35_7, ((((T).l)[k]'hx5_5)).v.l⟩⟩ : PgL)
    refine Lt 0 [] (([p4_]).flatMap encPg) (fun w5_8 b5_8 hb5_8 hM5_8 => ?_)
    refine os 0 [] [4, 7, 8] ?_
    refine aO [] [] 1 ?_
    refine os 1 [5] [4, 7, 8] ?_
    refine aO [] [] 9 ?_
    refine aF 0 [] 6 (hM5_8.rd 0 rfl) (fun w5_9 A5_9 c5_9 hc5_9 hM5_9 => ?_)
    refine os 0 [] [4, 7, 8] ?_
    refine aO [10] [] 11 ?_
    refine Sb 0 [] 5 fun w5_11 hM5_11 => ?_
    refine os 0 [] [4, 7, 8] ?_
    refine an [] [] ?_
    have hMk13 := Mem.gapp (k := ⟨A15_7, c15_7, ((((T).l)[k]'hx5_5)).k.l⟩) (c := ⟨A25_7, c25_7, ((((T).l)[k]'hx5_5)).c.l⟩) (v := ⟨A35_7, c35_7, ((((T).l)[k]'hx5_5)).v.l⟩) (hM5_11.pk [4, 1, 2, 3, 0, 5, 6, 7, 8])
    refine ov 2 [] (a := kaddN (k + 1)) (b := ?_)
    have hq14 : (Ch ++ [p4_] : List PgL) = (Ch ++ [p4_]) := (by first | rfl | simp | (simp; omega))
    have hMn14 := hMk13.reF 3 hq14
    exact le4 2 [] (k + 1) (Ch ++ [p4_]) A5_9 c5_9 [0, 2, 3, 4, 5] (h := by exact ⟨(by (try dsimp only); omega), (tsg_snoc hi1_l3 hx5_5 rfl)⟩)
  refine Sb 4 [1] 3 fun w6_1 hM6_1 => ?_
  refine EG 2 [] ?_
  refine PG (vs := [.agg #[I ((T).root), .slice (A2) ((Ch).length) (c2)]]) (ResV.cell (l := [I ((T).root), .slice (A2) ((Ch).length) (c2)]) rfl (mem_blk (i := 3) (j := 0) hM6_1 rfl rfl) el25 rfl ResV.nil) ?_
  have hke : k = (T).l.length := by omega
  rw [hke, List.take_of_length_le (by simp)] at hi1_l3
  exact ⟨Ch, A2, c2, (by first | rfl | exact sl_congr (by first | omega | (simp; done) | (simp; omega)) | (simp; done)), hi1_l3, (hM6_1.pk [2, 0])⟩
theorem leafOf_fn (A : Option Addr) (c : Nat) (l : List PairT) (w : World) (hA : Rd w A ((l).flatMap encP)) (hl : l.length ≤ 1048576) (hc : l.length ≤ c) :
    Does Tryd.prog 71 [.slice (A) ((l).length) (c)] w (fun v w1 => ∃ (A1 : Option Addr) (c1 : Nat) (A2 : Option Addr) (c2 : Nat) (A3 : Option Addr) (c3 : Nat), v = .agg #[.slice (A1) ((keysP l).length) (c1), .slice (A2) ((([] : List Int)).length) (c2), .slice (A3) ((l.map PairT.val).length) (c3)] ∧ Mem w w1 [] [[⟨.slice (A1) ((keysP l).length) (c1), 3, 1, ((keysP l).length), (keysP l).map I⟩], [⟨.slice (A2) ((([] : List Int)).length) (c2), 3, 1, ((([] : List Int)).length), (([] : List Int)).map I⟩], [⟨.slice (A3) ((l.map PairT.val).length) (c3), 3, 1, ((l.map PairT.val).length), (l.map PairT.val).map I⟩]]) := by
  have hM : Mem w w [] [] := Mem.refl
  refine Does.nG (rs := [.cell 2 39]) Tryd.func71 rfl Tryd.results71 Tryd.ntmps71 rfl ?_
  refine Al 2 [] fun w0_0 b0_0 hb0_0 hM0_0 => ?_
  refine cq 4 [] (b := skeysOf_fn _ _ _ w0_0 (hA.at hM0_0) q0) (c := ?_)
  rintro _ w1_1 ⟨A11_1, c11_1, rfl, hR1_1⟩
  have hM1_1 := hM0_0.cl 0 hR1_1
  have hcr1_1_0 := (hM1_1.cap 0 rfl).1
  refine Lt 0 [] (([]).map I) (fun w1_2 b1_2 hb1_2 hM1_2 => ?_)
  refine Lt 0 [] (([]).map I) (fun w1_3 b1_3 hb1_3 hM1_3 => ?_)
  refine Al 1 [] fun w1_5 b1_5 hb1_5 hM1_5 => ?_
  refine Sb 0 [] 0 fun w1_6 hM1_6 => ?_
  have hq1 : ([] : List Int) = (l.take 0).map PairT.val := (by simp)
  have hMn1 := hM1_6.reM 1 hq1 (f := I)
  have hMn2 := hMn1.reB 0 2 (show 0 = ((l.take 0).map PairT.val).length from congrArg List.length hq1)
  refine lp3 7 [] (fun (k : Nat) (A2 : Option Addr) (c2 : Nat) => ([(4, Vi (((k : Nat) : Int)))] : List (Nat × SV))) (fun (k : Nat) (A2 : Option Addr) (c2 : Nat) => (k ≤ l.length)) (fun (k : Nat) (A2 : Option Addr) (c2 : Nat) => [[⟨.slice (bl b1_5) 1 1, 39, 3, 1, [.slice (A11_1) ((keysP l).length) (c11_1), .slice (bl b1_2) (0) (0), .slice (A2) (((l.take k).map PairT.val).length) (c2)]⟩], [⟨.slice (A2) (((l.take k).map PairT.val).length) (c2), 3, 1, (((l.take k).map PairT.val).length), ((l.take k).map PairT.val).map I⟩]]) (fun (k : Nat) (A2 : Option Addr) (c2 : Nat) => l.length - k) [0, 2, 3] [0, 1] [2, 3, 4] 0 (bl b1_3) 0 (fun k A2 c2 σ w_l3 hI hM_l3 => ?_) (h0 := (Nat.zero_le _))
  have hi0_l3 := hI
  have hcl1_l3 := (hM_l3.cap 1 rfl).1
  have hcl2_l3 := (hM_l3.cap 2 rfl).1
  have hcl3_l3 := (hM_l3.cap 3 rfl).1
  refine cd 8 [] (fun c13 => ?_) (fun c13 => ?_)
  · refine any 3 [] 11 [2, 3, 4] fun w5a hM5a => ?_
    have hx5_4 : k < (l).length := (by first | omega | (simp; omega))
    refine av [0, 2, 3] [] 4 (a := by exact fun _ hw2 => kixF hx5_4 (hA.at hM5a)) (b := ?_)
    refine av [] [] 5 (a := by exact fun _ hw2 => kflF hx5_4 (hA.at hM5a)) (b := ?_)
    refine av [] [] 6 (a := by exact fun _ hw2 => kldF hx5_4 (hA.at hw2)) (b := ?_)
    refine aT [] [] 1 7 ?_ ?_
    · refine os 1 [0] [2, 3, 4] ?_
      refine aO [] [] 7 ?_
      refine Lt 0 [] (([((l)[k]'hx5_4).val]).map I) (fun w5_7 b5_7 hb5_7 hM5_7 => ?_)
      refine os 0 [] [3, 4, 5] ?_
      refine aO [] [] 8 ?_
      refine aM 0 [] 2 (hM5_7.rd 0 rfl) (fun w5_8 A5_8 c5_8 hc5_8 hM5_8 => ?_) (hn := by first | omega | (simp; omega)) (hb := by first | omega | (simp; omega))
      refine os 0 [] [3, 4, 5] ?_
      refine aO [9] [] 10 ?_
      refine Sb 0 [] 1 fun w5_10 hM5_10 => ?_
      refine os 0 [] [3, 4, 5] ?_
      refine an [] [] ?_
      refine ov 2 [] (a := kaddN (k + 1)) (b := ?_)
      have hq3 : ((l.take k).map PairT.val ++ [((l)[k]'hx5_4).val] : List Int) = (l.take (k + 1)).map PairT.val := (map_snoc hx5_4)
      have hMn3 := hM5_10.reM 2 hq3
      have hMn4 := hMn3.reB 1 2 (show ((l.take k).map PairT.val ++ [((l)[k]'hx5_4).val]).length = ((l.take (k + 1)).map PairT.val).length from congrArg List.length hq3)
      exact le3 2 [] (k + 1) A5_8 c5_8 [1, 2, 3, 4, 5] (h := by exact (by (try dsimp only); omega))
    refine Lt 0 [] (([((l)[k]'hx5_4).val]).map I) (fun w5_7 b5_7 hb5_7 hM5_7 => ?_)
    refine os 0 [] [3, 4, 5] ?_
    refine aO [] [] 1 ?_
    refine os 1 [1] [3, 4, 5] ?_
    refine aO [] [] 8 ?_
    refine aM 0 [] 2 (hM5_7.rd 0 rfl) (fun w5_8 A5_8 c5_8 hc5_8 hM5_8 => ?_) (hn := by first | omega | (simp; omega)) (hb := by first | omega | (simp; omega))
    refine os 0 [] [3, 4, 5] ?_
    refine aO [9] [] 10 ?_
    refine Sb 0 [] 1 fun w5_10 hM5_10 => ?_
    refine os 0 [] [3, 4, 5] ?_
    refine an [] [] ?_
    refine ov 2 [] (a := kaddN (k + 1)) (b := ?_)
    have hq5 : ((l.take k).map PairT.val ++ [((l)[k]'hx5_4).val] : List Int) = (l.take (k + 1)).map PairT.val := (map_snoc hx5_4)
    have hMn5 := hM5_10.reM 2 hq5
    have hMn6 := hMn5.reB 1 2 (show ((l.take k).map PairT.val ++ [((l)[k]'hx5_4).val]).length = ((l.take (k + 1)).map PairT.val).length from congrArg List.length hq5)
    exact le3 2 [] (k + 1) A5_8 c5_8 [1, 2, 3, 4, 5] (h := by exact (by (try dsimp only); omega))
  refine Sb 4 [0] 4 fun w6_1 hM6_1 => ?_
  refine EG 2 [] ?_
  refine PG (vs := [.agg #[.slice (A11_1) ((keysP l).length) (c11_1), .slice (bl b1_2) (0) (0), .slice (A2) (((l.take k).map PairT.val).length) (c2)]]) (ResV.cell (l := [.slice (A11_1) ((keysP l).length) (c11_1), .slice (bl b1_2) (0) (0), .slice (A2) (((l.take k).map PairT.val).length) (c2)]) rfl (mem_blk (i := 4) (j := 0) hM6_1 rfl rfl) el39 rfl ResV.nil) ?_
  have hq7 : ([] : List Int) = ([] : List Int) := (by first | rfl | simp | (simp; omega))
  have hMn7 := hM6_1.reM 2 hq7 (f := I)
  have hq8 : ((l.take k).map PairT.val : List Int) = l.map PairT.val := (by rw [List.take_of_length_le (by omega)])
  have hMn8 := hMn7.reM 1 hq8
  exact ⟨A11_1, c11_1, bl b1_2, 0, A2, c2, (by rw [List.take_of_length_le (by omega)]; rfl), (hMn8.pk [3, 2, 1])⟩
theorem insideOf_fn (p : PgL) (w : World) (hNp : PgN w p) :
    Does Tryd.prog 89 [.agg #[.slice ((p).k.A) ((p).k.l.length) ((p).k.cp), .slice ((p).c.A) ((p).c.l.length) ((p).c.cp), .slice ((p).v.A) ((p).v.l.length) ((p).v.cp)]] w (fun v w1 => v = .agg #[.slice ((p).k.A) ((p).k.l.length) ((p).k.cp), .slice ((p).c.A) ((p).c.l.length) ((p).c.cp)] ∧ Mem w w1 [] []) := by
  have hM : Mem w w [] [] := Mem.refl
  refine Does.nG (rs := [.cell 2 98]) Tryd.func89 rfl Tryd.results89 Tryd.ntmps89 rfl ?_
  refine Bx 2 [] fun w0_0 b0_0 hb0_0 hM0_0 => ?_
  refine Al 0 [] fun w0_1 b0_1 hb0_1 hM0_1 => ?_
  refine Sb 8 [1, 1] 0 fun w1_5 hM1_5 => ?_
  refine EG 2 [] ?_
  refine PG (vs := [.agg #[.slice ((p).k.A) ((p).k.l.length) ((p).k.cp), .slice ((p).c.A) ((p).c.l.length) ((p).c.cp)]]) (ResV.cell (l := [.slice ((p).k.A) ((p).k.l.length) ((p).k.cp), .slice ((p).c.A) ((p).c.l.length) ((p).c.cp)]) rfl (mem_blk (i := 0) (j := 0) hM1_5 rfl rfl) el98 rfl ResV.nil) ?_
  exact ⟨rfl, (Mem.none hM1_5)⟩
theorem innerOf_fn (KA : Option Addr) (kc : Nat) (kl : List Int) (CA : Option Addr) (cc : Nat) (cl : List Int) (w : World) (hRK : Rd w KA ((kl).map I)) (hRC : Rd w CA ((cl).map I)) :
    Does Tryd.prog 72 [.agg #[.slice (KA) ((kl).length) (kc), .slice (CA) ((cl).length) (cc)]] w (fun v w1 => ∃ (A1 : Option Addr) (c1 : Nat), v = .agg #[.slice (KA) ((kl).length) (kc), .slice (CA) ((cl).length) (cc), .slice (A1) (([] : List Int).length) (c1)] ∧ Mem w w1 [] [[⟨.slice (A1) ((([] : List Int)).length) (c1), 3, 1, ((([] : List Int)).length), (([] : List Int)).map I⟩]]) := by
  have hM : Mem w w [] [] := Mem.refl
  refine Does.nG (rs := [.cell 2 39]) Tryd.func72 rfl Tryd.results72 Tryd.ntmps72 rfl ?_
  refine Bx 2 [] fun w0_0 b0_0 hb0_0 hM0_0 => ?_
  refine Al 0 [] fun w0_1 b0_1 hb0_1 hM0_1 => ?_
  refine Lt 7 [1, 1] (([]).map I) (fun w1_4 b1_4 hb1_4 hM1_4 => ?_)
  refine Sb 1 [] 1 fun w1_6 hM1_6 => ?_
  refine EG 2 [] ?_
  refine PG (vs := [.agg #[.slice (KA) ((kl).length) (kc), .slice (CA) ((cl).length) (cc), .slice (bl b1_4) (0) (0)]]) (ResV.cell (l := [.slice (KA) ((kl).length) (kc), .slice (CA) ((cl).length) (cc), .slice (bl b1_4) (0) (0)]) rfl (mem_blk (i := 1) (j := 0) hM1_6 rfl rfl) el39 rfl ResV.nil) ?_
  have hq1 : ([] : List Int) = ([] : List Int) := (by first | rfl | simp | (simp; omega))
  have hMn1 := hM1_6.reM 0 hq1 (f := I)
  exact ⟨bl b1_4, 0, (by first | rfl | exact sl_congr (by first | omega | (simp; done) | (simp; omega)) | (simp; done)), (hMn1.pk [0])⟩
theorem placeOf_fn (A : Option Addr) (c : Nat) (l : List Int) (n : Int) (w : World) (hA : Rd w A ((l).map I)) (hl : l.length ≤ 1048576) :
    Does Tryd.prog 57 [.slice (A) ((l).length) (c), I (n)] w (fun v w1 => v = I (plcI l n) ∧ Mem w w1 [] []) := by
  have hM : Mem w w [] [] := Mem.refl
  refine Does.n1 Tryd.func57 rfl Tryd.results57 Tryd.ntmps57 rfl ?_
  refine lp1 10 [] (fun (k : Nat) => ([(5, Vi (((k : Nat) : Int)))] : List (Nat × SV))) (fun (k : Nat) => (k ≤ l.length) ∧ (∀ x ∈ l.take k, x ≠ n)) (fun (k : Nat) => []) (fun (k : Nat) => l.length - k) [0, 1] [] [] 0 (fun k σ w_l2 hI hM_l2 => ?_) (h0 := ⟨(Nat.zero_le _), (by (try dsimp only); simp)⟩)
  obtain ⟨hi0_l2, hi1_l2⟩ := hI
  refine cd 8 [] (fun c9 => ?_) (fun c9 => ?_)
  · have hx4_2 : k < (l).length := (by first | omega | (simp; omega))
    refine ov 7 [] (a := kixM hx4_2 (hA.at hM_l2)) (b := ?_)
    refine ov 0 [] (a := kldM hx4_2 (hA.at hM_l2)) (b := ?_)
    refine cd 3 [] (fun c17 => ?_) (fun c17 => ?_)
    · refine E1 6 [] (I (((k : Nat) : Int))) ?_
      exact ⟨(I_congr (by rw [plcI_at hx4_2 c17 hi1_l2])), (Mem.none hM_l2)⟩
    refine ov 3 [] (a := kaddN (k + 1)) (b := ?_)
    exact le1 2 [] (k + 1) [] (h := by exact ⟨(by (try dsimp only); omega), (mem_step hi1_l2 hx4_2 c17)⟩)
  refine E1 6 [] (I ((-1))) ?_
  exact ⟨(I_congr (by rw [plcI_no (by have := hi1_l2; rwa [List.take_of_length_le (by omega)] at this)])), (Mem.none hM_l2)⟩
set_option maxHeartbeats 2000000 in
theorem splitInner_fn (KA : Option Addr) (kc : Nat) (kl : List Int) (CA : Option Addr) (cc : Nat) (cl : List Int) (w : World) (hRK : Rd w KA ((kl).map I)) (hRC : Rd w CA ((cl).map I)) (hcp : (kl).length ≤ kc ∧ (cl).length ≤ cc) (h1 : 1 ≤ (kl).length ∧ (kl).length ≤ 1000) (h2 : (cl).length = (kl).length + 1) :
    Does Tryd.prog 88 [.agg #[.slice (KA) ((kl).length) (kc), .slice (CA) ((cl).length) (cc)]] w (fun v w1 => ∃ (A1 : Option Addr) (c1 : Nat) (A2 : Option Addr) (c2 : Nat) (A3 : Option Addr) (c3 : Nat) (A4 : Option Addr) (c4 : Nat), v = .tuple #[.agg #[.slice (A1) (((kl).take ((kl).length / 2)).length) (c1), .slice (A2) (((cl).take ((kl).length / 2 + 1)).length) (c2)], I ((kl).getD ((kl).length / 2) 0), .agg #[.slice (A3) (((kl).drop ((kl).length / 2 + 1)).length) (c3), .slice (A4) (((cl).drop ((kl).length / 2 + 1)).length) (c4)]] ∧ Mem w w1 [] [[⟨.slice (A1) (((kl).take ((kl).length / 2)).length) (c1), 3, 1, (((kl).take ((kl).length / 2)).length), ((kl).take ((kl).length / 2)).map I⟩], [⟨.slice (A2) (((cl).take ((kl).length / 2 + 1)).length) (c2), 3, 1, (((cl).take ((kl).length / 2 + 1)).length), ((cl).take ((kl).length / 2 + 1)).map I⟩], [⟨.slice (A3) (((kl).drop ((kl).length / 2 + 1)).length) (c3), 3, 1, (((kl).drop ((kl).length / 2 + 1)).length), ((kl).drop ((kl).length / 2 + 1)).map I⟩], [⟨.slice (A4) (((cl).drop ((kl).length / 2 + 1)).length) (c4), 3, 1, (((cl).drop ((kl).length / 2 + 1)).length), ((cl).drop ((kl).length / 2 + 1)).map I⟩]]) := by
  have hM : Mem w w [] [] := Mem.refl
  refine Does.nG (rs := [.cell 2 98, .tmp 3, .cell 4 98]) Tryd.func88 rfl Tryd.results88 Tryd.ntmps88 rfl ?_
  refine Bx 2 [] fun w0_0 b0_0 hb0_0 hM0_0 => ?_
  refine Al 0 [] fun w0_1 b0_1 hb0_1 hM0_1 => ?_
  refine Al 1 [] fun w0_3 b0_3 hb0_3 hM0_3 => ?_
  refine ov 6 [2] (a := kquoN ((kl).length / 2)) (b := ?_)
  refine ct5 2 [] (fun (bx6 : Nat) (P6_0 : Option Addr) (p6_0 : Nat) (P6_1 : Option Addr) (p6_1 : Nat) => ([(6, Vp (bl bx6) (0))] : List (Nat × SV))) (fun (bx6 : Nat) (P6_0 : Option Addr) (p6_0 : Nat) (P6_1 : Option Addr) (p6_1 : Nat) => True) (fun (bx6 : Nat) (P6_0 : Option Addr) (p6_0 : Nat) (P6_1 : Option Addr) (p6_1 : Nat) => [[⟨.slice (bl bx6) 1 1, 98, 2, 1, [.slice (P6_0) (((kl).take ((kl).length / 2)).length) (p6_0), .slice (P6_1) (((cl).take ((kl).length / 2 + 1)).length) (p6_1)]⟩], [⟨.slice (P6_0) (((kl).take ((kl).length / 2)).length) (p6_0), 3, 1, (((kl).take ((kl).length / 2)).length), ((kl).take ((kl).length / 2)).map I⟩], [⟨.slice (P6_1) (((cl).take ((kl).length / 2 + 1)).length) (p6_1), 3, 1, (((cl).take ((kl).length / 2 + 1)).length), ((cl).take ((kl).length / 2 + 1)).map I⟩]]) [1, 2, 4, 5] [0, 1, 2] ?_ (fun bx6 P6_0 p6_0 P6_1 p6_1 σ w_r2 hI hM_r2 => ?_)
  · refine any 0 [] 14 [0, 1, 2] fun w2a hM2a => ?_
    refine av [0, 1, 2] [2] 3 (s := Vl (KA) (((kl).take (((kl).length / 2))).length) (kc)) (a := by exact fun w2 hw2 => cv (Ru.congr (v := .slice (KA) (((kl).length / 2)) (kc)) (v' := .slice (KA) (((kl).take (((kl).length / 2))).length) (kc)) (Ru.lsliceTo (h := ((kl).length / 2)) Tryd.underlying29 el3 rfl rfl (by omega) (by omega)) (sl_congr (by first | rfl | (simp; done) | omega | (simp; omega)))) rfl) (b := ?_)
    refine av [5, 6, 7] [2] 8 (a := by exact fun _ hw2 => kaddN (((kl).length / 2) + 1)) (b := ?_)
    refine av [] [] 9 (s := Vl (CA) (((cl).take ((((kl).length / 2) + 1))).length) (cc)) (a := by exact fun w2 hw2 => cv (Ru.congr (v := .slice (CA) ((((kl).length / 2) + 1)) (cc)) (v' := .slice (CA) (((cl).take ((((kl).length / 2) + 1))).length) (cc)) (Ru.lsliceTo (h := (((kl).length / 2) + 1)) Tryd.underlying29 el3 rfl rfl (by omega) (by omega)) (sl_congr (by first | rfl | (simp; done) | omega | (simp; omega)))) rfl) (b := ?_)
    refine aT [] [] 4 12 ?_ ?_
    · refine cq 0 [] (b := scopyInts_fn _ _ _ w2a (rd_take1 (hRK.at hM2a)) q0) (c := ?_)
      rintro _ w2_4 ⟨A12_4, c12_4, rfl, hR2_4⟩
      have hM2_4 := hM2a.cl 0 hR2_4
      have hcr2_4_0 := (hM2_4.cap 0 rfl).1
      refine os 0 [] [1, 2, 3] ?_
      refine aT [] [] 10 12 ?_ ?_
      · refine cq 0 [] (b := scopyInts_fn _ _ _ w2_4 (rd_take1 (hRC.at hM2_4)) q0) (c := ?_)
        rintro _ w2_10 ⟨A12_10, c12_10, rfl, hR2_10⟩
        have hM2_10 := hM2_4.cl 0 hR2_10
        have hcr2_10_0 := (hM2_10.cap 0 rfl).1
        refine os 0 [] [2, 3, 4] ?_
        refine aO [11] [] 12 ?_
        refine Al 0 [] fun w2_12 b2_12 hb2_12 hM2_12 => ?_
        refine os 0 [] [3, 4, 5] ?_
        refine aO [] [] 13 ?_
        refine Sb 0 [] 0 fun w2_13 hM2_13 => ?_
        refine os 0 [] [3, 4, 5] ?_
        refine an [] [] ?_
        have hq1 : (((kl).take (((kl).length / 2))) : List Int) = (kl).take ((kl).length / 2) := (by first | rfl | simp | (simp; omega))
        have hMn1 := hM2_13.reM 2 hq1
        have hq2 : (((cl).take ((((kl).length / 2) + 1))) : List Int) = (cl).take ((kl).length / 2 + 1) := (by first | rfl | simp | (simp; omega))
        have hMn2 := hMn1.reM 1 hq2
        exact ce5 0 [] b2_12 A12_4 c12_4 A12_10 c12_10 [0, 2, 1, 3, 4, 5] (h := by exact trivial)
      refine Al 0 [] fun w2_12 b2_12 hb2_12 hM2_12 => ?_
      refine os 0 [] [2, 3, 4] ?_
      refine aO [] [] 10 ?_
      refine cq 0 [] (b := scopyInts_fn _ _ _ w2_12 (rd_take1 (hRC.at hM2_12)) q0) (c := ?_)
      rintro _ w2_10 ⟨A12_10, c12_10, rfl, hR2_10⟩
      have hM2_10 := hM2_12.cl 0 hR2_10
      have hcr2_10_0 := (hM2_10.cap 0 rfl).1
      refine os 0 [] [3, 4, 5] ?_
      refine aO [11] [] 13 ?_
      refine Sb 0 [] 1 fun w2_13 hM2_13 => ?_
      refine os 0 [] [3, 4, 5] ?_
      refine an [] [] ?_
      have hq3 : (((kl).take (((kl).length / 2))) : List Int) = (kl).take ((kl).length / 2) := (by first | rfl | simp | (simp; omega))
      have hMn3 := hM2_13.reM 2 hq3
      have hq4 : (((cl).take ((((kl).length / 2) + 1))) : List Int) = (cl).take ((kl).length / 2 + 1) := (by first | rfl | simp | (simp; omega))
      have hMn4 := hMn3.reM 0 hq4
      exact ce5 0 [] b2_12 A12_4 c12_4 A12_10 c12_10 [1, 2, 0, 3, 4, 5] (h := by exact trivial)
    refine Al 0 [] fun w2_12 b2_12 hb2_12 hM2_12 => ?_
    refine os 0 [] [1, 2, 3] ?_
    refine aO [] [] 4 ?_
    refine cq 0 [] (b := scopyInts_fn _ _ _ w2_12 (rd_take1 (hRK.at hM2_12)) q0) (c := ?_)
    rintro _ w2_4 ⟨A12_4, c12_4, rfl, hR2_4⟩
    have hM2_4 := hM2_12.cl 0 hR2_4
    have hcr2_4_0 := (hM2_4.cap 0 rfl).1
    refine os 0 [] [2, 3, 4] ?_
    refine aO [] [] 10 ?_
    refine cq 0 [] (b := scopyInts_fn _ _ _ w2_4 (rd_take1 (hRC.at hM2_4)) q0) (c := ?_)
    rintro _ w2_10 ⟨A12_10, c12_10, rfl, hR2_10⟩
    have hM2_10 := hM2_4.cl 0 hR2_10
    have hcr2_10_0 := (hM2_10.cap 0 rfl).1
    refine os 0 [] [3, 4, 5] ?_
    refine aO [11] [] 13 ?_
    refine Sb 0 [] 2 fun w2_13 hM2_13 => ?_
    refine os 0 [] [3, 4, 5] ?_
    refine an [] [] ?_
    have hq5 : (((kl).take (((kl).length / 2))) : List Int) = (kl).take ((kl).length / 2) := (by first | rfl | simp | (simp; omega))
    have hMn5 := hM2_13.reM 1 hq5
    have hq6 : (((cl).take ((((kl).length / 2) + 1))) : List Int) = (cl).take ((kl).length / 2 + 1) := (by first | rfl | simp | (simp; omega))
    have hMn6 := hMn5.reM 0 hq6
    exact ce5 0 [] b2_12 A12_4 c12_4 A12_10 c12_10 [2, 1, 0, 3, 4, 5] (h := by exact trivial)
  have hcl1_r2 := (hM_r2.cap 1 rfl).1
  have hcl2_r2 := (hM_r2.cap 2 rfl).1
  refine ct5 0 [] (fun (bx7 : Nat) (P7_0 : Option Addr) (p7_0 : Nat) (P7_1 : Option Addr) (p7_1 : Nat) => ([(7, Vp (bl bx7) (0))] : List (Nat × SV))) (fun (bx7 : Nat) (P7_0 : Option Addr) (p7_0 : Nat) (P7_1 : Option Addr) (p7_1 : Nat) => True) (fun (bx7 : Nat) (P7_0 : Option Addr) (p7_0 : Nat) (P7_1 : Option Addr) (p7_1 : Nat) => [[⟨.slice (bl bx7) 1 1, 98, 2, 1, [.slice (P7_0) (((kl).drop ((kl).length / 2 + 1)).length) (p7_0), .slice (P7_1) (((cl).drop ((kl).length / 2 + 1)).length) (p7_1)]⟩], [⟨.slice (P7_0) (((kl).drop ((kl).length / 2 + 1)).length) (p7_0), 3, 1, (((kl).drop ((kl).length / 2 + 1)).length), ((kl).drop ((kl).length / 2 + 1)).map I⟩], [⟨.slice (P7_1) (((cl).drop ((kl).length / 2 + 1)).length) (p7_1), 3, 1, (((cl).drop ((kl).length / 2 + 1)).length), ((cl).drop ((kl).length / 2 + 1)).map I⟩]]) [1, 2, 4, 5, 6] [0, 1, 2, 3, 4, 5] ?_ (fun bx7 P7_0 p7_0 P7_1 p7_1 σ w_r3 hI hM_r3 => ?_)
  · refine any 0 [] 15 [0, 1, 2, 3, 4, 5] fun w3a hM3a => ?_
    refine av [0, 1, 2] [5] 3 (a := by exact fun _ hw2 => kaddN (((kl).length / 2) + 1)) (b := ?_)
    refine av [] [] 4 (s := Vl (if kc = (((kl).length / 2) + 1) then KA else ofs (KA) ((((kl).length / 2) + 1) * 1)) (((kl).drop ((((kl).length / 2) + 1))).length) (kc - (((kl).length / 2) + 1))) (a := by exact fun w2 hw2 => cv (Ru.congr (v := .slice (if kc = (((kl).length / 2) + 1) then KA else ofs (KA) ((((kl).length / 2) + 1) * 1)) (((kl).length) - (((kl).length / 2) + 1)) (kc - (((kl).length / 2) + 1))) (v' := .slice (if kc = (((kl).length / 2) + 1) then KA else ofs (KA) ((((kl).length / 2) + 1) * 1)) (((kl).drop ((((kl).length / 2) + 1))).length) (kc - (((kl).length / 2) + 1))) (Ru.lsliceFrom (l := (((kl).length / 2) + 1)) Tryd.underlying29 el3 rfl rfl (by omega) (by omega)) (sl_congr (by first | rfl | (simp; done) | omega | (simp; omega)))) rfl) (b := ?_)
    refine av [6, 7, 8] [5] 9 (a := by exact fun _ hw2 => kaddN (((kl).length / 2) + 1)) (b := ?_)
    refine av [] [] 10 (s := Vl (if cc = (((kl).length / 2) + 1) then CA else ofs (CA) ((((kl).length / 2) + 1) * 1)) (((cl).drop ((((kl).length / 2) + 1))).length) (cc - (((kl).length / 2) + 1))) (a := by exact fun w2 hw2 => cv (Ru.congr (v := .slice (if cc = (((kl).length / 2) + 1) then CA else ofs (CA) ((((kl).length / 2) + 1) * 1)) (((cl).length) - (((kl).length / 2) + 1)) (cc - (((kl).length / 2) + 1))) (v' := .slice (if cc = (((kl).length / 2) + 1) then CA else ofs (CA) ((((kl).length / 2) + 1) * 1)) (((cl).drop ((((kl).length / 2) + 1))).length) (cc - (((kl).length / 2) + 1))) (Ru.lsliceFrom (l := (((kl).length / 2) + 1)) Tryd.underlying29 el3 rfl rfl (by omega) (by omega)) (sl_congr (by first | rfl | (simp; done) | omega | (simp; omega)))) rfl) (b := ?_)
    refine aT [] [] 5 13 ?_ ?_
    · refine cq 0 [] (b := scopyInts_fn _ _ _ w3a (rd_drop1 (k := (((kl).length / 2) + 1)) (c := kc) (hRK.at hM3a) q2 q2) q0) (c := ?_)
      rintro _ w3_5 ⟨A13_5, c13_5, rfl, hR3_5⟩
      have hM3_5 := hM3a.cl 0 hR3_5
      have hcr3_5_0 := (hM3_5.cap 0 rfl).1
      refine os 0 [] [1, 2, 3, 4, 5, 6] ?_
      refine aT [] [] 11 13 ?_ ?_
      · refine cq 0 [] (b := scopyInts_fn _ _ _ w3_5 (rd_drop1 (k := (((kl).length / 2) + 1)) (c := cc) (hRC.at hM3_5) q2 q2) q0) (c := ?_)
        rintro _ w3_11 ⟨A13_11, c13_11, rfl, hR3_11⟩
        have hM3_11 := hM3_5.cl 0 hR3_11
        have hcr3_11_0 := (hM3_11.cap 0 rfl).1
        refine os 0 [] [2, 3, 4, 5, 6, 7] ?_
        refine aO [12] [] 13 ?_
        refine Al 0 [] fun w3_13 b3_13 hb3_13 hM3_13 => ?_
        refine os 0 [] [3, 4, 5, 6, 7, 8] ?_
        refine aO [] [] 14 ?_
        refine Sb 0 [] 0 fun w3_14 hM3_14 => ?_
        refine os 0 [] [3, 4, 5, 6, 7, 8] ?_
        refine an [] [] ?_
        have hq7 : (((kl).drop ((((kl).length / 2) + 1))) : List Int) = (kl).drop ((kl).length / 2 + 1) := (by first | rfl | simp | (simp; omega))
        have hMn7 := hM3_14.reM 2 hq7
        have hq8 : (((cl).drop ((((kl).length / 2) + 1))) : List Int) = (cl).drop ((kl).length / 2 + 1) := (by first | rfl | simp | (simp; omega))
        have hMn8 := hMn7.reM 1 hq8
        exact ce5 0 [] b3_13 A13_5 c13_5 A13_11 c13_11 [0, 2, 1, 3, 4, 5, 6, 7, 8] (h := by exact trivial)
      refine Al 0 [] fun w3_13 b3_13 hb3_13 hM3_13 => ?_
      refine os 0 [] [2, 3, 4, 5, 6, 7] ?_
      refine aO [] [] 11 ?_
      refine cq 0 [] (b := scopyInts_fn _ _ _ w3_13 (rd_drop1 (k := (((kl).length / 2) + 1)) (c := cc) (hRC.at hM3_13) q2 q2) q0) (c := ?_)
      rintro _ w3_11 ⟨A13_11, c13_11, rfl, hR3_11⟩
      have hM3_11 := hM3_13.cl 0 hR3_11
      have hcr3_11_0 := (hM3_11.cap 0 rfl).1
      refine os 0 [] [3, 4, 5, 6, 7, 8] ?_
      refine aO [12] [] 14 ?_
      refine Sb 0 [] 1 fun w3_14 hM3_14 => ?_
      refine os 0 [] [3, 4, 5, 6, 7, 8] ?_
      refine an [] [] ?_
      have hq9 : (((kl).drop ((((kl).length / 2) + 1))) : List Int) = (kl).drop ((kl).length / 2 + 1) := (by first | rfl | simp | (simp; omega))
      have hMn9 := hM3_14.reM 2 hq9
      have hq10 : (((cl).drop ((((kl).length / 2) + 1))) : List Int) = (cl).drop ((kl).length / 2 + 1) := (by first | rfl | simp | (simp; omega))
      have hMn10 := hMn9.reM 0 hq10
      exact ce5 0 [] b3_13 A13_5 c13_5 A13_11 c13_11 [1, 2, 0, 3, 4, 5, 6, 7, 8] (h := by exact trivial)
    refine Al 0 [] fun w3_13 b3_13 hb3_13 hM3_13 => ?_
    refine os 0 [] [1, 2, 3, 4, 5, 6] ?_
    refine aO [] [] 5 ?_
    refine cq 0 [] (b := scopyInts_fn _ _ _ w3_13 (rd_drop1 (k := (((kl).length / 2) + 1)) (c := kc) (hRK.at hM3_13) q2 q2) q0) (c := ?_)
    rintro _ w3_5 ⟨A13_5, c13_5, rfl, hR3_5⟩
    have hM3_5 := hM3_13.cl 0 hR3_5
    have hcr3_5_0 := (hM3_5.cap 0 rfl).1
    refine os 0 [] [2, 3, 4, 5, 6, 7] ?_
    refine aO [] [] 11 ?_
    refine cq 0 [] (b := scopyInts_fn _ _ _ w3_5 (rd_drop1 (k := (((kl).length / 2) + 1)) (c := cc) (hRC.at hM3_5) q2 q2) q0) (c := ?_)
    rintro _ w3_11 ⟨A13_11, c13_11, rfl, hR3_11⟩
    have hM3_11 := hM3_5.cl 0 hR3_11
    have hcr3_11_0 := (hM3_11.cap 0 rfl).1
    refine os 0 [] [3, 4, 5, 6, 7, 8] ?_
    refine aO [12] [] 14 ?_
    refine Sb 0 [] 2 fun w3_14 hM3_14 => ?_
    refine os 0 [] [3, 4, 5, 6, 7, 8] ?_
    refine an [] [] ?_
    have hq11 : (((kl).drop ((((kl).length / 2) + 1))) : List Int) = (kl).drop ((kl).length / 2 + 1) := (by first | rfl | simp | (simp; omega))
    have hMn11 := hM3_14.reM 1 hq11
    have hq12 : (((cl).drop ((((kl).length / 2) + 1))) : List Int) = (cl).drop ((kl).length / 2 + 1) := (by first | rfl | simp | (simp; omega))
    have hMn12 := hMn11.reM 0 hq12
    exact ce5 0 [] b3_13 A13_5 c13_5 A13_11 c13_11 [2, 1, 0, 3, 4, 5, 6, 7, 8] (h := by exact trivial)
  have hcl1_r3 := (hM_r3.cap 1 rfl).1
  have hcl2_r3 := (hM_r3.cap 2 rfl).1
  have hcl4_r3 := (hM_r3.cap 4 rfl).1
  have hcl5_r3 := (hM_r3.cap 5 rfl).1
  have hq2 : (kl).length / 2 < (kl).length := by omega
  refine any 1 [] 10 [0, 1, 2, 3, 4, 5, 8] fun w4a hM4a => ?_
  have hx4_4 : ((kl).length / 2) < (kl).length := (by omega)
  refine av [0, 1, 2, 3] [3, 6] 4 (a := by exact fun _ hw2 => kixM hx4_4 (hRK.at hM4a) (h0 := by omega)) (b := ?_)
  refine av [] [] 5 (s := Vi ((kl).getD ((kl).length / 2) 0)) (a := by exact fun w2 hw2 => cv (Ru.congr (v := I ((kl)[((kl).length / 2)]'hx4_4)) (v' := I ((kl).getD ((kl).length / 2) 0)) (Ru.load1 el3 rfl (ldm (hRK.at hw2) hx4_4)) (I_congr (getD_in hx4_4).symm)) rfl) (b := ?_)
  refine aO [6] [0] 7 ?_
  refine Sb 0 [] 7 fun w4_7 hM4_7 => ?_
  refine os 0 [] [0, 1, 2, 3, 4, 5, 8] ?_
  refine aO [8] [] 9 ?_
  refine Sb 0 [] 6 fun w4_9 hM4_9 => ?_
  refine os 0 [] [0, 1, 2, 3, 4, 5, 8] ?_
  refine an [] [] ?_
  refine EG 1 [] ?_
  refine PG (vs := [.agg #[.slice (P6_0) (((kl).take ((kl).length / 2)).length) (p6_0), .slice (P6_1) (((cl).take ((kl).length / 2 + 1)).length) (p6_1)], I ((kl).getD ((kl).length / 2) 0), .agg #[.slice (P7_0) (((kl).drop ((kl).length / 2 + 1)).length) (p7_0), .slice (P7_1) (((cl).drop ((kl).length / 2 + 1)).length) (p7_1)]]) (ResV.cell (l := [.slice (P6_0) (((kl).take ((kl).length / 2)).length) (p6_0), .slice (P6_1) (((cl).take ((kl).length / 2 + 1)).length) (p6_1)]) rfl (mem_blk (i := 7) (j := 0) hM4_9 rfl rfl) el98 rfl (ResV.tmp rfl (ResV.cell (l := [.slice (P7_0) (((kl).drop ((kl).length / 2 + 1)).length) (p7_0), .slice (P7_1) (((cl).drop ((kl).length / 2 + 1)).length) (p7_1)]) rfl (mem_blk (i := 6) (j := 0) hM4_9 rfl rfl) el98 rfl ResV.nil))) ?_
  exact ⟨P6_0, p6_0, P6_1, p6_1, P7_0, p7_0, P7_1, p7_1, (by first | rfl | exact sl_congr (by first | omega | (simp; done) | (simp; omega)) | (simp; done)), (hM4_9.pk [4, 5, 1, 2])⟩
set_option maxHeartbeats 2000000 in
theorem addKid_fn (KA : Option Addr) (kc : Nat) (kl : List Int) (CA : Option Addr) (cc : Nat) (cl : List Int) (pl : Int) (key : Int) (kid : Int) (w : World) (hRK : Rd w KA ((kl).map I)) (hRC : Rd w CA ((cl).map I)) (hcp : (kl).length ≤ kc ∧ (cl).length ≤ cc) (h0 : 0 ≤ pl ∧ pl ≤ ((kl).length : Int)) (h1 : (kl).length ≤ 1000) (h2 : (cl).length = (kl).length + 1) :
    Does Tryd.prog 90 [.agg #[.slice (KA) ((kl).length) (kc), .slice (CA) ((cl).length) (cc)], I (pl), I (key), I (kid)] w (fun v w1 => ∃ (A1 : Option Addr) (c1 : Nat) (A2 : Option Addr) (c2 : Nat), v = .agg #[.slice (A1) (((kl).take (pl).toNat ++ [key] ++ (kl).drop (pl).toNat).length) (c1), .slice (A2) (((cl).take ((pl).toNat + 1) ++ [kid] ++ (cl).drop ((pl).toNat + 1)).length) (c2)] ∧ Mem w w1 [] [[⟨.slice (A1) (((kl).take (pl).toNat ++ [key] ++ (kl).drop (pl).toNat).length) (c1), 3, 1, (((kl).take (pl).toNat ++ [key] ++ (kl).drop (pl).toNat).length), ((kl).take (pl).toNat ++ [key] ++ (kl).drop (pl).toNat).map I⟩], [⟨.slice (A2) (((cl).take ((pl).toNat + 1) ++ [kid] ++ (cl).drop ((pl).toNat + 1)).length) (c2), 3, 1, (((cl).take ((pl).toNat + 1) ++ [kid] ++ (cl).drop ((pl).toNat + 1)).length), ((cl).take ((pl).toNat + 1) ++ [kid] ++ (cl).drop ((pl).toNat + 1)).map I⟩]]) := by
  have hM : Mem w w [] [] := Mem.refl
  refine Does.nG (rs := [.cell 8 98]) Tryd.func90 rfl Tryd.results90 Tryd.ntmps90 rfl ?_
  refine Bx 2 [] fun w0_0 b0_0 hb0_0 hM0_0 => ?_
  refine Al 0 [] fun w0_1 b0_1 hb0_1 hM0_1 => ?_
  have hpe : (pl + 1).toNat = (pl).toNat + 1 := by omega
  refine ov 6 [1] (s := Vl (KA) (((kl).take ((pl).toNat)).length) (kc)) (a := by exact cv (Ru.congr (v := .slice (KA) ((pl).toNat) (kc)) (v' := .slice (KA) (((kl).take ((pl).toNat)).length) (kc)) (Ru.lsliceTo (h := (pl).toNat) Tryd.underlying29 el3 rfl rfl (by omega) (by omega)) (sl_congr (by first | rfl | (simp; done) | omega | (simp; omega)))) rfl) (b := ?_)
  refine cq 0 [] (b := scopyInts_fn _ _ _ w0_1 (rd_take1 (hRK.at hM0_1)) q0) (c := ?_)
  rintro _ w1_4 ⟨A11_4, c11_4, rfl, hR1_4⟩
  have hM1_4 := hM0_1.cl 0 hR1_4
  have hcr1_4_0 := (hM1_4.cap 0 rfl).1
  refine Lt 1 [] (([key]).map I) (fun w1_6 b1_6 hb1_6 hM1_6 => ?_)
  refine aM 0 [] 1 (hM1_6.rd 0 rfl) (fun w1_7 A1_7 c1_7 hc1_7 hM1_7 => ?_)
  refine ov 7 [3] (a := kadd) (b := ?_)
  refine ov 0 [] (s := Vl (CA) (((cl).take (((pl + 1)).toNat)).length) (cc)) (a := by exact cv (Ru.congr (v := .slice (CA) (((pl + 1)).toNat) (cc)) (v' := .slice (CA) (((cl).take (((pl + 1)).toNat)).length) (cc)) (Ru.lsliceTo (h := ((pl + 1)).toNat) Tryd.underlying29 el3 rfl rfl (by omega) (by omega)) (sl_congr (by first | rfl | (simp; done) | omega | (simp; omega)))) rfl) (b := ?_)
  refine cq 0 [] (b := scopyInts_fn _ _ _ w1_7 (rd_take1 (hRC.at hM1_7)) q0) (c := ?_)
  rintro _ w2_5 ⟨A12_5, c12_5, rfl, hR2_5⟩
  have hM2_5 := hM1_7.cl 0 hR2_5
  have hcr2_5_0 := (hM2_5.cap 0 rfl).1
  refine Lt 1 [] (([kid]).map I) (fun w2_7 b2_7 hb2_7 hM2_7 => ?_)
  refine aM 0 [] 1 (hM2_7.rd 0 rfl) (fun w2_8 A2_8 c2_8 hc2_8 hM2_8 => ?_)
  refine any 3 [] 15 [0, 2, 5] fun w3a hM3a => ?_
  refine av [0, 1, 2, 3] [2] 4 (s := Vl (if kc = (pl).toNat then KA else ofs (KA) (((pl).toNat) * 1)) (((kl).drop ((pl).toNat)).length) (kc - ((pl).toNat))) (a := by exact fun w2 hw2 => cv (Ru.congr (v := .slice (if kc = (pl).toNat then KA else ofs (KA) (((pl).toNat) * 1)) (((kl).length) - ((pl).toNat)) (kc - ((pl).toNat))) (v' := .slice (if kc = (pl).toNat then KA else ofs (KA) (((pl).toNat) * 1)) (((kl).drop ((pl).toNat)).length) (kc - ((pl).toNat))) (Ru.lsliceFrom (l := (pl).toNat) Tryd.underlying29 el3 rfl rfl (by omega) (by omega)) (sl_congr (by first | rfl | (simp; done) | omega | (simp; omega)))) rfl) (b := ?_)
  refine av [6, 7, 8, 9] [2] 10 (a := by exact fun _ hw2 => kadd) (b := ?_)
  refine av [] [] 11 (s := Vl (if cc = ((pl + 1)).toNat then CA else ofs (CA) ((((pl + 1)).toNat) * 1)) (((cl).drop (((pl + 1)).toNat)).length) (cc - (((pl + 1)).toNat))) (a := by exact fun w2 hw2 => cv (Ru.congr (v := .slice (if cc = ((pl + 1)).toNat then CA else ofs (CA) ((((pl + 1)).toNat) * 1)) (((cl).length) - (((pl + 1)).toNat)) (cc - (((pl + 1)).toNat))) (v' := .slice (if cc = ((pl + 1)).toNat then CA else ofs (CA) ((((pl + 1)).toNat) * 1)) (((cl).drop (((pl + 1)).toNat)).length) (cc - (((pl + 1)).toNat))) (Ru.lsliceFrom (l := ((pl + 1)).toNat) Tryd.underlying29 el3 rfl rfl (by omega) (by omega)) (sl_congr (by first | rfl | (simp; done) | omega | (simp; omega)))) rfl) (b := ?_)
  refine aO [] [] 5 ?_
  refine aM 0 [] 3 (rd_drop1 (k := (pl).toNat) (c := kc) (hRK.at hM3a) q2 q2) (fun w3_5 A3_5 c3_5 hc3_5 hM3_5 => ?_)
  refine os 0 [] [0, 2, 5] ?_
  refine aO [] [] 12 ?_
  refine aM 0 [] 1 (rd_drop1 (k := ((pl + 1)).toNat) (c := cc) (hRC.at hM3_5) q2 q2) (fun w3_12 A3_12 c3_12 hc3_12 hM3_12 => ?_)
  refine os 0 [] [0, 2, 5] ?_
  refine aO [13] [] 14 ?_
  refine Sb 0 [] 4 fun w3_14 hM3_14 => ?_
  refine os 0 [] [0, 2, 5] ?_
  refine an [] [] ?_
  refine EG 1 [] ?_
  refine PG (vs := [.agg #[.slice (A3_5) ((((kl).take ((pl).toNat)) ++ [key] ++ (kl).drop ((pl).toNat)).length) (c3_5), .slice (A3_12) ((((cl).take (((pl + 1)).toNat)) ++ [kid] ++ (cl).drop (((pl + 1)).toNat)).length) (c3_12)]]) (ResV.cell (l := [.slice (A3_5) ((((kl).take ((pl).toNat)) ++ [key] ++ (kl).drop ((pl).toNat)).length) (c3_5), .slice (A3_12) ((((cl).take (((pl + 1)).toNat)) ++ [kid] ++ (cl).drop (((pl + 1)).toNat)).length) (c3_12)]) rfl (mem_blk (i := 4) (j := 0) hM3_14 rfl rfl) el98 rfl ResV.nil) ?_
  have hq1 : (((kl).take ((pl).toNat)) ++ [key] ++ (kl).drop ((pl).toNat) : List Int) = (kl).take (pl).toNat ++ [key] ++ (kl).drop (pl).toNat := (by first | rfl | simp | (simp; omega))
  have hMn1 := hM3_14.reM 3 hq1
  have hq2 : (((cl).take (((pl + 1)).toNat)) ++ [kid] ++ (cl).drop (((pl + 1)).toNat) : List Int) = (cl).take ((pl).toNat + 1) ++ [kid] ++ (cl).drop ((pl).toNat + 1) := (by rw [hpe])
  have hMn2 := hMn1.reM 1 hq2
  exact ⟨A3_5, c3_5, A3_12, c3_12, (by rw [hpe]; first | rfl | (simp; done)), (hMn2.pk [3, 1])⟩
end Go.Proofs.YtemejgglbhjodaaDoor
end
section
namespace Go.Proofs.YtemejgglbhjodaaDoor
open Go.Px
theorem pathTo_fn (T : TreeL) (key : Int) (w : World) (hNT : TrN w T) (hs : SzT T) (hv : validT (T).t = true) :
    Does Tryd.prog 86 [.agg #[I ((T).root), .slice ((T).A) ((T).l.length) ((T).cp)], I (key)] w (fun v w1 => ∃ (A1 : Option Addr) (c1 : Nat), v = .slice (A1) ((pathK (T).t key).length) (c1) ∧ Mem w w1 [] [[⟨.slice (A1) ((pathK (T).t key).length) (c1), 3, 1, ((pathK (T).t key).length), (pathK (T).t key).map I⟩]]) := by
  have hM : Mem w w [] [] := Mem.refl
  refine Does.n1 Tryd.func86 rfl Tryd.results86 Tryd.ntmps86 rfl ?_
  have hvk := valid_ok hv
  have hvo := hvk.2.1
  have hv3 := hvk.1
  have hh1 := height_1 (T := (T).t)
  have hs1 := hs.1
  refine Bx 2 [] fun w0_0 b0_0 hb0_0 hM0_0 => ?_
  refine Lt 6 [0] (([(T).root]).map I) (fun w1_2 b1_2 hb1_2 hM1_2 => ?_)
  have hq1 : ([(T).root] : List Int) = ([] : List Int) ++ [((T).root)] := rfl
  have hMn1 := hM1_2.reM 0 hq1
  refine lp7 4 [] (fun (pre : List Int) (cur : Int) (e : Nat) (lo2 : Int) (hi2 : Int) (A2 : Option Addr) (c2 : Nat) => ([(5, Vl (A2) ((pre ++ [cur]).length) (c2))] : List (Nat × SV))) (fun (pre : List Int) (cur : Int) (e : Nat) (lo2 : Int) (hi2 : Int) (A2 : Option Addr) (c2 : Nat) => (pre.length + e ≤ 2) ∧ (pathK (T).t key = pre ++ pathT (T).t key (e + 1) cur) ∧ (okB (T).t (e + 1) cur lo2 hi2 = true)) (fun (pre : List Int) (cur : Int) (e : Nat) (lo2 : Int) (hi2 : Int) (A2 : Option Addr) (c2 : Nat) => [[⟨.slice (A2) ((pre ++ [cur]).length) (c2), 3, 1, ((pre ++ [cur]).length), (pre ++ [cur]).map I⟩]]) (fun (pre : List Int) (cur : Int) (e : Nat) (lo2 : Int) (hi2 : Int) (A2 : Option Addr) (c2 : Nat) => e) [1, 2] [0] [1] (([] : List Int) : List Int) ((T).root) (heightT (T).t - 1) (0 : Int) (100 : Int) (bl b1_2) 1 (fun pre cur e lo2 hi2 A2 c2 σ w_l2 hI hM_l2 => ?_) (h0 := ⟨(by (try dsimp only); simp; omega), (by (try dsimp only); rw [show heightT (T).t - 1 + 1 = heightT (T).t by omega]; rfl), (by (try dsimp only); rw [show heightT (T).t - 1 + 1 = heightT (T).t by omega]; exact hvo)⟩)
  obtain ⟨hi0_l2, hi1_l2, hi2_l2⟩ := hI
  have hcl0_l2 := (hM_l2.cap 0 rfl).1
  have hok := hi2_l2
  have hpl1 : (pre ++ [cur]).length = pre.length + 1 := by simp
  have hcu := inT_t.1 (okB_in hok)
  have hjx : (cur).toNat < (T).l.length := by omega
  have hgp : gP (T).t cur = ((T).l[(cur).toNat]'hjx).t := gP_at rfl hjx
  refine dr 2 [] ?_
  refine qv 5 [1] (a := by exact fun _ hw2 => ksub (h := by first | omega | (simp; omega))) (b := ?_)
  have hx2_6 : pre.length < (pre ++ [cur]).length := (by simp)
  refine qv 0 [] (a := by exact fun _ hw2 => kixM hx2_6 (hw2.rd 0 rfl) (h0 := by first | omega | (simp; omega))) (b := ?_)
  refine qv 0 [] (s := Vi (cur)) (a := by exact fun w2 hw2 => cv (Ru.congr (v := I ((pre ++ [cur])[pre.length]'hx2_6)) (v' := I (cur)) (Ru.load1 el3 rfl (ldm (hw2.rd 0 rfl) hx2_6)) (I_congr (by simp))) rfl) (b := ?_)
  have hx2_8 : (cur).toNat < ((T).l).length := (by omega)
  refine qv 0 [] (a := by exact fun _ hw2 => kixF hx2_8 (hNT.at hw2).1 (h0 := by omega)) (b := ?_)
  refine qv 0 [] (a := by exact fun _ hw2 => kflF hx2_8 (hNT.at hw2).1) (b := ?_)
  refine qv 0 [] (a := by exact fun _ hw2 => kldF hx2_8 (hNT.at hw2).1) (b := ?_)
  refine qn 2 [] fun w2d hM2d => ?_
  refine cd 0 [] (fun c22 => ?_) (fun c22 => ?_)
  · have hkn : (gP (T).t cur).kids ≠ [] := by rw [hgp]; intro e9; exact absurd (show (((T).l[(cur).toNat]'hjx).c.l).length = 0 from congrArg List.length e9) (by omega)
    have hrl := route_lt (key := key) hok hkn
    have hpg := pathT_go (key := key) hok hkn
    have hok1 := ok_kid hok hrl
    have hen : e ≠ 0 := fun e9 => hkn ((ok_kids hok).2 e9)
    have hrl2 : upTo (((T).l[(cur).toNat]'hjx).k.l) key < (((T).l[(cur).toNat]'hjx).c.l).length := by have h9 := hrl; rw [hgp] at h9; exact h9
    obtain ⟨kid, hkid⟩ : ∃ z, z = (((T).l[(cur).toNat]'hjx).c.l)[upTo (((T).l[(cur).toNat]'hjx).k.l) key]'hrl2 := ⟨_, rfl⟩
    have hkk : (gP (T).t cur).kids[upTo (gP (T).t cur).keys key]'hrl = kid := by rw [hkid]; simp only [hgp]; rfl
    rw [hkk] at hpg hok1
    have hsz := hs.at hjx
    have hvk2 := fr_keys (okB_iff.1 hok).2.1
    rw [hgp] at hvk2
    refine any 3 [] 12 [0, 1] fun w3a hM3a => ?_
    refine av [0, 1, 2, 3, 4] [1] 5 (a := by exact fun _ hw2 => ksub (h := by first | omega | (simp; omega))) (b := ?_)
    have hx3_6 : pre.length < (pre ++ [cur]).length := (by simp)
    refine av [] [] 6 (a := by exact fun _ hw2 => kixM hx3_6 (hM3a.rd 0 rfl) (h0 := by first | omega | (simp; omega))) (b := ?_)
    refine av [] [] 7 (s := Vi (cur)) (a := by exact fun w2 hw2 => cv (Ru.congr (v := I ((pre ++ [cur])[pre.length]'hx3_6)) (v' := I (cur)) (Ru.load1 el3 rfl (ldm (hw2.rd 0 rfl) hx3_6)) (I_congr (by simp))) rfl) (b := ?_)
    have hx3_8 : (cur).toNat < ((T).l).length := (by omega)
    refine av [] [] 8 (a := by exact fun _ hw2 => kixF hx3_8 (hNT.at hM3a).1 (h0 := by omega)) (b := ?_)
    refine aT [] [] 9 10 ?_ ?_
    · refine ov 0 [] (a := kldN hx3_8 (hNT.at hM3a).1) (b := ?_)
      refine os 0 [] [0, 1] ?_
      refine aO [] [] 10 ?_
      refine Al 0 [] fun w3_10 b3_10 hb3_10 hM3_10 => ?_
      refine os 0 [] [1, 2] ?_
      refine aO [] [] 11 ?_
      refine Sb 0 [] 0 fun w3_11 hM3_11 => ?_
      refine os 0 [] [1, 2] ?_
      refine an [] [] ?_
      refine any 0 [] 12 [0, 2] fun w4a hM4a => ?_
      refine aO [0, 1, 2, 3, 4, 5] [0, 0] 6 ?_
      refine cq 0 [] (vs := [.slice ((((T).l)[(cur).toNat]'hx3_8).k.A) (((((T).l)[(cur).toNat]'hx3_8).k.l).length) ((((T).l)[(cur).toNat]'hx3_8).k.cp), I (key)]) (hvs := (by first | rfl | (rw [show ((((T).l)[(cur).toNat]'hx3_8).k.l).length = (((T).l)[(cur).toNat]'hx3_8).k.l.length from (by first | rfl | (simp; done) | omega | (simp; omega))]; rfl))) (b := supTo_fn ((((T).l)[(cur).toNat]'hx3_8).k.A) ((((T).l)[(cur).toNat]'hx3_8).k.cp) ((((T).l)[(cur).toNat]'hx3_8).k.l) _ w4a (((hNT.at hM4a)).2.get hx3_8).1 q0) (c := ?_)
      rintro _ w4_6 ⟨rfl, hR4_6⟩
      have hM4_6 := hM4a.cl 0 hR4_6
      refine os 0 [] [0, 2] ?_
      have hx4_7 : upTo (((T).l[(cur).toNat]'hjx).k.l) key < ((((T).l)[(cur).toNat]'hx3_8).c.l).length := hrl2
      refine av [] [] 7 (a := by exact fun _ hw2 => kixM hx4_7 (((hNT.at hM4_6)).2.get hx3_8).2.1 (h0 := by first | omega | (simp; omega))) (b := ?_)
      refine aO [] [] 8 ?_
      refine ov 0 [] (s := Vi (kid)) (a := by exact cv (Ru.congr (v := I (((((T).l)[(cur).toNat]'hx3_8).c.l)[upTo (((T).l[(cur).toNat]'hjx).k.l) key]'hx4_7)) (v' := I (kid)) (Ru.load1 el3 rfl (ldm (((hNT.at hM4_6)).2.get hx3_8).2.1 hx4_7)) (I_congr hkid.symm)) rfl) (b := ?_)
      refine os 0 [] [0, 2] ?_
      refine aO [] [] 9 ?_
      refine Lt 0 [] (([kid]).map I) (fun w4_9 b4_9 hb4_9 hM4_9 => ?_)
      refine os 0 [] [1, 3] ?_
      refine aO [] [] 10 ?_
      refine aM 0 [] 2 (hM4_9.rd 0 rfl) (fun w4_10 A4_10 c4_10 hc4_10 hM4_10 => ?_) (hn := by first | omega | (simp; omega)) (hb := by first | omega | (simp; omega))
      refine os 0 [] [1, 3] ?_
      refine an [11] [] ?_
      have hq2 : (pre ++ [cur] ++ [kid] : List Int) = (pre ++ [cur]) ++ [kid] := (by simp)
      have hMn2 := hM4_10.reM 2 hq2
      exact le7 0 [] (pre ++ [cur]) kid (e - 1) _ _ A4_10 c4_10 [2, 3] (h := by exact ⟨(by (try dsimp only); simp; omega), (by (try dsimp only); rw [hi1_l2, hpg, show e - 1 + 1 = e by omega]; simp), (by (try dsimp only); rw [show e - 1 + 1 = e by omega]; exact hok1)⟩)
    refine Al 0 [] fun w3_10 b3_10 hb3_10 hM3_10 => ?_
    refine os 0 [] [1, 2] ?_
    refine aO [] [] 9 ?_
    refine ov 0 [] (a := kldN hx3_8 (hNT.at hM3_10).1) (b := ?_)
    refine os 0 [] [1, 2] ?_
    refine aO [] [] 11 ?_
    refine Sb 0 [] 0 fun w3_11 hM3_11 => ?_
    refine os 0 [] [1, 2] ?_
    refine an [] [] ?_
    refine any 0 [] 12 [0, 2] fun w4a hM4a => ?_
    refine aO [0, 1, 2, 3, 4, 5] [0, 0] 6 ?_
    refine cq 0 [] (vs := [.slice ((((T).l)[(cur).toNat]'hx3_8).k.A) (((((T).l)[(cur).toNat]'hx3_8).k.l).length) ((((T).l)[(cur).toNat]'hx3_8).k.cp), I (key)]) (hvs := (by first | rfl | (rw [show ((((T).l)[(cur).toNat]'hx3_8).k.l).length = (((T).l)[(cur).toNat]'hx3_8).k.l.length from (by first | rfl | (simp; done) | omega | (simp; omega))]; rfl))) (b := supTo_fn ((((T).l)[(cur).toNat]'hx3_8).k.A) ((((T).l)[(cur).toNat]'hx3_8).k.cp) ((((T).l)[(cur).toNat]'hx3_8).k.l) _ w4a (((hNT.at hM4a)).2.get hx3_8).1 q0) (c := ?_)
    rintro _ w4_6 ⟨rfl, hR4_6⟩
    have hM4_6 := hM4a.cl 0 hR4_6
    refine os 0 [] [0, 2] ?_
    have hx4_7 : upTo (((T).l[(cur).toNat]'hjx).k.l) key < ((((T).l)[(cur).toNat]'hx3_8).c.l).length := hrl2
    refine av [] [] 7 (a := by exact fun _ hw2 => kixM hx4_7 (((hNT.at hM4_6)).2.get hx3_8).2.1 (h0 := by first | omega | (simp; omega))) (b := ?_)
    refine aO [] [] 8 ?_
    refine ov 0 [] (s := Vi (kid)) (a := by exact cv (Ru.congr (v := I (((((T).l)[(cur).toNat]'hx3_8).c.l)[upTo (((T).l[(cur).toNat]'hjx).k.l) key]'hx4_7)) (v' := I (kid)) (Ru.load1 el3 rfl (ldm (((hNT.at hM4_6)).2.get hx3_8).2.1 hx4_7)) (I_congr hkid.symm)) rfl) (b := ?_)
    refine os 0 [] [0, 2] ?_
    refine aO [] [] 9 ?_
    refine Lt 0 [] (([kid]).map I) (fun w4_9 b4_9 hb4_9 hM4_9 => ?_)
    refine os 0 [] [1, 3] ?_
    refine aO [] [] 10 ?_
    refine aM 0 [] 2 (hM4_9.rd 0 rfl) (fun w4_10 A4_10 c4_10 hc4_10 hM4_10 => ?_) (hn := by first | omega | (simp; omega)) (hb := by first | omega | (simp; omega))
    refine os 0 [] [1, 3] ?_
    refine an [11] [] ?_
    have hq3 : (pre ++ [cur] ++ [kid] : List Int) = (pre ++ [cur]) ++ [kid] := (by simp)
    have hMn3 := hM4_10.reM 2 hq3
    exact le7 0 [] (pre ++ [cur]) kid (e - 1) _ _ A4_10 c4_10 [2, 3] (h := by exact ⟨(by (try dsimp only); simp; omega), (by (try dsimp only); rw [hi1_l2, hpg, show e - 1 + 1 = e by omega]; simp), (by (try dsimp only); rw [show e - 1 + 1 = e by omega]; exact hok1)⟩)
  refine E1 7 [] (.slice (A2) ((pre ++ [cur]).length) (c2)) ?_
  have hk0 : (gP (T).t cur).kids = [] := by rw [hgp]; exact List.eq_nil_of_length_eq_zero (by show (((T).l[(cur).toNat]'hjx).c.l).length = 0; omega)
  have hpe : pre ++ [cur] = pathK (T).t key := by rw [hi1_l2, pathT_stop hk0]
  have hq4 : (pre ++ [cur] : List Int) = pathK (T).t key := hpe
  have hMn4 := hM2d.reM 0 hq4
  exact ⟨A2, c2, (sl_congr (by rw [hpe])), (hMn4.pk [0])⟩
end Go.Proofs.YtemejgglbhjodaaDoor
end
