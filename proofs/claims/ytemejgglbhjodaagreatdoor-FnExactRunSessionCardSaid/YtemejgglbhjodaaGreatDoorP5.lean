/- Own layer, part 6: plain theorems on the walk of this program's functions and on what they compute; no conditions. -/
import Derived.Test.YtemejgglbhjodaaGreatDoorP4
set_option linter.unusedVariables false
set_option linter.unusedSimpArgs false
namespace Go.Proofs.YtemejgglbhjodaaGreatDoor
open Go.Px
theorem aLu (gr : Nat) (rA : Option Addr) (rc : Nat) (rl : List UInt8) (rq : Nat) (s : Str) (w : World) (hrA : Rd w rA (rl.map byteV)) (hro : Off rA (rl.map byteV) [some gr]) (hrl : rl.length <= 2000) (hM : Mem w w [some gr] [[⟨.slice (bl gr) 1 1, 131, 2, 1, [.slice rA rl.length rc, I ((rq : Nat) : Int)]⟩]]) (hrq : rq <= 999999900) (hs : s.length <= 10000) :
  aR Tryz.prog 60 [.pointer (ofs (bl gr) 0), S s] w (λ v w1 => ∃ (s1 : Str) (q1 : Nat), v = S s1 /\ (s1.length <= s.length + 10) /\ (q1 <= rq + 10) /\ Mem w w1 [some gr] [[⟨.slice (bl gr) 1 1, 131, 2, 1, [.slice rA rl.length rc, I ((q1 : Nat) : Int)]⟩]]) := by
 refine aR.n1 Tryz.func60 rfl Tryz.results60 Tryz.ntmps60 rfl ?_
 refine ov 9 [] (a := bL (s.length + 1)) (b := ?_)
 refine cq 0 [] (b := mY gr rA rc rl rq _ w (hrA.atR hM hro) hro hrl (hM.fp [0] rfl rfl) q0) (c := ?_)
 rintro _ u0 ⟨a0, rfl, A0, n0⟩
 have d0 := hM.cl 1 n0
 refine cq 6 [] (b := mY gr rA rc rl (rq + 1) _ u0 (hrA.atR d0 hro) hro hrl (d0.fp [0] rfl rfl) q0) (c := ?_)
 rintro _ D0 ⟨C0, rfl, B0, o0⟩
 have e0 := d0.cl 1 o0
 refine cd 7 [] (λ c13 => ?_) (λ c13 => ?_)
 refine cd 7 [] (λ c18 => ?_) (λ c18 => ?_)
 refine any 1 [] 13 [] λ F0 x0 => ?_
 refine av [0, 1] [] 2 (a := by exact λ _ hw2 => ksT a0.toNat (hb := t3)) (b := ?_)
 refine av [3, 7, 8] [] 9 (a := by exact λ _ hw2 => oW) (b := ?_)
 refine av [] [] 10 (a := by exact λ _ hw2 => ksF (a0 + 1).toNat (hb := t3)) (b := ?_)
 refine aO [] [] 4 ?_
 refine Lt 0 [] (([[48], [49], [32], [45], [44], [58], [97], [57]]).map S) (λ v0 h0 y0 j0 => ?_)
 refine os 0 [] [] ?_
 refine aO [] [] 5 ?_
 have b0 := j0.pk [1, 0]
 refine cq 0 [] (vs := [.pointer (ofs (bl gr) 0), .slice (bl h0) ([[48], [49], [32], [45], [44], [58], [97], [57]]).length 8]) (hvs := (by first | rfl | (rw [show ([[48], [49], [32], [45], [44], [58], [97], [57]]).length = 8 from t6]; rfl))) (b := aJq gr rA rc rl ((rq + 1) + 1) (bl h0) 8 ([[48], [49], [32], [45], [44], [58], [97], [57]]) v0 (hrA.atR b0 hro) hro hrl (b0.rd 1 rfl) (Off.of_ng (b0.ng 1 0 t19 rfl rfl)) (b0.fp [0] rfl rfl) q0 t11 t11) (c := ?_)
 rintro _ E0 ⟨f0, rfl, s0, p0⟩
 have k0 := b0.cl 1 p0
 have hsn : f0.length <= 4 := (by decide : ∀ s ∈ ([[48], [49], [32], [45], [44], [58], [97], [57]] : List Str), s.length <= 4) _ s0
 refine os 0 [] [] ?_
 refine av [] [] 6 (a := by exact λ _ hw2 => iF (h := t3)) (b := ?_)
 refine av [] [] 11 (a := by exact λ _ hw2 => iF (h := t3)) (b := ?_)
 refine an [12] [] ?_
 refine E1 1 [] (S ((s.take a0.toNat ++ f0) ++ s.drop (a0 + 1).toNat)) ?_
 have hZ := (k0.pk [0])
 exact ⟨((s.take a0.toNat ++ f0) ++ s.drop (a0 + 1).toNat), _, (by first | rfl | exact sl_congr t8 | (simp; done)), t3, t1, hZ⟩
 refine E1 7 [] (S s) ?_
 have hZ := (e0.pk [0])
 exact ⟨s, _, (by first | rfl | exact sl_congr t8 | (simp; done)), t3, t1, hZ⟩
 refine cd 5 [] (λ c31 => ?_) (λ c31 => ?_)
 refine ov 4 [] (a := ksT a0.toNat (hb := t3)) (b := ?_)
 refine E1 3 [] (S (s.take a0.toNat)) ?_
 have hZ := (e0.pk [0])
 exact ⟨s.take a0.toNat, _, (by first | rfl | exact sl_congr t8 | (simp; done)), t3, t1, hZ⟩
 refine cd 5 [] (λ c36 => ?_) (λ c36 => ?_)
 refine Lt 4 [] (([[48], [32], [53, 58, 49], [44, 49], [120], [112, 117, 116, 32]]).map S) (λ w0 i0 z0 l0 => ?_)
 have c0 := l0.pk [1, 0]
 refine cq 0 [] (vs := [.pointer (ofs (bl gr) 0), .slice (bl i0) ([[48], [32], [53, 58, 49], [44, 49], [120], [112, 117, 116, 32]]).length 6]) (hvs := (by first | rfl | (rw [show ([[48], [32], [53, 58, 49], [44, 49], [120], [112, 117, 116, 32]]).length = 6 from t6]; rfl))) (b := aJq gr rA rc rl ((rq + 1) + 1) (bl i0) 6 ([[48], [32], [53, 58, 49], [44, 49], [120], [112, 117, 116, 32]]) w0 (hrA.atR c0 hro) hro hrl (c0.rd 1 rfl) (Off.of_ng (c0.ng 1 0 t19 rfl rfl)) (c0.fp [0] rfl rfl) q0 t11 t11) (c := ?_)
 rintro _ G0 ⟨g0, rfl, t0, r0⟩
 have m0 := c0.cl 1 r0
 have hsn : g0.length <= 4 := (by decide : ∀ s ∈ ([[48], [32], [53, 58, 49], [44, 49], [120], [112, 117, 116, 32]] : List Str), s.length <= 4) _ t0
 refine ov 0 [] (a := iF (h := t3)) (b := ?_)
 refine E1 3 [] (S (s ++ g0)) ?_
 have hZ := (m0.pk [0])
 exact ⟨(s ++ g0), _, (by first | rfl | exact sl_congr t8 | (simp; done)), t3, t1, hZ⟩
 refine E1 7 [] (S s) ?_
 have hZ := (e0.pk [0])
 exact ⟨s, _, (by first | rfl | exact sl_congr t8 | (simp; done)), t3, t1, hZ⟩
theorem mf90 : pU Tryz.prog 90 [.int .i64 0, .slice none 0 0] [(0, 2)] := pU.of (z := .agg #[.int .i64 0, .slice none 0 0]) (by kernel_rfl) rfl (by kernel_rfl)
theorem mf103 : pU Tryz.prog 103 [.int .i64 0, .slice none 0 0] [(0, 2)] := pU.of (z := .agg #[.int .i64 0, .slice none 0 0]) (by kernel_rfl) rfl (by kernel_rfl)
theorem mf169 : pU Tryz.prog 169 [.slice none 0 0, .bool false, .bool false, .bool false, .bool false, .bool false, .bool false, .bool false, .bool false, .bool false, .bool false, .bool false, .bool false, .bool false, .bool false, .bool false, .bool false, .int .i64 0] [(0, 1), (1, 16), (17, 1)] := pU.of (z := .agg #[.slice none 0 0, .bool false, .bool false, .bool false, .bool false, .bool false, .bool false, .bool false, .bool false, .bool false, .bool false, .bool false, .bool false, .bool false, .bool false, .bool false, .bool false, .int .i64 0]) (by kernel_rfl) rfl (by kernel_rfl)
end Go.Proofs.YtemejgglbhjodaaGreatDoor
section
namespace Go.Px
open Go.RowKit
section
variable {P : Program} {n : Nat} {ops rest : List Oper} {Q : Post} {τ : Fm} {K : List Fk} {w w0 : World} {R : List (Option Nat)} {M : List (List FE)} {T U T' e t : TypeId} {pos : String} {after : Array Edge} {g : Option (Nat × Bool)} {x y z : Operand} {zs : List Value} {bytes : Nat} {agg : Bool} {d : Nat} {p : Prop} {dst : Option Tmp}
theorem aQ {S : World -> Prop} {f : Nat} {ls : List Bool} {o o2 o3 o4 : Oper} (ix is : List Nat) (i j k l : Nat) (h : den P n (lS λ σ' w' => S w' /\ AO P n ops S (λ σ w => itp P n K Q .normal σ w) f (ls.set i true) σ' w') w ⟨.o ops [o], [], τ⟩) (h2 : den P n (lS λ σ' w' => S w' /\ AO P n ops S (λ σ w => itp P n K Q .normal σ w) f (ls.set j true) σ' w') w ⟨.o ops [o2], [], τ⟩) (h3 : den P n (lS λ σ' w' => S w' /\ AO P n ops S (λ σ w => itp P n K Q .normal σ w) f (ls.set k true) σ' w') w ⟨.o ops [o3], [], τ⟩) (h4 : den P n (lS λ σ' w' => S w' /\ AO P n ops S (λ σ w => itp P n K Q .normal σ w) f (ls.set l true) σ' w') w ⟨.o ops [o4], [], τ⟩) (pre : nA ix is (den P n Q w ⟨.a S ops (f + 1) ls, K, τ⟩) p := by exact Go.Px.q9) (hr : Region.ready .any ops.toArray ls.toArray = [i, j, k, l] := by kernel_rfl) (hi : nth ops i = some o := by exact rfl) (hi2 : nth ops j = some o2 := by exact rfl) (hi3 : nth ops k = some o3 := by exact rfl) (hi4 : nth ops l = some o4 := by exact rfl) : p := pre (AO.all [i, j, k, l] hr t11 (by simpa using ⟨⟨o, hi, h⟩, ⟨o2, hi2, h2⟩, ⟨o3, hi3, h3⟩, ⟨o4, hi4, h4⟩⟩))
end
end Go.Px
end
namespace Go.Proofs.YtemejgglbhjodaaGreatDoor
open Go.Px
theorem nU (p : PgL) (w : World) (hNp : PgN w p) (hp : p.k.l.length <= 1048576 /\ p.c.l.length <= 1048576 /\ p.v.l.length <= 1048576) :
  aR Tryz.prog 158 [.agg #[.slice p.k.A p.k.l.length p.k.cp, .slice p.c.A p.c.l.length p.c.cp, .slice p.v.A p.v.l.length p.v.cp]] w (λ v w1 => ∃ (A1 : Option Addr) (c1 : Nat) (A2 : Option Addr) (c2 : Nat) (A3 : Option Addr) (c3 : Nat), v = .agg #[.slice A1 p.k.l.length c1, .slice A2 p.c.l.length c2, .slice A3 p.v.l.length c3] /\ Mem w w1 [] [oI A1 c1 p.k.l, oI A2 c2 p.c.l, oI A3 c3 p.v.l]) := by
 have hM : Mem w w [] [] := Mem.refl
 refine aR.nG (rs := [.cell 2 42]) Tryz.func158 rfl Tryz.results158 Tryz.ntmps158 rfl ?_
 refine Bx 2 [] λ E0 v0 z0 x0 => ?_
 refine Al 0 [] λ F0 w0 A0 y0 => ?_
 refine any 2 [] 11 [1] λ u0 j0 => ?_
 refine aO [0, 1, 3, 4, 6, 7] [0, 0, 0] 2 ?_
 refine cq 0 [] (b := cM p.k.A p.k.cp p.k.l u0 (hNp.at j0).1 q0) (c := ?_)
 rintro _ s0 ⟨a0, d0, rfl, o0⟩
 have g0 := j0.cl 0 o0
 have B0 := (g0.cap 0 rfl).1
 refine os 0 [] [2] ?_
 refine aO [] [] 5 ?_
 refine cq 0 [] (b := cM p.c.A p.c.cp p.c.l s0 (hNp.at g0).2.1 q0) (c := ?_)
 rintro _ t0 ⟨b0, e0, rfl, p0⟩
 have h0 := g0.cl 0 p0
 have C0 := (h0.cap 0 rfl).1
 refine os 0 [] [3] ?_
 refine aO [] [] 8 ?_
 refine cq 0 [] (b := cM p.v.A p.v.cp p.v.l t0 (hNp.at h0).2.2 q0) (c := ?_)
 rintro _ H0 ⟨c0, f0, rfl, r0⟩
 have k0 := h0.cl 0 r0
 have D0 := (k0.cap 0 rfl).1
 refine os 0 [] [4] ?_
 refine aO [9] [] 10 ?_
 refine Sb 0 [] 3 λ G0 i0 => ?_
 refine os 0 [] [4] ?_
 refine an [] [] ?_
 refine EG 1 [] ?_
 refine PG (vs := [.agg #[.slice a0 p.k.l.length d0, .slice b0 p.c.l.length e0, .slice c0 p.v.l.length f0]]) (bX.cell (l := [.slice a0 p.k.l.length d0, .slice b0 p.c.l.length e0, .slice c0 p.v.l.length f0]) rfl (cA (i := 3) (j := 0) i0 rfl rfl) tJ rfl bX.nil) ?_
 have l0 := i0.rM 2 (p.k.l : List Int) (e := t2)
 have m0 := l0.rM 1 (p.c.l : List Int) (e := t2)
 have n0 := m0.rM 0 (p.v.l : List Int) (e := t2)
 exact ⟨a0, d0, b0, e0, c0, f0, (by first | rfl | exact sl_congr t8 | (simp; done)), (n0.pk [2, 1, 0])⟩
set_option maxHeartbeats 2000000 in
theorem pP (T : bN) (w : World) (hNT : TrN w T) (hs : SzT T) :
  aR Tryz.prog 124 [.agg #[I T.root, .slice T.A T.l.length T.cp]] w (λ v w1 => ∃ (L1 : List PgL) (A1 : Option Addr) (c1 : Nat), v = .agg #[I T.root, .slice A1 L1.length c1] /\ (tsG L1 = tsG T.l) /\ Mem w w1 [] [oG A1 c1 L1, L1.flatMap (pgF 3)]) := by
 have hM : Mem w w [] [] := Mem.refl
 refine aR.nG (rs := [.cell 2 25]) Tryz.func124 rfl Tryz.results124 Tryz.ntmps124 rfl ?_
 have hs1 := hs.1
 refine Bx 2 [] λ j1 S0 e1 U0 => ?_
 refine Al 0 [] λ k1 T0 f1 V0 => ?_
 refine Lt 5 [1] (([]).flatMap encPg) (λ l1 H0 g1 W0 => ?_)
 refine Al 1 [] λ m1 I0 h1 X0 => ?_
 refine Sb 0 [] 0 λ n1 J0 => ?_
 have L0 := Mem.gnil (e := 3) J0
 have R0 : ([] : List PgL) = ([] : List PgL) := t2
 have a1 := L0.reF 2 R0 (f := encPg)
 refine lp4 7 [] (λ (k : Nat) (Ch : List PgL) (A2 : Option Addr) (c2 : Nat) => ([(4, Vi ((k : Nat) : Int))] : List (Nat × SV))) (λ k Ch A2 c2 => (k <= T.l.length) /\ (tsG Ch = (tsG T.l).take k)) (λ k Ch A2 c2 => [Ch.flatMap (pgF 3), [⟨.slice (bl I0) 1 1, 25, 2, 1, [I T.root, .slice A2 Ch.length c2]⟩], oG A2 c2 Ch]) (λ k Ch A2 c2 => T.l.length - k) [1, 2, 3] [0, 1, 2] [3, 4] 0 (([] : List PgL) : List PgL) (bl H0) 0 (λ k Ch A2 c2 σ p1 hI K0 => ?_) (h0 := ⟨(bI _), t15⟩)
 obtain ⟨Q0, o0⟩ := hI
 have i1 := (K0.cap 2 rfl).1
 have hCl := aDg o0 Q0
 refine cd 9 [4] (λ c13 => ?_) (λ c13 => ?_)
 refine any 3 [] 12 [0, 3, 4] λ B0 j0 => ?_
 have a0 : k < T.l.length := t3
 refine av [0, 2, 3, 4] [2] 5 (a := by exact λ _ hw2 => cJ a0 (hNT.at j0).1) (b := ?_)
 refine aT [] [] 1 6 ?_ ?_
 refine os 1 [1] [0, 3, 4] ?_
 refine aO [] [] 6 ?_
 refine ov 0 [] (a := gL a0 (hNT.at j0).1) (b := ?_)
 refine os 0 [] [0, 3, 4] ?_
 refine aO [] [] 7 ?_
 refine cq 0 [] (b := nU (T.l[k]'a0) B0 ((hNT.at j0).2.get a0) (by exact hs.at a0)) (c := ?_)
 rintro _ G0 ⟨c0, f0, d0, g0, e0, i0, rfl, p0⟩
 have b0 := j0.cl 0 p0
 have D0 := (b0.cap 0 rfl).1
 have E0 := (b0.cap 1 rfl).1
 have F0 := (b0.cap 2 rfl).1
 refine os 0 [] [3, 6, 7] ?_
 refine aO [] [] 8 ?_
 let u0 : PgL := (⟨⟨c0, f0, (T.l[k]'a0).k.l⟩, ⟨d0, g0, (T.l[k]'a0).c.l⟩, ⟨e0, i0, (T.l[k]'a0).v.l⟩⟩ : PgL)
 refine Lt 0 [] (([u0]).flatMap encPg) (λ z0 q0 s0 n0 => ?_)
 refine os 0 [] [4, 7, 8] ?_
 refine aO [] [] 9 ?_
 refine aF 0 [] 6 (n0.rd 0 rfl) (λ A0 k0 l0 t0 r0 => ?_)
 refine os 0 [] [4, 7, 8] ?_
 refine aO [10] [] 11 ?_
 refine Sb 0 [] 5 λ y0 m0 => ?_
 refine os 0 [] [4, 7, 8] ?_
 refine an [] [] ?_
 have O0 := Mem.gapp (k := ⟨c0, f0, (T.l[k]'a0).k.l⟩) (c := ⟨d0, g0, (T.l[k]'a0).c.l⟩) (v := ⟨e0, i0, (T.l[k]'a0).v.l⟩) (m0.pk [4, 1, 2, 3, 0, 5, 6, 7, 8])
 refine ov 2 [] (a := bL (k + 1)) (b := ?_)
 have b1 := O0.rF 3 ((Ch ++ [u0]) : List PgL) (e := t2)
 exact le4 2 [] (k + 1) (Ch ++ [u0]) k0 l0 [0, 2, 3, 4, 5] (h := by exact ⟨t7, (pA o0 a0 rfl)⟩)
 refine ov 0 [] (a := gL a0 (hNT.at j0).1) (b := ?_)
 refine os 0 [] [0, 3, 4] ?_
 refine aT [] [] 1 7 ?_ ?_
 refine os 1 [1] [0, 3, 4] ?_
 refine aO [] [] 7 ?_
 refine cq 0 [] (b := nU (T.l[k]'a0) B0 ((hNT.at j0).2.get a0) (by exact hs.at a0)) (c := ?_)
 rintro _ G0 ⟨c0, f0, d0, g0, e0, i0, rfl, p0⟩
 have b0 := j0.cl 0 p0
 have D0 := (b0.cap 0 rfl).1
 have E0 := (b0.cap 1 rfl).1
 have F0 := (b0.cap 2 rfl).1
 refine os 0 [] [3, 6, 7] ?_
 refine aO [] [] 8 ?_
 let v0 : PgL := (⟨⟨c0, f0, (T.l[k]'a0).k.l⟩, ⟨d0, g0, (T.l[k]'a0).c.l⟩, ⟨e0, i0, (T.l[k]'a0).v.l⟩⟩ : PgL)
 refine Lt 0 [] (([v0]).flatMap encPg) (λ z0 q0 s0 n0 => ?_)
 refine os 0 [] [4, 7, 8] ?_
 refine aO [] [] 9 ?_
 refine aF 0 [] 6 (n0.rd 0 rfl) (λ A0 k0 l0 t0 r0 => ?_)
 refine os 0 [] [4, 7, 8] ?_
 refine aO [10] [] 11 ?_
 refine Sb 0 [] 5 λ y0 m0 => ?_
 refine os 0 [] [4, 7, 8] ?_
 refine an [] [] ?_
 have P0 := Mem.gapp (k := ⟨c0, f0, (T.l[k]'a0).k.l⟩) (c := ⟨d0, g0, (T.l[k]'a0).c.l⟩) (v := ⟨e0, i0, (T.l[k]'a0).v.l⟩) (m0.pk [4, 1, 2, 3, 0, 5, 6, 7, 8])
 refine ov 2 [] (a := bL (k + 1)) (b := ?_)
 have d1 := P0.rF 3 ((Ch ++ [v0]) : List PgL) (e := t2)
 exact le4 2 [] (k + 1) (Ch ++ [v0]) k0 l0 [0, 2, 3, 4, 5] (h := by exact ⟨t7, (pA o0 a0 rfl)⟩)
 refine cq 0 [] (b := nU (T.l[k]'a0) B0 ((hNT.at j0).2.get a0) (by exact hs.at a0)) (c := ?_)
 rintro _ G0 ⟨c0, f0, d0, g0, e0, i0, rfl, p0⟩
 have b0 := j0.cl 0 p0
 have D0 := (b0.cap 0 rfl).1
 have E0 := (b0.cap 1 rfl).1
 have F0 := (b0.cap 2 rfl).1
 refine os 0 [] [3, 6, 7] ?_
 refine aT [] [] 1 8 ?_ ?_
 refine os 1 [4] [3, 6, 7] ?_
 refine aO [] [] 8 ?_
 let w0 : PgL := (⟨⟨c0, f0, (T.l[k]'a0).k.l⟩, ⟨d0, g0, (T.l[k]'a0).c.l⟩, ⟨e0, i0, (T.l[k]'a0).v.l⟩⟩ : PgL)
 refine Lt 0 [] (([w0]).flatMap encPg) (λ z0 q0 s0 n0 => ?_)
 refine os 0 [] [4, 7, 8] ?_
 refine aO [] [] 9 ?_
 refine aF 0 [] 6 (n0.rd 0 rfl) (λ A0 k0 l0 t0 r0 => ?_)
 refine os 0 [] [4, 7, 8] ?_
 refine aO [10] [] 11 ?_
 refine Sb 0 [] 5 λ y0 m0 => ?_
 refine os 0 [] [4, 7, 8] ?_
 refine an [] [] ?_
 have M0 := Mem.gapp (k := ⟨c0, f0, (T.l[k]'a0).k.l⟩) (c := ⟨d0, g0, (T.l[k]'a0).c.l⟩) (v := ⟨e0, i0, (T.l[k]'a0).v.l⟩) (m0.pk [4, 1, 2, 3, 0, 5, 6, 7, 8])
 refine ov 2 [] (a := bL (k + 1)) (b := ?_)
 have Y0 := M0.rF 3 ((Ch ++ [w0]) : List PgL) (e := t2)
 exact le4 2 [] (k + 1) (Ch ++ [w0]) k0 l0 [0, 2, 3, 4, 5] (h := by exact ⟨t7, (pA o0 a0 rfl)⟩)
 let x0 : PgL := (⟨⟨c0, f0, (T.l[k]'a0).k.l⟩, ⟨d0, g0, (T.l[k]'a0).c.l⟩, ⟨e0, i0, (T.l[k]'a0).v.l⟩⟩ : PgL)
 refine Lt 0 [] (([x0]).flatMap encPg) (λ z0 q0 s0 n0 => ?_)
 refine os 0 [] [4, 7, 8] ?_
 refine aO [] [] 1 ?_
 refine os 1 [5] [4, 7, 8] ?_
 refine aO [] [] 9 ?_
 refine aF 0 [] 6 (n0.rd 0 rfl) (λ A0 k0 l0 t0 r0 => ?_)
 refine os 0 [] [4, 7, 8] ?_
 refine aO [10] [] 11 ?_
 refine Sb 0 [] 5 λ y0 m0 => ?_
 refine os 0 [] [4, 7, 8] ?_
 refine an [] [] ?_
 have N0 := Mem.gapp (k := ⟨c0, f0, (T.l[k]'a0).k.l⟩) (c := ⟨d0, g0, (T.l[k]'a0).c.l⟩) (v := ⟨e0, i0, (T.l[k]'a0).v.l⟩) (m0.pk [4, 1, 2, 3, 0, 5, 6, 7, 8])
 refine ov 2 [] (a := bL (k + 1)) (b := ?_)
 have Z0 := N0.rF 3 ((Ch ++ [x0]) : List PgL) (e := t2)
 exact le4 2 [] (k + 1) (Ch ++ [x0]) k0 l0 [0, 2, 3, 4, 5] (h := by exact ⟨t7, (pA o0 a0 rfl)⟩)
 refine Sb 4 [1] 3 λ o1 C0 => ?_
 refine EG 2 [] ?_
 refine PG (vs := [.agg #[I T.root, .slice A2 Ch.length c2]]) (bX.cell (l := [I T.root, .slice A2 Ch.length c2]) rfl (cA (i := 3) (j := 0) C0 rfl rfl) kH rfl bX.nil) ?_
 have hke : k = T.l.length := by omega
 rw [hke, aE t11] at o0
 exact ⟨Ch, A2, c2, (by first | rfl | exact sl_congr t8 | (simp; done)), o0, (C0.pk [2, 0])⟩
theorem kJ (A : Option Addr) (c : Nat) (l : List PairT) (w : World) (hA : Rd w A (l.flatMap cY)) (hl : l.length <= 1048576) (hc : l.length <= c) :
  aR Tryz.prog 65 [.slice A l.length c] w (λ v w1 => ∃ (A1 : Option Addr) (c1 : Nat) (A2 : Option Addr) (c2 : Nat) (A3 : Option Addr) (c3 : Nat), v = .agg #[.slice A1 (bG l).length c1, .slice A2 ([] : List Int).length c2, .slice A3 (l.map PairT.val).length c3] /\ Mem w w1 [] [oI A1 c1 (bG l), oI A2 c2 ([] : List Int), oI A3 c3 (l.map PairT.val)]) := by
 have hM : Mem w w [] [] := Mem.refl
 refine aR.nG (rs := [.cell 2 42]) Tryz.func65 rfl Tryz.results65 Tryz.ntmps65 rfl ?_
 refine Al 2 [] λ G0 K0 R0 k0 => ?_
 refine cq 4 [] (b := kB _ _ _ G0 (hA.at k0) q0) (c := ?_)
 rintro _ a1 ⟨b0, d0, rfl, C0⟩
 have u0 := k0.cl 0 C0
 have Y0 := (u0.cap 0 rfl).1
 refine Lt 0 [] (([]).map I) (λ b1 c0 S0 L0 => ?_)
 refine Lt 0 [] (([]).map I) (λ d1 r0 T0 M0 => ?_)
 refine Al 1 [] λ e1 s0 U0 N0 => ?_
 refine Sb 0 [] 0 λ f1 v0 => ?_
 have n0 : ([] : List Int) = (l.take 0).map PairT.val := t11
 have x0 := v0.reM 1 n0 (f := I)
 have O0 := x0.reB 0 2 (show 0 = ((l.take 0).map PairT.val).length from congrArg List.length n0)
 refine lp3 7 [] (λ (k : Nat) (A2 : Option Addr) (c2 : Nat) => ([(4, Vi ((k : Nat) : Int))] : List (Nat × SV))) (λ k A2 c2 => (k <= l.length)) (λ k A2 c2 => [[⟨.slice (bl s0) 1 1, 42, 3, 1, [.slice b0 (bG l).length d0, .slice (bl c0) 0 0, .slice A2 ((l.take k).map PairT.val).length c2]⟩], oI A2 c2 ((l.take k).map PairT.val)]) (λ k A2 c2 => l.length - k) [0, 2, 3] [0, 1] [2, 3, 4] 0 (bl r0) 0 (λ k A2 c2 σ i1 hI j0 => ?_) (h0 := (bI _))
 have Z0 := hI
 have V0 := (j0.cap 1 rfl).1
 have W0 := (j0.cap 2 rfl).1
 have X0 := (j0.cap 3 rfl).1
 refine cd 8 [] (λ c13 => ?_) (λ c13 => ?_)
 refine any 3 [] 11 [2, 3, 4] λ g1 l0 => ?_
 have a0 : k < l.length := t3
 refine av [0, 2, 3] [] 4 (a := by exact λ _ hw2 => cJ a0 (hA.at l0)) (b := ?_)
 refine av [] [] 5 (a := by exact λ _ hw2 => fZ a0 (hA.at l0)) (b := ?_)
 refine av [] [] 6 (a := by exact λ _ hw2 => gF a0 (hA.at hw2)) (b := ?_)
 refine aT [] [] 1 7 ?_ ?_
 refine os 1 [0] [2, 3, 4] ?_
 refine aO [] [] 7 ?_
 refine Lt 0 [] (([(l[k]'a0).val]).map I) (λ I0 t0 D0 i0 => ?_)
 refine os 0 [] [3, 4, 5] ?_
 refine aO [] [] 8 ?_
 refine aM 0 [] 2 (i0.rd 0 rfl) (λ J0 e0 f0 E0 w0 => ?_) (hn := t3) (hb := t3)
 refine os 0 [] [3, 4, 5] ?_
 refine aO [9] [] 10 ?_
 refine Sb 0 [] 1 λ H0 g0 => ?_
 refine os 0 [] [3, 4, 5] ?_
 refine an [] [] ?_
 refine ov 2 [] (a := bL (k + 1)) (b := ?_)
 have o0 : ((l.take k).map PairT.val ++ [(l[k]'a0).val] : List Int) = (l.take (k + 1)).map PairT.val := (yK a0)
 have y0 := g0.reM 2 o0
 have P0 := y0.reB 1 2 (show ((l.take k).map PairT.val ++ [(l[k]'a0).val]).length = ((l.take (k + 1)).map PairT.val).length from congrArg List.length o0)
 exact le3 2 [] (k + 1) e0 f0 [1, 2, 3, 4, 5] (h := t9)
 refine Lt 0 [] (([(l[k]'a0).val]).map I) (λ I0 t0 D0 i0 => ?_)
 refine os 0 [] [3, 4, 5] ?_
 refine aO [] [] 1 ?_
 refine os 1 [1] [3, 4, 5] ?_
 refine aO [] [] 8 ?_
 refine aM 0 [] 2 (i0.rd 0 rfl) (λ J0 e0 f0 E0 w0 => ?_) (hn := t3) (hb := t3)
 refine os 0 [] [3, 4, 5] ?_
 refine aO [9] [] 10 ?_
 refine Sb 0 [] 1 λ H0 g0 => ?_
 refine os 0 [] [3, 4, 5] ?_
 refine an [] [] ?_
 refine ov 2 [] (a := bL (k + 1)) (b := ?_)
 have p0 : ((l.take k).map PairT.val ++ [(l[k]'a0).val] : List Int) = (l.take (k + 1)).map PairT.val := (yK a0)
 have z0 := g0.reM 2 p0
 have Q0 := z0.reB 1 2 (show ((l.take k).map PairT.val ++ [(l[k]'a0).val]).length = ((l.take (k + 1)).map PairT.val).length from congrArg List.length p0)
 exact le3 2 [] (k + 1) e0 f0 [1, 2, 3, 4, 5] (h := t9)
 refine Sb 4 [0] 4 λ h1 m0 => ?_
 refine EG 2 [] ?_
 refine PG (vs := [.agg #[.slice b0 (bG l).length d0, .slice (bl c0) 0 0, .slice A2 ((l.take k).map PairT.val).length c2]]) (bX.cell (l := [.slice b0 (bG l).length d0, .slice (bl c0) 0 0, .slice A2 ((l.take k).map PairT.val).length c2]) rfl (cA (i := 4) (j := 0) m0 rfl rfl) tJ rfl bX.nil) ?_
 have F0 : ([] : List Int) = ([] : List Int) := t2
 have A0 := m0.reM 2 F0 (f := I)
 have B0 := A0.rM 1 (l.map PairT.val : List Int) (e := by rw [aE t1])
 exact ⟨b0, d0, bl c0, 0, A2, c2, (by rw [aE t1]; rfl), (B0.pk [3, 2, 1])⟩
theorem fO (p : PgL) (w : World) (hNp : PgN w p) :
  aR Tryz.prog 129 [.agg #[.slice p.k.A p.k.l.length p.k.cp, .slice p.c.A p.c.l.length p.c.cp, .slice p.v.A p.v.l.length p.v.cp]] w (λ v w1 => v = .agg #[.slice p.k.A p.k.l.length p.k.cp, .slice p.c.A p.c.l.length p.c.cp] /\ Mem w w1 [] []) := by
 have hM : Mem w w [] [] := Mem.refl
 refine aR.nG (rs := [.cell 2 65]) Tryz.func129 rfl Tryz.results129 Tryz.ntmps129 rfl ?_
 refine Bx 2 [] λ h0 b0 f0 d0 => ?_
 refine Al 0 [] λ i0 c0 g0 e0 => ?_
 refine Sb 8 [1, 1] 0 λ j0 a0 => ?_
 refine EG 2 [] ?_
 refine PG (vs := [.agg #[.slice p.k.A p.k.l.length p.k.cp, .slice p.c.A p.c.l.length p.c.cp]]) (bX.cell (l := [.slice p.k.A p.k.l.length p.k.cp, .slice p.c.A p.c.l.length p.c.cp]) rfl (cA (i := 0) (j := 0) a0 rfl rfl) tK rfl bX.nil) ?_
 exact ⟨rfl, (Mem.none a0)⟩
theorem eD (KA : Option Addr) (kc : Nat) (kl : List Int) (CA : Option Addr) (cc : Nat) (cl : List Int) (w : World) (hRK : Rd w KA (kl.map I)) (hRC : Rd w CA (cl.map I)) :
  aR Tryz.prog 130 [.agg #[.slice KA kl.length kc, .slice CA cl.length cc]] w (λ v w1 => ∃ (A1 : Option Addr) (c1 : Nat), v = .agg #[.slice KA kl.length kc, .slice CA cl.length cc, .slice A1 ([] : List Int).length c1] /\ Mem w w1 [] [oI A1 c1 ([] : List Int)]) := by
 have hM : Mem w w [] [] := Mem.refl
 refine aR.nG (rs := [.cell 2 42]) Tryz.func130 rfl Tryz.results130 Tryz.ntmps130 rfl ?_
 refine Bx 2 [] λ m0 e0 j0 g0 => ?_
 refine Al 0 [] λ n0 f0 k0 h0 => ?_
 refine Lt 7 [1, 1] (([]).map I) (λ o0 a0 l0 i0 => ?_)
 refine Sb 1 [] 1 λ p0 b0 => ?_
 refine EG 2 [] ?_
 refine PG (vs := [.agg #[.slice KA kl.length kc, .slice CA cl.length cc, .slice (bl a0) 0 0]]) (bX.cell (l := [.slice KA kl.length kc, .slice CA cl.length cc, .slice (bl a0) 0 0]) rfl (cA (i := 1) (j := 0) b0 rfl rfl) tJ rfl bX.nil) ?_
 have d0 : ([] : List Int) = ([] : List Int) := t2
 have c0 := b0.reM 0 d0 (f := I)
 exact ⟨bl a0, 0, (by first | rfl | exact sl_congr t8 | (simp; done)), (c0.pk [0])⟩
theorem nJ (A : Option Addr) (c : Nat) (l : List Int) (n : Int) (w : World) (hA : Rd w A (l.map I)) (hl : l.length <= 1048576) :
  aR Tryz.prog 132 [.slice A l.length c, I n] w (λ v w1 => v = I (dE l n) /\ Mem w w1 [] []) := by
 have hM : Mem w w [] [] := Mem.refl
 refine aR.n1 Tryz.func132 rfl Tryz.results132 Tryz.ntmps132 rfl ?_
 refine lp1 10 [] (λ (k : Nat) => ([(5, Vi ((k : Nat) : Int))] : List (Nat × SV))) (λ k => (k <= l.length) /\ (∀ x ∈ l.take k, x ≠ n)) (λ k => []) (λ k => l.length - k) [0, 1] [] [] 0 (λ k σ e0 hI a0 => ?_) (h0 := ⟨(bI _), t15⟩)
 obtain ⟨d0, c0⟩ := hI
 refine cd 8 [] (λ c9 => ?_) (λ c9 => ?_)
 have b0 : k < l.length := t3
 refine ov 7 [] (a := cG b0 (hA.at a0)) (b := ?_)
 refine ov 0 [] (a := eT b0 (hA.at a0)) (b := ?_)
 refine cd 3 [] (λ c17 => ?_) (λ c17 => ?_)
 refine E1 6 [] (I ((k : Nat) : Int)) ?_
 exact ⟨(I_congr (by rw [aCu b0 c17 c0])), (Mem.none a0)⟩
 refine ov 3 [] (a := bL (k + 1)) (b := ?_)
 exact le1 2 [] (k + 1) [] (h := by exact ⟨t7, (yL c0 b0 c17)⟩)
 refine E1 6 [] (I (-1)) ?_
 exact ⟨(I_congr (by rw [aJt (by have := c0; rwa [aE t1] at this)])), (Mem.none a0)⟩
set_option maxHeartbeats 2000000 in
theorem eN (KA : Option Addr) (kc : Nat) (kl : List Int) (CA : Option Addr) (cc : Nat) (cl : List Int) (w : World) (hRK : Rd w KA (kl.map I)) (hRC : Rd w CA (cl.map I)) (hcp : kl.length <= kc /\ cl.length <= cc) (h1 : 1 <= kl.length /\ kl.length <= 1000) (h2 : cl.length = kl.length + 1) :
  aR Tryz.prog 128 [.agg #[.slice KA kl.length kc, .slice CA cl.length cc]] w (λ v w1 => ∃ (A1 : Option Addr) (c1 : Nat) (A2 : Option Addr) (c2 : Nat) (A3 : Option Addr) (c3 : Nat) (A4 : Option Addr) (c4 : Nat), v = .tuple #[.agg #[.slice A1 (kl.take (kl.length / 2)).length c1, .slice A2 (cl.take (kl.length / 2 + 1)).length c2], I (kl.getD (kl.length / 2) 0), .agg #[.slice A3 (kl.drop (kl.length / 2 + 1)).length c3, .slice A4 (cl.drop (kl.length / 2 + 1)).length c4]] /\ Mem w w1 [] [oI A1 c1 (kl.take (kl.length / 2)), oI A2 c2 (cl.take (kl.length / 2 + 1)), oI A3 c3 (kl.drop (kl.length / 2 + 1)), oI A4 c4 (cl.drop (kl.length / 2 + 1))]) := by
 have hM : Mem w w [] [] := Mem.refl
 refine aR.nG (rs := [.cell 2 65, .tmp 3, .cell 4 65]) Tryz.func128 rfl Tryz.results128 Tryz.ntmps128 rfl ?_
 refine Bx 2 [] λ L1 m1 C1 p1 => ?_
 refine Al 0 [] λ M1 n1 D1 q1 => ?_
 refine Al 1 [] λ N1 o1 E1 r1 => ?_
 refine ov 6 [2] (a := aAr (kl.length / 2)) (b := ?_)
 refine ct5 2 [] (λ (bx6 : Nat) (a0 : Option Addr) (e0 : Nat) (b0 : Option Addr) (f0 : Nat) => ([(6, Vp (bl bx6) 0)] : List (Nat × SV))) (λ bx6 a0 e0 b0 f0 => True) (λ bx6 a0 e0 b0 f0 => [[⟨.slice (bl bx6) 1 1, 65, 2, 1, [.slice a0 (kl.take (kl.length / 2)).length e0, .slice b0 (cl.take (kl.length / 2 + 1)).length f0]⟩], oI a0 e0 (kl.take (kl.length / 2)), oI b0 f0 (cl.take (kl.length / 2 + 1))]) [1, 2, 4, 5] [0, 1, 2] ?_ (λ bx6 a0 e0 b0 f0 σ R1 hI P0 => ?_)
 refine any 0 [] 14 [0, 1, 2] λ k1 N0 => ?_
 refine av [0, 1, 2] [2] 3 (s := Vl KA (kl.take (kl.length / 2)).length kc) (a := by exact λ w2 hw2 => cv (Ru.congr (Ru.lsliceTo (h := (kl.length / 2)) Tryz.underlying30 el3 rfl rfl t1 t1) (sl_congr t6)) rfl) (b := ?_)
 refine av [5, 6, 7] [2] 8 (a := by exact λ _ hw2 => bL ((kl.length / 2) + 1)) (b := ?_)
 refine av [] [] 9 (s := Vl CA (cl.take ((kl.length / 2) + 1)).length cc) (a := by exact λ w2 hw2 => cv (Ru.congr (Ru.lsliceTo (h := ((kl.length / 2) + 1)) Tryz.underlying30 el3 rfl rfl t1 t1) (sl_congr t6)) rfl) (b := ?_)
 refine aT [] [] 4 12 ?_ ?_
 refine cq 0 [] (b := cM _ _ _ k1 (fE (hRK.at N0)) q0) (c := ?_)
 rintro _ L0 ⟨A0, C0, rfl, I0⟩
 have j0 := N0.cl 0 I0
 have i1 := (j0.cap 0 rfl).1
 refine os 0 [] [1, 2, 3] ?_
 refine aT [] [] 10 12 ?_ ?_
 refine cq 0 [] (b := cM _ _ _ L0 (fE (hRC.at j0)) q0) (c := ?_)
 rintro _ V0 ⟨n0, s0, rfl, y0⟩
 have u0 := j0.cl 0 y0
 have S0 := (u0.cap 0 rfl).1
 refine os 0 [] [2, 3, 4] ?_
 refine aO [11] [] 12 ?_
 refine Al 0 [] λ F0 p0 Q0 l0 => ?_
 refine os 0 [] [3, 4, 5] ?_
 refine aO [] [] 13 ?_
 refine Sb 0 [] 0 λ W0 v0 => ?_
 refine os 0 [] [3, 4, 5] ?_
 refine an [] [] ?_
 have a1 := v0.rM 2 (kl.take (kl.length / 2) : List Int) (e := t2)
 have U0 : ((cl.take ((kl.length / 2) + 1)) : List Int) = cl.take (kl.length / 2 + 1) := t2
 have x1 := a1.reM 1 U0
 exact ce5 0 [] p0 A0 C0 n0 s0 [0, 2, 1, 3, 4, 5] (h := t12)
 refine Al 0 [] λ F0 p0 Q0 l0 => ?_
 refine os 0 [] [2, 3, 4] ?_
 refine aO [] [] 10 ?_
 refine cq 0 [] (b := cM _ _ _ F0 (fE (hRC.at l0)) q0) (c := ?_)
 rintro _ V0 ⟨n0, s0, rfl, y0⟩
 have u0 := l0.cl 0 y0
 have S0 := (u0.cap 0 rfl).1
 refine os 0 [] [3, 4, 5] ?_
 refine aO [11] [] 13 ?_
 refine Sb 0 [] 1 λ W0 v0 => ?_
 refine os 0 [] [3, 4, 5] ?_
 refine an [] [] ?_
 have d1 := v0.rM 2 (kl.take (kl.length / 2) : List Int) (e := t2)
 have y1 := d1.rM 0 (cl.take (kl.length / 2 + 1) : List Int) (e := t2)
 exact ce5 0 [] p0 A0 C0 n0 s0 [1, 2, 0, 3, 4, 5] (h := t12)
 refine Al 0 [] λ F0 p0 Q0 l0 => ?_
 refine os 0 [] [1, 2, 3] ?_
 refine aO [] [] 4 ?_
 refine cq 0 [] (b := cM _ _ _ F0 (fE (hRK.at l0)) q0) (c := ?_)
 rintro _ L0 ⟨A0, C0, rfl, I0⟩
 have j0 := l0.cl 0 I0
 have i1 := (j0.cap 0 rfl).1
 refine os 0 [] [2, 3, 4] ?_
 refine aO [] [] 10 ?_
 refine cq 0 [] (b := cM _ _ _ L0 (fE (hRC.at j0)) q0) (c := ?_)
 rintro _ V0 ⟨n0, s0, rfl, y0⟩
 have u0 := j0.cl 0 y0
 have S0 := (u0.cap 0 rfl).1
 refine os 0 [] [3, 4, 5] ?_
 refine aO [11] [] 13 ?_
 refine Sb 0 [] 2 λ W0 v0 => ?_
 refine os 0 [] [3, 4, 5] ?_
 refine an [] [] ?_
 have e1 := v0.rM 1 (kl.take (kl.length / 2) : List Int) (e := t2)
 have z1 := e1.rM 0 (cl.take (kl.length / 2 + 1) : List Int) (e := t2)
 exact ce5 0 [] p0 A0 C0 n0 s0 [2, 1, 0, 3, 4, 5] (h := t12)
 have F1 := (P0.cap 1 rfl).1
 have H1 := (P0.cap 2 rfl).1
 refine ct5 0 [] (λ (bx7 : Nat) (c0 : Option Addr) (g0 : Nat) (d0 : Option Addr) (i0 : Nat) => ([(7, Vp (bl bx7) 0)] : List (Nat × SV))) (λ bx7 c0 g0 d0 i0 => True) (λ bx7 c0 g0 d0 i0 => [[⟨.slice (bl bx7) 1 1, 65, 2, 1, [.slice c0 (kl.drop (kl.length / 2 + 1)).length g0, .slice d0 (cl.drop (kl.length / 2 + 1)).length i0]⟩], oI c0 g0 (kl.drop (kl.length / 2 + 1)), oI d0 i0 (cl.drop (kl.length / 2 + 1))]) [1, 2, 4, 5, 6] [0, 1, 2, 3, 4, 5] ?_ (λ bx7 c0 g0 d0 i0 σ S1 hI E0 => ?_)
 refine any 0 [] 15 [0, 1, 2, 3, 4, 5] λ l1 O0 => ?_
 refine av [0, 1, 2] [5] 3 (a := by exact λ _ hw2 => bL ((kl.length / 2) + 1)) (b := ?_)
 refine av [] [] 4 (s := Vl (if kc = ((kl.length / 2) + 1) then KA else ofs KA (((kl.length / 2) + 1) * 1)) (kl.drop ((kl.length / 2) + 1)).length (kc - ((kl.length / 2) + 1))) (a := by exact λ w2 hw2 => cv (Ru.congr (Ru.lsliceFrom (l := ((kl.length / 2) + 1)) Tryz.underlying30 el3 rfl rfl t1 t1) (sl_congr t6)) rfl) (b := ?_)
 refine av [6, 7, 8] [5] 9 (a := by exact λ _ hw2 => bL ((kl.length / 2) + 1)) (b := ?_)
 refine av [] [] 10 (s := Vl (if cc = ((kl.length / 2) + 1) then CA else ofs CA (((kl.length / 2) + 1) * 1)) (cl.drop ((kl.length / 2) + 1)).length (cc - ((kl.length / 2) + 1))) (a := by exact λ w2 hw2 => cv (Ru.congr (Ru.lsliceFrom (l := ((kl.length / 2) + 1)) Tryz.underlying30 el3 rfl rfl t1 t1) (sl_congr t6)) rfl) (b := ?_)
 refine aT [] [] 5 13 ?_ ?_
 refine cq 0 [] (b := cM _ _ _ l1 (fK (k := ((kl.length / 2) + 1)) (c := kc) (hRK.at O0) q2 q2) q0) (c := ?_)
 rintro _ M0 ⟨B0, D0, rfl, J0⟩
 have k0 := O0.cl 0 J0
 have j1 := (k0.cap 0 rfl).1
 refine os 0 [] [1, 2, 3, 4, 5, 6] ?_
 refine aT [] [] 11 13 ?_ ?_
 refine cq 0 [] (b := cM _ _ _ M0 (fK (k := ((kl.length / 2) + 1)) (c := cc) (hRC.at k0) q2 q2) q0) (c := ?_)
 rintro _ X0 ⟨o0, t0, rfl, z0⟩
 have w0 := k0.cl 0 z0
 have T0 := (w0.cap 0 rfl).1
 refine os 0 [] [2, 3, 4, 5, 6, 7] ?_
 refine aO [12] [] 13 ?_
 refine Al 0 [] λ G0 r0 R0 m0 => ?_
 refine os 0 [] [3, 4, 5, 6, 7, 8] ?_
 refine aO [] [] 14 ?_
 refine Sb 0 [] 0 λ Y0 x0 => ?_
 refine os 0 [] [3, 4, 5, 6, 7, 8] ?_
 refine an [] [] ?_
 have f1 := x0.rM 2 (kl.drop (kl.length / 2 + 1) : List Int) (e := t2)
 have B1 := f1.rM 1 (cl.drop (kl.length / 2 + 1) : List Int) (e := t2)
 exact ce5 0 [] r0 B0 D0 o0 t0 [0, 2, 1, 3, 4, 5, 6, 7, 8] (h := t12)
 refine Al 0 [] λ G0 r0 R0 m0 => ?_
 refine os 0 [] [2, 3, 4, 5, 6, 7] ?_
 refine aO [] [] 11 ?_
 refine cq 0 [] (b := cM _ _ _ G0 (fK (k := ((kl.length / 2) + 1)) (c := cc) (hRC.at m0) q2 q2) q0) (c := ?_)
 rintro _ X0 ⟨o0, t0, rfl, z0⟩
 have w0 := m0.cl 0 z0
 have T0 := (w0.cap 0 rfl).1
 refine os 0 [] [3, 4, 5, 6, 7, 8] ?_
 refine aO [12] [] 14 ?_
 refine Sb 0 [] 1 λ Y0 x0 => ?_
 refine os 0 [] [3, 4, 5, 6, 7, 8] ?_
 refine an [] [] ?_
 have g1 := x0.rM 2 (kl.drop (kl.length / 2 + 1) : List Int) (e := t2)
 have u1 := g1.rM 0 (cl.drop (kl.length / 2 + 1) : List Int) (e := t2)
 exact ce5 0 [] r0 B0 D0 o0 t0 [1, 2, 0, 3, 4, 5, 6, 7, 8] (h := t12)
 refine Al 0 [] λ G0 r0 R0 m0 => ?_
 refine os 0 [] [1, 2, 3, 4, 5, 6] ?_
 refine aO [] [] 5 ?_
 refine cq 0 [] (b := cM _ _ _ G0 (fK (k := ((kl.length / 2) + 1)) (c := kc) (hRK.at m0) q2 q2) q0) (c := ?_)
 rintro _ M0 ⟨B0, D0, rfl, J0⟩
 have k0 := m0.cl 0 J0
 have j1 := (k0.cap 0 rfl).1
 refine os 0 [] [2, 3, 4, 5, 6, 7] ?_
 refine aO [] [] 11 ?_
 refine cq 0 [] (b := cM _ _ _ M0 (fK (k := ((kl.length / 2) + 1)) (c := cc) (hRC.at k0) q2 q2) q0) (c := ?_)
 rintro _ X0 ⟨o0, t0, rfl, z0⟩
 have w0 := k0.cl 0 z0
 have T0 := (w0.cap 0 rfl).1
 refine os 0 [] [3, 4, 5, 6, 7, 8] ?_
 refine aO [12] [] 14 ?_
 refine Sb 0 [] 2 λ Y0 x0 => ?_
 refine os 0 [] [3, 4, 5, 6, 7, 8] ?_
 refine an [] [] ?_
 have b1 := x0.rM 1 (kl.drop (kl.length / 2 + 1) : List Int) (e := t2)
 have v1 := b1.rM 0 (cl.drop (kl.length / 2 + 1) : List Int) (e := t2)
 exact ce5 0 [] r0 B0 D0 o0 t0 [2, 1, 0, 3, 4, 5, 6, 7, 8] (h := t12)
 have G1 := (E0.cap 1 rfl).1
 have I1 := (E0.cap 2 rfl).1
 have J1 := (E0.cap 4 rfl).1
 have K1 := (E0.cap 5 rfl).1
 have U0 : kl.length / 2 < kl.length := by omega
 refine any 1 [] 10 [0, 1, 2, 3, 4, 5, 8] λ Q1 Z0 => ?_
 have K0 : (kl.length / 2) < kl.length := t1
 refine av [0, 1, 2, 3] [3, 6] 4 (a := by exact λ _ hw2 => cG K0 (hRK.at Z0) (h0 := t1)) (b := ?_)
 refine av [] [] 5 (s := Vi (kl.getD (kl.length / 2) 0)) (a := by exact λ w2 hw2 => cv (Ru.congr (Ru.load1 el3 rfl (ldm (hRK.at hw2) K0)) (I_congr (bF K0).symm)) rfl) (b := ?_)
 refine aO [6] [0] 7 ?_
 refine Sb 0 [] 7 λ O1 s1 => ?_
 refine os 0 [] [0, 1, 2, 3, 4, 5, 8] ?_
 refine aO [8] [] 9 ?_
 refine Sb 0 [] 6 λ P1 H0 => ?_
 refine os 0 [] [0, 1, 2, 3, 4, 5, 8] ?_
 refine an [] [] ?_
 refine EG 1 [] ?_
 refine PG (vs := [.agg #[.slice a0 (kl.take (kl.length / 2)).length e0, .slice b0 (cl.take (kl.length / 2 + 1)).length f0], I (kl.getD (kl.length / 2) 0), .agg #[.slice c0 (kl.drop (kl.length / 2 + 1)).length g0, .slice d0 (cl.drop (kl.length / 2 + 1)).length i0]]) (bX.cell (l := [.slice a0 (kl.take (kl.length / 2)).length e0, .slice b0 (cl.take (kl.length / 2 + 1)).length f0]) rfl (cA (i := 7) (j := 0) H0 rfl rfl) tK rfl (bX.tmp rfl (bX.cell (l := [.slice c0 (kl.drop (kl.length / 2 + 1)).length g0, .slice d0 (cl.drop (kl.length / 2 + 1)).length i0]) rfl (cA (i := 6) (j := 0) H0 rfl rfl) tK rfl bX.nil))) ?_
 exact ⟨a0, e0, b0, f0, c0, g0, d0, i0, (by first | rfl | exact sl_congr t8 | (simp; done)), (H0.pk [4, 5, 1, 2])⟩
set_option maxHeartbeats 2000000 in
theorem uX (KA : Option Addr) (kc : Nat) (kl : List Int) (CA : Option Addr) (cc : Nat) (cl : List Int) (pl : Int) (key : Int) (kid : Int) (w : World) (hRK : Rd w KA (kl.map I)) (hRC : Rd w CA (cl.map I)) (hcp : kl.length <= kc /\ cl.length <= cc) (h0 : 0 <= pl /\ pl <= (kl.length : Int)) (h1 : kl.length <= 1000) (h2 : cl.length = kl.length + 1) :
  aR Tryz.prog 131 [.agg #[.slice KA kl.length kc, .slice CA cl.length cc], I pl, I key, I kid] w (λ v w1 => ∃ (A1 : Option Addr) (c1 : Nat) (A2 : Option Addr) (c2 : Nat), v = .agg #[.slice A1 (kl.take pl.toNat ++ [key] ++ kl.drop pl.toNat).length c1, .slice A2 (cl.take (pl.toNat + 1) ++ [kid] ++ cl.drop (pl.toNat + 1)).length c2] /\ Mem w w1 [] [oI A1 c1 (kl.take pl.toNat ++ [key] ++ kl.drop pl.toNat), oI A2 c2 (cl.take (pl.toNat + 1) ++ [kid] ++ cl.drop (pl.toNat + 1))]) := by
 have hM : Mem w w [] [] := Mem.refl
 refine aR.nG (rs := [.cell 8 65]) Tryz.func131 rfl Tryz.results131 Tryz.ntmps131 rfl ?_
 refine Bx 2 [] λ U0 z0 K0 H0 => ?_
 refine Al 0 [] λ t0 A0 L0 e0 => ?_
 have hpe : (pl + 1).toNat = pl.toNat + 1 := by omega
 refine ov 6 [1] (s := Vl KA (kl.take pl.toNat).length kc) (a := by exact cv (Ru.congr (Ru.lsliceTo (h := pl.toNat) Tryz.underlying30 el3 rfl rfl t1 t1) (sl_congr t6)) rfl) (b := ?_)
 refine cq 0 [] (b := cM _ _ _ t0 (fE (hRK.at e0)) q0) (c := ?_)
 rintro _ V0 ⟨v0, D0, rfl, r0⟩
 have i0 := e0.cl 0 r0
 have S0 := (i0.cap 0 rfl).1
 refine Lt 1 [] (([key]).map I) (λ W0 B0 M0 j0 => ?_)
 refine aM 0 [] 1 (j0.rd 0 rfl) (λ u0 x0 F0 O0 f0 => ?_)
 refine ov 7 [3] (a := oW) (b := ?_)
 refine ov 0 [] (s := Vl CA (cl.take (pl + 1).toNat).length cc) (a := by exact cv (Ru.congr (Ru.lsliceTo (h := (pl + 1).toNat) Tryz.underlying30 el3 rfl rfl t1 t1) (sl_congr t6)) rfl) (b := ?_)
 refine cq 0 [] (b := cM _ _ _ u0 (fE (hRC.at f0)) q0) (c := ?_)
 rintro _ X0 ⟨w0, E0, rfl, s0⟩
 have k0 := f0.cl 0 s0
 have T0 := (k0.cap 0 rfl).1
 refine Lt 1 [] (([kid]).map I) (λ Y0 C0 N0 l0 => ?_)
 refine aM 0 [] 1 (l0.rd 0 rfl) (λ Z0 y0 G0 P0 I0 => ?_)
 refine any 3 [] 15 [0, 2, 5] λ e1 n0 => ?_
 refine av [0, 1, 2, 3] [2] 4 (s := Vl (if kc = pl.toNat then KA else ofs KA (pl.toNat * 1)) (kl.drop pl.toNat).length (kc - pl.toNat)) (a := by exact λ w2 hw2 => cv (Ru.congr (Ru.lsliceFrom (l := pl.toNat) Tryz.underlying30 el3 rfl rfl t1 t1) (sl_congr t6)) rfl) (b := ?_)
 refine av [6, 7, 8, 9] [2] 10 (a := by exact λ _ hw2 => oW) (b := ?_)
 refine av [] [] 11 (s := Vl (if cc = (pl + 1).toNat then CA else ofs CA ((pl + 1).toNat * 1)) (cl.drop (pl + 1).toNat).length (cc - (pl + 1).toNat)) (a := by exact λ w2 hw2 => cv (Ru.congr (Ru.lsliceFrom (l := (pl + 1).toNat) Tryz.underlying30 el3 rfl rfl t1 t1) (sl_congr t6)) rfl) (b := ?_)
 refine aO [] [] 5 ?_
 refine aM 0 [] 3 (fK (k := pl.toNat) (c := kc) (hRK.at n0) q2 q2) (λ d1 b0 d0 R0 m0 => ?_)
 refine os 0 [] [0, 2, 5] ?_
 refine aO [] [] 12 ?_
 refine aM 0 [] 1 (fK (k := (pl + 1).toNat) (c := cc) (hRC.at m0) q2 q2) (λ a1 a0 c0 Q0 J0 => ?_)
 refine os 0 [] [0, 2, 5] ?_
 refine aO [13] [] 14 ?_
 refine Sb 0 [] 4 λ b1 g0 => ?_
 refine os 0 [] [0, 2, 5] ?_
 refine an [] [] ?_
 refine EG 1 [] ?_
 refine PG (vs := [.agg #[.slice b0 ((kl.take pl.toNat) ++ [key] ++ kl.drop pl.toNat).length d0, .slice a0 ((cl.take (pl + 1).toNat) ++ [kid] ++ cl.drop (pl + 1).toNat).length c0]]) (bX.cell (l := [.slice b0 ((kl.take pl.toNat) ++ [key] ++ kl.drop pl.toNat).length d0, .slice a0 ((cl.take (pl + 1).toNat) ++ [kid] ++ cl.drop (pl + 1).toNat).length c0]) rfl (cA (i := 4) (j := 0) g0 rfl rfl) tK rfl bX.nil) ?_
 have o0 := g0.rM 3 (kl.take pl.toNat ++ [key] ++ kl.drop pl.toNat : List Int) (e := t2)
 have p0 := o0.rM 1 (cl.take (pl.toNat + 1) ++ [kid] ++ cl.drop (pl.toNat + 1) : List Int) (e := by rw [hpe])
 exact ⟨b0, d0, a0, c0, (by rw [hpe]; first | rfl | (simp; done)), (p0.pk [3, 1])⟩
theorem vK (T : bN) (key : Int) (w : World) (hNT : TrN w T) (hs : SzT T) (hv : aN T.t = true) :
  aR Tryz.prog 125 [.agg #[I T.root, .slice T.A T.l.length T.cp], I key] w (λ v w1 => ∃ (A1 : Option Addr) (c1 : Nat), v = .slice A1 (aY T.t key).length c1 /\ Mem w w1 [] [oI A1 c1 (aY T.t key)]) := by
 have hM : Mem w w [] [] := Mem.refl
 refine aR.n1 Tryz.func125 rfl Tryz.results125 Tryz.ntmps125 rfl ?_
 have hvk := eF hv
 have hvo := hvk.2.1
 have hv3 := hvk.1
 have hh1 := qE (T := T.t)
 have hs1 := hs.1
 refine Bx 2 [] λ S0 J0 O0 K0 => ?_
 refine Lt 6 [0] (([T.root]).map I) (λ T0 s0 P0 v0 => ?_)
 have L0 := v0.rM 0 (([] : List Int) ++ [T.root] : List Int) (e := rfl)
 refine lp7 4 [] (λ (pre : List Int) (cur : Int) (e : Nat) (lo2 : Int) (hi2 : Int) (A2 : Option Addr) (c2 : Nat) => ([(5, Vl A2 (pre ++ [cur]).length c2)] : List (Nat × SV))) (λ pre cur e lo2 hi2 A2 c2 => (pre.length + e <= 2) /\ (aY T.t key = pre ++ iY T.t key (e + 1) cur) /\ (okB T.t (e + 1) cur lo2 hi2 = true)) (λ pre cur e lo2 hi2 A2 c2 => [oI A2 c2 (pre ++ [cur])]) (λ pre cur e lo2 hi2 A2 c2 => e) [1, 2] [0] [1] (([] : List Int) : List Int) T.root (bH T.t - 1) (0 : Int) (100 : Int) (bl s0) 1 (λ pre cur e lo2 hi2 A2 c2 σ W0 hI y0 => ?_) (h0 := ⟨t22, (by (try dsimp only); rw [show bH T.t - 1 + 1 = bH T.t by omega]; rfl), (by (try dsimp only); rw [show bH T.t - 1 + 1 = bH T.t by omega]; exact hvo)⟩)
 obtain ⟨R0, l0, D0⟩ := hI
 have Q0 := (y0.cap 0 rfl).1
 have hok := D0
 have hpl1 : (pre ++ [cur]).length = pre.length + 1 := by simp
 have hcu := fI.1 (iX hok)
 have hjx : cur.toNat < T.l.length := by omega
 have hgp : gP T.t cur = (T.l[cur.toNat]'hjx).t := jH rfl hjx
 refine dr 2 [] ?_
 refine qv 5 [1] (a := by exact λ _ hw2 => eV (h := t3)) (b := ?_)
 have p0 : pre.length < (pre ++ [cur]).length := t11
 refine qv 0 [] (a := by exact λ _ hw2 => cG p0 (hw2.rd 0 rfl) (h0 := t3)) (b := ?_)
 refine qv 0 [] (s := Vi cur) (a := by exact λ w2 hw2 => cv (Ru.congr (Ru.load1 el3 rfl (ldm (hw2.rd 0 rfl) p0)) (I_congr t11)) rfl) (b := ?_)
 have m0 : cur.toNat < T.l.length := t1
 refine qv 0 [] (a := by exact λ _ hw2 => cJ m0 (hNT.at hw2).1 (h0 := t1)) (b := ?_)
 refine qv 0 [] (a := by exact λ _ hw2 => fZ m0 (hNT.at hw2).1) (b := ?_)
 refine qv 0 [] (a := by exact λ _ hw2 => gF m0 (hNT.at hw2).1) (b := ?_)
 refine qn 2 [] λ U0 w0 => ?_
 refine cd 0 [] (λ c22 => ?_) (λ c22 => ?_)
 have hkn : (gP T.t cur).kids ≠ [] := by rw [hgp]; intro e9; exact absurd (show (T.l[cur.toNat]'hjx).c.l.length = 0 from congrArg List.length e9) t1
 have hrl := nL (key := key) hok hkn
 have hpg := qM (key := key) hok hkn
 have hok1 := iC hok hrl
 have hen : e ≠ 0 := λ e9 => hkn ((pL hok).2 e9)
 have hrl2 : gW (T.l[cur.toNat]'hjx).k.l key < (T.l[cur.toNat]'hjx).c.l.length := by have h9 := hrl; rw [hgp] at h9; exact h9
 obtain ⟨kid, hkid⟩ : ∃ z, z = ((T.l[cur.toNat]'hjx).c.l)[gW (T.l[cur.toNat]'hjx).k.l key]'hrl2 := ⟨_, rfl⟩
 have hkk : (gP T.t cur).kids[gW (gP T.t cur).keys key]'hrl = kid := by rw [hkid]; simp only [hgp]; rfl
 rw [hkk] at hpg hok1
 have hsz := hs.at hjx
 have hvk2 := kI (dL.1 hok).2.1
 rw [hgp] at hvk2
 refine any 3 [] 12 [0, 1] λ V0 g0 => ?_
 refine av [0, 1, 2, 3, 4] [1] 5 (a := by exact λ _ hw2 => eV (h := t3)) (b := ?_)
 have r0 : pre.length < (pre ++ [cur]).length := t11
 refine av [] [] 6 (a := by exact λ _ hw2 => cG r0 (g0.rd 0 rfl) (h0 := t3)) (b := ?_)
 refine av [] [] 7 (s := Vi cur) (a := by exact λ w2 hw2 => cv (Ru.congr (Ru.load1 el3 rfl (ldm (hw2.rd 0 rfl) r0)) (I_congr t11)) rfl) (b := ?_)
 have a0 : cur.toNat < T.l.length := t1
 refine av [] [] 8 (a := by exact λ _ hw2 => cJ a0 (hNT.at g0).1 (h0 := t1)) (b := ?_)
 refine aT [] [] 9 10 ?_ ?_
 refine ov 0 [] (a := gL a0 (hNT.at g0).1) (b := ?_)
 refine os 0 [] [0, 1] ?_
 refine aO [] [] 10 ?_
 refine Al 0 [] λ E0 t0 A0 o0 => ?_
 refine os 0 [] [1, 2] ?_
 refine aO [] [] 11 ?_
 refine Sb 0 [] 0 λ F0 x0 => ?_
 refine os 0 [] [1, 2] ?_
 refine an [] [] ?_
 refine any 0 [] 12 [0, 2] λ n0 c0 => ?_
 refine aO [0, 1, 2, 3, 4, 5] [0, 0] 6 ?_
 refine cq 0 [] (b := aGn (T.l[cur.toNat]'a0).k.A (T.l[cur.toNat]'a0).k.cp (T.l[cur.toNat]'a0).k.l _ n0 ((hNT.at c0).2.get a0).1 q0) (c := ?_)
 rintro _ H0 ⟨rfl, k0⟩
 have b0 := c0.cl 0 k0
 refine os 0 [] [0, 2] ?_
 have d0 : gW (T.l[cur.toNat]'hjx).k.l key < (T.l[cur.toNat]'a0).c.l.length := hrl2
 refine av [] [] 7 (a := by exact λ _ hw2 => cG d0 ((hNT.at b0).2.get a0).2.1 (h0 := t3)) (b := ?_)
 refine aO [] [] 8 ?_
 refine ov 0 [] (s := Vi kid) (a := by exact cv (Ru.congr (Ru.load1 el3 rfl (ldm ((hNT.at b0).2.get a0).2.1 d0)) (I_congr hkid.symm)) rfl) (b := ?_)
 refine os 0 [] [0, 2] ?_
 refine aO [] [] 9 ?_
 refine Lt 0 [] (([kid]).map I) (λ I0 u0 B0 j0 => ?_)
 refine os 0 [] [1, 3] ?_
 refine aO [] [] 10 ?_
 refine aM 0 [] 2 (j0.rd 0 rfl) (λ G0 e0 f0 C0 i0 => ?_) (hn := t3) (hb := t3)
 refine os 0 [] [1, 3] ?_
 refine an [11] [] ?_
 have M0 := i0.rM 2 ((pre ++ [cur]) ++ [kid] : List Int) (e := t11)
 exact le7 0 [] (pre ++ [cur]) kid (e - 1) _ _ e0 f0 [2, 3] (h := by exact ⟨t22, (by (try dsimp only); rw [l0, hpg, show e - 1 + 1 = e by omega]; simp), (by (try dsimp only); rw [show e - 1 + 1 = e by omega]; exact hok1)⟩)
 refine Al 0 [] λ E0 t0 A0 o0 => ?_
 refine os 0 [] [1, 2] ?_
 refine aO [] [] 9 ?_
 refine ov 0 [] (a := gL a0 (hNT.at o0).1) (b := ?_)
 refine os 0 [] [1, 2] ?_
 refine aO [] [] 11 ?_
 refine Sb 0 [] 0 λ F0 x0 => ?_
 refine os 0 [] [1, 2] ?_
 refine an [] [] ?_
 refine any 0 [] 12 [0, 2] λ n0 c0 => ?_
 refine aO [0, 1, 2, 3, 4, 5] [0, 0] 6 ?_
 refine cq 0 [] (b := aGn (T.l[cur.toNat]'a0).k.A (T.l[cur.toNat]'a0).k.cp (T.l[cur.toNat]'a0).k.l _ n0 ((hNT.at c0).2.get a0).1 q0) (c := ?_)
 rintro _ H0 ⟨rfl, k0⟩
 have b0 := c0.cl 0 k0
 refine os 0 [] [0, 2] ?_
 have d0 : gW (T.l[cur.toNat]'hjx).k.l key < (T.l[cur.toNat]'a0).c.l.length := hrl2
 refine av [] [] 7 (a := by exact λ _ hw2 => cG d0 ((hNT.at b0).2.get a0).2.1 (h0 := t3)) (b := ?_)
 refine aO [] [] 8 ?_
 refine ov 0 [] (s := Vi kid) (a := by exact cv (Ru.congr (Ru.load1 el3 rfl (ldm ((hNT.at b0).2.get a0).2.1 d0)) (I_congr hkid.symm)) rfl) (b := ?_)
 refine os 0 [] [0, 2] ?_
 refine aO [] [] 9 ?_
 refine Lt 0 [] (([kid]).map I) (λ I0 u0 B0 j0 => ?_)
 refine os 0 [] [1, 3] ?_
 refine aO [] [] 10 ?_
 refine aM 0 [] 2 (j0.rd 0 rfl) (λ G0 e0 f0 C0 i0 => ?_) (hn := t3) (hb := t3)
 refine os 0 [] [1, 3] ?_
 refine an [11] [] ?_
 have N0 := i0.rM 2 ((pre ++ [cur]) ++ [kid] : List Int) (e := t11)
 exact le7 0 [] (pre ++ [cur]) kid (e - 1) _ _ e0 f0 [2, 3] (h := by exact ⟨t22, (by (try dsimp only); rw [l0, hpg, show e - 1 + 1 = e by omega]; simp), (by (try dsimp only); rw [show e - 1 + 1 = e by omega]; exact hok1)⟩)
 refine E1 7 [] (.slice A2 (pre ++ [cur]).length c2) ?_
 have hk0 : (gP T.t cur).kids = [] := by rw [hgp]; exact aP (by show (T.l[cur.toNat]'hjx).c.l.length = 0; omega)
 have hpe : pre ++ [cur] = aY T.t key := by rw [l0, nI hk0]
 have z0 := w0.rM 0 (aY T.t key : List Int) (e := hpe)
 exact ⟨A2, c2, (sl_congr (by rw [hpe])), (z0.pk [0])⟩
theorem aIc (A : Option Addr) (c : Nat) (l : List PairT) (w : World) (hA : Rd w A (l.flatMap cY)) (hl : l.length <= 1048576) (hcp : l.length <= c) (hv : bW l = true) :
  aR Tryz.prog 127 [.slice A l.length c] w (λ v w1 => ∃ (A1 : Option Addr) (c1 : Nat) (A2 : Option Addr) (c2 : Nat), v = .tuple #[.slice A1 (l.take ((l.length + 1) / 2)).length c1, .slice A2 (l.drop ((l.length + 1) / 2)).length c2] /\ Mem w w1 [] [oP A1 c1 (l.take ((l.length + 1) / 2)), oP A2 c2 (l.drop ((l.length + 1) / 2))]) := by
 have hM : Mem w w [] [] := Mem.refl
 refine aR.n2 Tryz.func127 rfl Tryz.results127 Tryz.ntmps127 rfl ?_
 refine cp 9 [] (b := oA _ _ _ w (hA.at hM) q0) (c := λ r0 n0 => ?_)
 refine cn 2 [] (λ c7 => ?_) (λ c7 => ?_)
 (exfalso; simp [hv] at c7)
 refine ov 5 [] (a := bL (l.length + 1)) (b := ?_)
 refine ov 0 [] (a := aAr ((l.length + 1) / 2)) (b := ?_)
 refine any 3 [] 10 [] λ m0 g0 => ?_
 refine av [0, 1] [] 2 (s := Vl A (l.take ((l.length + 1) / 2)).length c) (a := by exact λ w2 hw2 => cv (Ru.congr (Ru.lsliceTo (h := ((l.length + 1) / 2)) Tryz.underlying43 jA rfl rfl t1 t1) (sl_congr t6)) rfl) (b := ?_)
 refine av [4, 5] [] 6 (s := Vl (if c = ((l.length + 1) / 2) then A else ofs A (((l.length + 1) / 2) * 2)) (l.drop ((l.length + 1) / 2)).length (c - ((l.length + 1) / 2))) (a := by exact λ w2 hw2 => cv (Ru.congr (Ru.lsliceFrom (l := ((l.length + 1) / 2)) Tryz.underlying43 jA rfl rfl t1 t1) (sl_congr t6)) rfl) (b := ?_)
 refine aO [] [] 3 ?_
 refine cq 0 [] (b := mM _ _ _ m0 (nK dI (hA.at g0)) q0) (c := ?_)
 rintro _ l0 ⟨b0, d0, rfl, j0⟩
 have a0 := g0.cl 0 j0
 have o0 := (a0.cap 0 rfl).1
 refine os 0 [] [] ?_
 refine aO [] [] 7 ?_
 refine cq 0 [] (b := mM _ _ _ l0 (kY (k := ((l.length + 1) / 2)) (c := c) dI (hA.at a0) q2 q2) q0) (c := ?_)
 rintro _ s0 ⟨c0, e0, rfl, k0⟩
 have f0 := a0.cl 0 k0
 have p0 := (f0.cap 0 rfl).1
 refine os 0 [] [] ?_
 refine an [8, 9] [] ?_
 refine E2 1 [] (.slice b0 (l.take ((l.length + 1) / 2)).length d0) (.slice c0 (l.drop ((l.length + 1) / 2)).length e0) ?_
 have h0 := f0.rF 1 (l.take ((l.length + 1) / 2) : List PairT) (e := t2)
 have i0 := h0.rF 0 (l.drop ((l.length + 1) / 2) : List PairT) (e := t2)
 exact ⟨b0, d0, c0, e0, (by first | rfl | exact sl_congr t8 | (simp; done)), (i0.pk [1, 0])⟩
set_option maxHeartbeats 8000000 in
theorem yY (T : bN) (x : PairT) (w : World) (hNT : TrN w T) (hs : SzT T) (hv : aN T.t = true) (hx : bW [x] = true) :
  aR Tryz.prog 86 [.agg #[I T.root, .slice T.A T.l.length T.cp], .agg #[I x.key, I x.val]] w (λ v w1 => ∃ (r1 : Int) (L1 : List PgL) (A1 : Option Addr) (c1 : Nat), v = .agg #[I r1, .slice A1 L1.length c1] /\ ((⟨r1, tsG L1⟩ : TrT) = iO T.t x) /\ Mem w w1 [] [oG A1 c1 L1, L1.flatMap (pgF 3)]) := by
 have hM : Mem w w [] [] := Mem.refl
 refine aR.nG (rs := [.cell 4 25]) Tryz.func86 rfl Tryz.results86 Tryz.ntmps86 rfl ?_
 have hvk := eF hv
 have hP := kK (key := x.key) hv
 have hpp := hP.pos
 have hp3 := hP.le
 have hl16 := fN hv
 rw [cP] at hl16
 obtain ⟨lf, hlf⟩ : ∃ z, z = gM (aY T.t x.key) := ⟨_, rfl⟩
 have hli := fI.1 (hP.inn ((aY T.t x.key).length - 1) t1)
 rw [show (aY T.t x.key).getD ((aY T.t x.key).length - 1) 0 = lf from hlf.symm] at hli
 have hjl : lf.toNat < T.l.length := by omega
 have hgl : gP T.t lf = (T.l[lf.toNat]'hjl).t := jH rfl hjl
 have hszl := hs.at hjl
 have hfl := hP.fr ((aY T.t x.key).length - 1) t1
 have hkl := hP.leaf
 rw [show (aY T.t x.key).getD ((aY T.t x.key).length - 1) 0 = lf from hlf.symm] at hfl hkl
 have hvl := (jS hfl hkl).1
 have hrl := gI hfl hkl
 have h4l := iA hfl
 rw [hgl] at hvl hrl h4l
 have hvl0 : (T.l[lf.toNat]'hjl).v.l.length = (T.l[lf.toNat]'hjl).k.l.length := hvl
 have h4l0 : (T.l[lf.toNat]'hjl).k.l.length <= 4 := h4l
 have hpl := wT (l := aV (T.l[lf.toNat]'hjl).t) (x := x)
 rw [dF] at hpl
 refine Bx 2 [] λ y7 V5 I6 e6 => ?_
 refine Bx 0 [] λ z7 W5 J6 f6 => ?_
 refine Al 0 [] λ D5 X5 K6 O3 => ?_
 refine cq 4 [2] (b := pP T D5 (hNT.at O3) q0) (c := ?_)
 rintro _ I7 ⟨p1, s4, u4, rfl, i3, p5⟩
 have z4 := O3.cl 0 p5
 have r7 := (z4.cap 0 rfl).1
 have hLl := nM i3
 refine Al 0 [] λ J7 v2 L6 h6 => ?_
 refine Sb 0 [] 0 λ L5 T3 => ?_
 refine cq 6 [5, 4] (b := vK T _ L5 (hNT.at T3) q0 q0) (c := ?_)
 rintro _ N7 ⟨R5, a6, rfl, q5⟩
 have B4 := T3.cl 0 q5
 have s7 := (B4.cap 0 rfl).1
 refine ov 6 [] (a := eV) (b := ?_)
 refine any 3 [] 12 [0, 1, 2, 3, 4, 5, 6] λ N5 m2 => ?_
 have q3 : ((aY T.t x.key).length - 1) < (aY T.t x.key).length := t1
 refine av [0, 1, 2, 3] [6] 4 (a := by exact λ _ hw2 => cG q3 (m2.rd 0 rfl) (h0 := t1)) (b := ?_)
 refine av [] [] 5 (s := Vi lf) (a := by exact λ w2 hw2 => cv (Ru.congr (Ru.load1 el3 rfl (ldm (hw2.rd 0 rfl) q3)) (I_congr ((bF q3).symm.trans hlf.symm))) rfl) (b := ?_)
 have D1 : lf.toNat < T.l.length := t1
 refine av [] [] 6 (a := by exact λ _ hw2 => cJ D1 (hNT.at m2).1 (h0 := t1)) (b := ?_)
 refine aO [9] [5] 7 ?_
 refine ov 0 [] (a := gL D1 (hNT.at m2).1) (b := ?_)
 refine os 0 [] [0, 1, 2, 3, 4, 5, 6] ?_
 refine aO [] [] 8 ?_
 refine cq 0 [] (b := jJ (T.l[lf.toNat]'D1) N5 ((hNT.at m2).2.get D1) qo (by exact hvl0)) (c := ?_)
 rintro _ M5 ⟨T5, c6, rfl, s5⟩
 have d3 := m2.cl 0 s5
 have u7 := (d3.cap 0 rfl).1
 refine os 0 [] [1, 2, 3, 4, 5, 6, 7] ?_
 refine aO [] [] 10 ?_
 refine cq 0 [] (b := sput_fn _ _ _ x M5 (d3.rd 0 rfl) (by rw [dF]; omega) (by exact pQ hrl) qo) (c := ?_)
 rintro _ O7 ⟨S5, b6, rfl, r5⟩
 have C4 := d3.cl 0 r5
 have t7 := (C4.cap 0 rfl).1
 refine os 0 [] [2, 3, 4, 5, 6, 7, 8] ?_
 refine an [11] [] ?_
 refine any 1 [] 10 [0, 1, 2, 3, 5, 6, 7, 8] λ O5 e3 => ?_
 have r3 : ((aY T.t x.key).length - 1) < (aY T.t x.key).length := t1
 refine av [0, 1, 2, 3] [3] 4 (a := by exact λ _ hw2 => cG r3 (e3.rd 2 rfl) (h0 := t1)) (b := ?_)
 refine av [] [] 5 (s := Vi lf) (a := by exact λ w2 hw2 => cv (Ru.congr (Ru.load1 el3 rfl (ldm (hw2.rd 2 rfl) r3)) (I_congr ((bF r3).symm.trans hlf.symm))) rfl) (b := ?_)
 refine aO [6] [] 7 ?_
 refine cq 0 [] (b := kJ _ _ _ O5 (e3.rd 0 rfl) qo qo) (c := ?_)
 rintro _ P7 ⟨A3, J3, C3, L3, E3, N3, rfl, t5⟩
 have C2 := e3.cl 0 t5
 have v7 := (C2.cap 0 rfl).1
 have w7 := (C2.cap 1 rfl).1
 have x7 := (C2.cap 2 rfl).1
 refine os 0 [] [3, 4, 5, 6, 8, 9, 10, 11] ?_
 have h4 : lf.toNat < p1.length := t1
 refine av [] [] 8 (a := by exact λ _ hw2 => cJ h4 (C2.rd 7 rfl) (h0 := t1)) (b := ?_)
 refine aO [] [] 9 ?_
 let V1 : PgL := (⟨⟨A3, J3, bG (hH (aV (T.l[lf.toNat]'D1).t) x)⟩, ⟨C3, L3, ([] : List Int)⟩, ⟨E3, N3, (hH (aV (T.l[lf.toNat]'D1).t) x).map PairT.val⟩⟩ : PgL)
 refine sF 0 [] 7 V1 h4 λ Q7 D4 => ?_
 refine os 0 [] [3, 4, 5, 6, 8, 9, 10, 11] ?_
 refine an [] [] ?_
 have F4 := Mem.gset (k := ⟨A3, J3, bG (hH (aV (T.l[lf.toNat]'D1).t) x)⟩) (c := ⟨C3, L3, ([] : List Int)⟩) (v := ⟨E3, N3, (hH (aV (T.l[lf.toNat]'D1).t) x).map PairT.val⟩) lf.toNat (D4.pk [8, 0, 1, 2, 3, 4, 5, 6, 7, 9, 10, 11])
 have d5 := F4.rF 5 (p1.set lf.toNat V1 : List PgL) (e := rfl)
 have e5 := d5.reB 4 1 (show p1.length = (p1.set lf.toNat V1).length from t2)
 have w6 := e5.rF 5 ((p1.set lf.toNat V1) : List PgL) (e := t2)
 refine lp5 2 [] (λ (a : Nat) (rt : Int) (Ch : List PgL) (A2 : Option Addr) (c2 : Nat) => ([(7, Vi (((a : Nat) : Int) - 1))] : List (Nat × SV))) (λ a rt Ch A2 c2 => (GI T.t (aY T.t x.key) a (⟨rt, tsG Ch⟩ : TrT)) /\ (nC (aY T.t x.key) a (⟨rt, tsG Ch⟩ : TrT) = iO T.t x)) (λ a rt Ch A2 c2 => [Ch.flatMap (pgF 3), [⟨.slice (bl v2) 1 1, 25, 2, 1, [I rt, .slice A2 Ch.length c2]⟩], oG A2 c2 Ch]) (λ a rt Ch A2 c2 => a) [4, 5, 6] [0, 4, 5] [1, 2, 3, 6, 7, 8] (aY T.t x.key).length T.root (p1.set lf.toNat V1) s4 u4 (λ a rt Ch A2 c2 σ V7 hI D2 => ?_) (h0 := ⟨(by (try dsimp only); rw [show (⟨T.root, tsG (p1.set lf.toNat V1)⟩ : TrT) = kP T.t (aY T.t x.key) x from (by rw [cV, i3]; unfold kP cF; rw [<- hlf, hgl]; rfl)]; exact GI.start hv hP hx), (by (try dsimp only); rw [show (⟨T.root, tsG (p1.set lf.toNat V1)⟩ : TrT) = kP T.t (aY T.t x.key) x from (by rw [cV, i3]; unfold kP cF; rw [<- hlf, hgl]; rfl)]; exact rfl)⟩)
 obtain ⟨z5, h3⟩ := hI
 have P6 := (D2.cap 2 rfl).1
 have U6 := (D2.cap 3 rfl).1
 have Z6 := (D2.cap 4 rfl).1
 have e7 := (D2.cap 5 rfl).1
 have hG := z5
 have ha1 := hG.a1
 obtain ⟨cur, hcu⟩ : ∃ z, z = (aY T.t x.key).getD (a - 1) 0 := ⟨_, rfl⟩
 have hcl := hG.len
 simp only [cP, bC] at hcl
 have hci := aX.1 (hG.curIn hP (k := a - 1) t1)
 simp only [bC] at hci
 rw [<- hcu] at hci
 have hjc : cur.toNat < Ch.length := by omega
 have hgc : gP (⟨rt, tsG Ch⟩ : TrT) cur = (Ch[cur.toNat]'hjc).t := jW hjc
 have hcr := hG.cur
 rw [<- hcu, hgc] at hcr
 have hk5 : (Ch[cur.toNat]'hjc).k.l.length <= 5 := hcr.1
 obtain ⟨sp, hsp⟩ : ∃ z, z = dY (Ch[cur.toNat]'hjc).t := ⟨_, rfl⟩
 have hsp0 := hsp
 refine dr 2 [] ?_
 refine qp 3 [] 48 (λ g48 => ?_) (λ g48 => ?_)
 have s3 : (a - 1) < (aY T.t x.key).length := t1
 refine qv 4 [1] (a := by exact λ _ hw2 => cG s3 (hw2.rd 5 rfl) (h0 := t1)) (b := ?_)
 refine qv 0 [] (s := Vi cur) (a := by exact λ w2 hw2 => cv (Ru.congr (Ru.load1 el3 rfl (ldm (hw2.rd 5 rfl) s3)) (I_congr ((bF s3).symm.trans hcu.symm))) rfl) (b := ?_)
 have t3 : cur.toNat < Ch.length := t1
 refine qv 0 [] (a := by exact λ _ hw2 => cJ t3 (hw2.rd 2 rfl) (h0 := t1)) (b := ?_)
 refine qv 0 [] (a := by exact λ _ hw2 => fZ t3 (hw2.rd 2 rfl)) (b := ?_)
 refine qv 0 [] (a := by exact λ _ hw2 => gF t3 (hw2.rd 2 rfl)) (b := ?_)
 refine qn 3 [] λ R7 j6 => ?_
 refine cd 0 [] (λ c60 => ?_) (λ c60 => ?_)
 refine ct3 13 [1] (λ (Ch2 : List PgL) (A2 : Option Addr) (c2 : Nat) => ([(10, Vi sp.2.1)] : List (Nat × SV))) (λ Ch2 A2 c2 => ((⟨rt, tsG Ch2⟩ : TrT) = iV (cF (⟨rt, tsG Ch⟩ : TrT) cur sp.1) sp.2.2)) (λ Ch2 A2 c2 => [Ch2.flatMap (pgF 3), [⟨.slice (bl v2) 1 1, 25, 2, 1, [I rt, .slice A2 Ch2.length c2]⟩], oG A2 c2 Ch2]) [4, 5, 6, 7, 9] [3, 4, 5, 6, 7, 8] ?_ (λ Ch2 A2 c2 σ T7 hI T1 => ?_)
 refine dr 1 [] ?_
 have v3 : (a - 1) < (aY T.t x.key).length := t1
 refine qv 4 [1] (a := by exact λ _ hw2 => cG v3 (hw2.rd 5 rfl) (h0 := t1)) (b := ?_)
 refine qv 0 [] (s := Vi cur) (a := by exact λ w2 hw2 => cv (Ru.congr (Ru.load1 el3 rfl (ldm (hw2.rd 5 rfl) v3)) (I_congr ((bF v3).symm.trans hcu.symm))) rfl) (b := ?_)
 have w3 : cur.toNat < Ch.length := t1
 refine qv 0 [] (a := by exact λ _ hw2 => cJ w3 (hw2.rd 2 rfl) (h0 := t1)) (b := ?_)
 refine qv 0 [] (a := by exact λ _ hw2 => fZ w3 (hw2.rd 2 rfl)) (b := ?_)
 refine qv 0 [] (a := by exact λ _ hw2 => gF w3 (hw2.rd 2 rfl)) (b := ?_)
 refine qn 2 [] λ S7 E4 => ?_
 refine cd 0 [] (λ c74 => ?_) (λ c74 => ?_)
 have hk0 : (Ch[cur.toNat]'hjc).t.kids = [] := aP (by show (Ch[cur.toNat]'hjc).c.l.length = 0; omega)
 have hcv : (Ch[cur.toNat]'hjc).t.vals.length = (Ch[cur.toNat]'hjc).t.keys.length /\ bW (aV (Ch[cur.toNat]'hjc).t) = true := by rcases hcr.2 with h9 | h9; exact h9.2; (exfalso; have h8 := h9.1; rw [hk0] at h8; simp at h8)
 have hcv1 : (Ch[cur.toNat]'hjc).v.l.length = (Ch[cur.toNat]'hjc).k.l.length := hcv.1
 rw [aGm hk0] at hsp
 have hpl5 : (aV (Ch[cur.toNat]'hjc).t).length = (Ch[cur.toNat]'hjc).k.l.length := dF
 have hd0 : 0 < ((aV (Ch[cur.toNat]'hjc).t).drop (((aV (Ch[cur.toNat]'hjc).t).length + 1) / 2)).length := by rw [aI, hpl5]; omega
 refine any 1 [] 15 [0, 1, 2, 3, 4, 5, 6, 7, 8] λ F5 x2 => ?_
 have j3 : (a - 1) < (aY T.t x.key).length := t1
 refine av [0, 1, 2, 3] [1] 4 (a := by exact λ _ hw2 => cG j3 (x2.rd 5 rfl) (h0 := t1)) (b := ?_)
 refine av [] [] 5 (s := Vi cur) (a := by exact λ w2 hw2 => cv (Ru.congr (Ru.load1 el3 rfl (ldm (hw2.rd 5 rfl) j3)) (I_congr ((bF j3).symm.trans hcu.symm))) rfl) (b := ?_)
 have e0 : cur.toNat < Ch.length := t1
 refine av [] [] 6 (a := by exact λ _ hw2 => cJ e0 (x2.rd 2 rfl) (h0 := t1)) (b := ?_)
 refine av [] [] 7 (a := by exact λ _ hw2 => gL e0 (hw2.rd 2 rfl)) (b := ?_)
 refine aO [] [] 8 ?_
 refine cq 0 [] (b := jJ (Ch[cur.toNat]'e0) F5 ((NsP.mem x2 0 rfl).get e0) qo (by exact hcv1)) (c := ?_)
 rintro _ E5 ⟨P5, Y5, rfl, l5⟩
 have Z2 := x2.cl 0 l5
 have k7 := (Z2.cap 0 rfl).1
 refine os 0 [] [1, 2, 3, 4, 5, 6, 7, 8, 9] ?_
 refine aO [] [] 9 ?_
 refine cq 0 [] (b := aIc _ _ _ E5 (Z2.rd 0 rfl) qo qo (by exact hcv.2)) (c := ?_)
 rintro _ A7 ⟨Q5, Z5, U5, d6, rfl, m5⟩
 have g2 := Z2.cl 0 m5
 have l7 := (g2.cap 0 rfl).1
 have m7 := (g2.cap 1 rfl).1
 refine os 0 [] [3, 4, 5, 6, 7, 8, 9, 10, 11] ?_
 refine an [10, 11, 12, 13, 14] [] ?_
 have k3 : 0 < ((aV (Ch[cur.toNat]'e0).t).drop (((aV (Ch[cur.toNat]'e0).t).length + 1) / 2)).length := hd0
 refine ov 3 [] (a := cJ k3 (g2.rd 1 rfl) (h0 := t1)) (b := ?_)
 refine ov 0 [] (a := fZ k3 (g2.rd 1 rfl)) (b := ?_)
 refine ov 0 [] (s := Vi sp.2.1) (a := by exact cv (Ru.congr (Ru.load1 el3 rfl (ldf dI (g2.rd 1 rfl) k3 rfl)) (I_congr (by rw [hsp]; exact (qB hd0).symm))) rfl) (b := ?_)
 refine any 3 [] 10 [0, 1, 2, 3, 4, 6, 7, 8, 9, 10, 11] λ G5 a3 => ?_
 have l3 : (a - 1) < (aY T.t x.key).length := t1
 refine av [0, 1, 2, 3] [4] 4 (a := by exact λ _ hw2 => cG l3 (a3.rd 8 rfl) (h0 := t1)) (b := ?_)
 refine av [] [] 5 (s := Vi cur) (a := by exact λ w2 hw2 => cv (Ru.congr (Ru.load1 el3 rfl (ldm (hw2.rd 7 rfl) l3)) (I_congr ((bF l3).symm.trans hcu.symm))) rfl) (b := ?_)
 refine aO [6] [] 7 ?_
 refine cq 0 [] (b := kJ _ _ _ G5 (a3.rd 0 rfl) (by first | omega | (simp only [aB, aI, aG, bA, dF]; omega)) qo) (c := ?_)
 rintro _ B7 ⟨y3, H3, B3, K3, D3, M3, rfl, n5⟩
 have y2 := a3.cl 0 n5
 have n7 := (y2.cap 0 rfl).1
 have o7 := (y2.cap 1 rfl).1
 have p7 := (y2.cap 2 rfl).1
 refine os 0 [] [3, 4, 5, 6, 7, 9, 10, 11, 12, 13, 14] ?_
 have e4 : cur.toNat < Ch.length := t1
 refine av [] [] 8 (a := by exact λ _ hw2 => cJ e4 (y2.rd 8 rfl) (h0 := t1)) (b := ?_)
 refine aO [] [] 9 ?_
 let b1 : PgL := (⟨⟨y3, H3, bG ((aV (Ch[cur.toNat]'e0).t).take (((aV (Ch[cur.toNat]'e0).t).length + 1) / 2))⟩, ⟨B3, K3, ([] : List Int)⟩, ⟨D3, M3, ((aV (Ch[cur.toNat]'e0).t).take (((aV (Ch[cur.toNat]'e0).t).length + 1) / 2)).map PairT.val⟩⟩ : PgL)
 refine sF 0 [] 8 b1 e4 λ C7 v4 => ?_
 refine os 0 [] [3, 4, 5, 6, 7, 9, 10, 11, 12, 13, 14] ?_
 refine an [] [] ?_
 have m6 := Mem.gset (k := ⟨y3, H3, bG ((aV (Ch[cur.toNat]'e0).t).take (((aV (Ch[cur.toNat]'e0).t).length + 1) / 2))⟩) (c := ⟨B3, K3, ([] : List Int)⟩) (v := ⟨D3, M3, ((aV (Ch[cur.toNat]'e0).t).take (((aV (Ch[cur.toNat]'e0).t).length + 1) / 2)).map PairT.val⟩) cur.toNat (v4.pk [6, 0, 1, 2, 3, 4, 5, 7, 8, 9, 10, 11, 12, 13, 14])
 refine any 0 [] 8 [0, 1, 2, 3, 6, 7, 8, 9, 10, 11] λ l4 z2 => ?_
 refine aT [0, 2] [] 1 3 ?_ ?_
 refine os 1 [4] [0, 1, 2, 3, 6, 7, 8, 9, 10, 11] ?_
 refine aO [] [] 3 ?_
 refine cq 0 [] (b := kJ _ _ _ l4 (z2.rd 2 rfl) (by first | omega | (simp only [aB, aI, aG, bA, dF]; omega)) qo) (c := ?_)
 rintro _ H5 ⟨I1, N1, K1, P1, M1, R1, rfl, f3⟩
 have S1 := z2.cl 0 f3
 have u5 := (S1.cap 0 rfl).1
 have v5 := (S1.cap 1 rfl).1
 have w5 := (S1.cap 2 rfl).1
 refine os 0 [] [3, 4, 5, 6, 9, 10, 11, 12, 13, 14] ?_
 refine aO [] [] 4 ?_
 let T2 : PgL := (⟨⟨I1, N1, bG ((aV (Ch[cur.toNat]'e0).t).drop (((aV (Ch[cur.toNat]'e0).t).length + 1) / 2))⟩, ⟨K1, P1, ([] : List Int)⟩, ⟨M1, R1, ((aV (Ch[cur.toNat]'e0).t).drop (((aV (Ch[cur.toNat]'e0).t).length + 1) / 2)).map PairT.val⟩⟩ : PgL)
 refine Lt 0 [] (([T2]).flatMap encPg) (λ i4 F3 W3 h2 => ?_)
 refine os 0 [] [4, 5, 6, 7, 10, 11, 12, 13, 14, 15] ?_
 refine aO [] [] 5 ?_
 refine aF 0 [] 9 (h2.rd 0 rfl) (λ j4 b2 e2 Y3 P3 => ?_) (hn := t4) (hb := t4)
 refine os 0 [] [4, 5, 6, 7, 10, 11, 12, 13, 14, 15] ?_
 refine aO [6] [] 7 ?_
 refine Sb 0 [] 8 λ k4 i2 => ?_
 refine os 0 [] [4, 5, 6, 7, 10, 11, 12, 13, 14, 15] ?_
 refine an [] [] ?_
 have X4 := Mem.gapp (k := ⟨I1, N1, bG ((aV (Ch[cur.toNat]'e0).t).drop (((aV (Ch[cur.toNat]'e0).t).length + 1) / 2))⟩) (c := ⟨K1, P1, ([] : List Int)⟩) (v := ⟨M1, R1, ((aV (Ch[cur.toNat]'e0).t).drop (((aV (Ch[cur.toNat]'e0).t).length + 1) / 2)).map PairT.val⟩) (i2.pk [4, 1, 2, 3, 0, 5, 6, 7, 8, 9, 10, 11, 12, 13, 14, 15])
 have hR1 : (⟨rt, tsG (Ch.set cur.toNat b1 ++ [T2])⟩ : TrT) = iV (cF (⟨rt, tsG Ch⟩ : TrT) cur sp.1) sp.2.2 := by rw [gJ, cV]; rw [hsp]; rfl
 have H6 := X4.rF 6 ((Ch.set cur.toNat b1 ++ [T2]) : List PgL) (e := t2)
 exact ce3 0 [] (Ch.set cur.toNat b1 ++ [T2]) b2 e2 [0, 5, 6, 7, 8, 9, 10, 11, 12] (hL := by exact (Has.cons (I_congr (by first | rfl | exact (congrArg (λ z => z.2.1) hsp).symm)) Has.nil)) (h := by exact hR1)
 refine cq 0 [] (b := kJ _ _ _ l4 (z2.rd 2 rfl) (by first | omega | (simp only [aB, aI, aG, bA, dF]; omega)) qo) (c := ?_)
 rintro _ H5 ⟨I1, N1, K1, P1, M1, R1, rfl, f3⟩
 have S1 := z2.cl 0 f3
 have u5 := (S1.cap 0 rfl).1
 have v5 := (S1.cap 1 rfl).1
 have w5 := (S1.cap 2 rfl).1
 refine os 0 [] [3, 4, 5, 6, 9, 10, 11, 12, 13, 14] ?_
 refine aT [] [] 1 4 ?_ ?_
 refine os 1 [7] [3, 4, 5, 6, 9, 10, 11, 12, 13, 14] ?_
 refine aO [] [] 4 ?_
 let U2 : PgL := (⟨⟨I1, N1, bG ((aV (Ch[cur.toNat]'e0).t).drop (((aV (Ch[cur.toNat]'e0).t).length + 1) / 2))⟩, ⟨K1, P1, ([] : List Int)⟩, ⟨M1, R1, ((aV (Ch[cur.toNat]'e0).t).drop (((aV (Ch[cur.toNat]'e0).t).length + 1) / 2)).map PairT.val⟩⟩ : PgL)
 refine Lt 0 [] (([U2]).flatMap encPg) (λ i4 F3 W3 h2 => ?_)
 refine os 0 [] [4, 5, 6, 7, 10, 11, 12, 13, 14, 15] ?_
 refine aO [] [] 5 ?_
 refine aF 0 [] 9 (h2.rd 0 rfl) (λ j4 b2 e2 Y3 P3 => ?_) (hn := t4) (hb := t4)
 refine os 0 [] [4, 5, 6, 7, 10, 11, 12, 13, 14, 15] ?_
 refine aO [6] [] 7 ?_
 refine Sb 0 [] 8 λ k4 i2 => ?_
 refine os 0 [] [4, 5, 6, 7, 10, 11, 12, 13, 14, 15] ?_
 refine an [] [] ?_
 have G4 := Mem.gapp (k := ⟨I1, N1, bG ((aV (Ch[cur.toNat]'e0).t).drop (((aV (Ch[cur.toNat]'e0).t).length + 1) / 2))⟩) (c := ⟨K1, P1, ([] : List Int)⟩) (v := ⟨M1, R1, ((aV (Ch[cur.toNat]'e0).t).drop (((aV (Ch[cur.toNat]'e0).t).length + 1) / 2)).map PairT.val⟩) (i2.pk [4, 1, 2, 3, 0, 5, 6, 7, 8, 9, 10, 11, 12, 13, 14, 15])
 have hR1 : (⟨rt, tsG (Ch.set cur.toNat b1 ++ [U2])⟩ : TrT) = iV (cF (⟨rt, tsG Ch⟩ : TrT) cur sp.1) sp.2.2 := by rw [gJ, cV]; rw [hsp]; rfl
 have n6 := G4.rF 6 ((Ch.set cur.toNat b1 ++ [U2]) : List PgL) (e := t2)
 exact ce3 0 [] (Ch.set cur.toNat b1 ++ [U2]) b2 e2 [0, 5, 6, 7, 8, 9, 10, 11, 12] (hL := by exact (Has.cons (I_congr (by first | rfl | exact (congrArg (λ z => z.2.1) hsp).symm)) Has.nil)) (h := by exact hR1)
 let V2 : PgL := (⟨⟨I1, N1, bG ((aV (Ch[cur.toNat]'e0).t).drop (((aV (Ch[cur.toNat]'e0).t).length + 1) / 2))⟩, ⟨K1, P1, ([] : List Int)⟩, ⟨M1, R1, ((aV (Ch[cur.toNat]'e0).t).drop (((aV (Ch[cur.toNat]'e0).t).length + 1) / 2)).map PairT.val⟩⟩ : PgL)
 refine Lt 0 [] (([V2]).flatMap encPg) (λ i4 F3 W3 h2 => ?_)
 refine os 0 [] [4, 5, 6, 7, 10, 11, 12, 13, 14, 15] ?_
 refine aO [] [] 1 ?_
 refine os 1 [8] [4, 5, 6, 7, 10, 11, 12, 13, 14, 15] ?_
 refine aO [] [] 5 ?_
 refine aF 0 [] 9 (h2.rd 0 rfl) (λ j4 b2 e2 Y3 P3 => ?_) (hn := t4) (hb := t4)
 refine os 0 [] [4, 5, 6, 7, 10, 11, 12, 13, 14, 15] ?_
 refine aO [6] [] 7 ?_
 refine Sb 0 [] 8 λ k4 i2 => ?_
 refine os 0 [] [4, 5, 6, 7, 10, 11, 12, 13, 14, 15] ?_
 refine an [] [] ?_
 have H4 := Mem.gapp (k := ⟨I1, N1, bG ((aV (Ch[cur.toNat]'e0).t).drop (((aV (Ch[cur.toNat]'e0).t).length + 1) / 2))⟩) (c := ⟨K1, P1, ([] : List Int)⟩) (v := ⟨M1, R1, ((aV (Ch[cur.toNat]'e0).t).drop (((aV (Ch[cur.toNat]'e0).t).length + 1) / 2)).map PairT.val⟩) (i2.pk [4, 1, 2, 3, 0, 5, 6, 7, 8, 9, 10, 11, 12, 13, 14, 15])
 have hR1 : (⟨rt, tsG (Ch.set cur.toNat b1 ++ [V2])⟩ : TrT) = iV (cF (⟨rt, tsG Ch⟩ : TrT) cur sp.1) sp.2.2 := by rw [gJ, cV]; rw [hsp]; rfl
 have o6 := H4.rF 6 ((Ch.set cur.toNat b1 ++ [V2]) : List PgL) (e := t2)
 exact ce3 0 [] (Ch.set cur.toNat b1 ++ [V2]) b2 e2 [0, 5, 6, 7, 8, 9, 10, 11, 12] (hL := by exact (Has.cons (I_congr (by first | rfl | exact (congrArg (λ z => z.2.1) hsp).symm)) Has.nil)) (h := by exact hR1)
 have hk0 : (Ch[cur.toNat]'hjc).t.kids ≠ [] := by intro e9; exact absurd (show (Ch[cur.toNat]'hjc).c.l.length = 0 from congrArg List.length e9) t1
 have hci2 : (Ch[cur.toNat]'hjc).c.l.length = (Ch[cur.toNat]'hjc).k.l.length + 1 /\ 1 <= (Ch[cur.toNat]'hjc).k.l.length := by rcases hcr.2 with h9 | h9; (exact absurd h9.1 hk0); exact h9
 rw [aGl hk0] at hsp
 refine ct10 0 [] (λ (bx13 : Nat) (q1 : Option Addr) (E1 : Nat) (s1 : Option Addr) (F1 : Nat) (bx15 : Nat) (J0 : Option Addr) (L0 : Nat) (K0 : Option Addr) (M0 : Nat) => ([(13, Vp (bl bx13) 0), (14, Vi ((Ch[cur.toNat]'hjc).k.l.getD ((Ch[cur.toNat]'hjc).k.l.length / 2) 0)), (15, Vp (bl bx15) 0)] : List (Nat × SV))) (λ bx13 q1 E1 s1 F1 bx15 J0 L0 K0 M0 => True) (λ bx13 q1 E1 s1 F1 bx15 J0 L0 K0 M0 => [[⟨.slice (bl bx13) 1 1, 65, 2, 1, [.slice q1 ((Ch[cur.toNat]'hjc).k.l.take ((Ch[cur.toNat]'hjc).k.l.length / 2)).length E1, .slice s1 ((Ch[cur.toNat]'hjc).c.l.take ((Ch[cur.toNat]'hjc).k.l.length / 2 + 1)).length F1]⟩], [⟨.slice (bl bx15) 1 1, 65, 2, 1, [.slice J0 ((Ch[cur.toNat]'hjc).k.l.drop ((Ch[cur.toNat]'hjc).k.l.length / 2 + 1)).length L0, .slice K0 ((Ch[cur.toNat]'hjc).c.l.drop ((Ch[cur.toNat]'hjc).k.l.length / 2 + 1)).length M0]⟩], oI q1 E1 ((Ch[cur.toNat]'hjc).k.l.take ((Ch[cur.toNat]'hjc).k.l.length / 2)), oI s1 F1 ((Ch[cur.toNat]'hjc).c.l.take ((Ch[cur.toNat]'hjc).k.l.length / 2 + 1)), oI J0 L0 ((Ch[cur.toNat]'hjc).k.l.drop ((Ch[cur.toNat]'hjc).k.l.length / 2 + 1)), oI K0 M0 ((Ch[cur.toNat]'hjc).c.l.drop ((Ch[cur.toNat]'hjc).k.l.length / 2 + 1))]) [4, 5, 6, 7, 9] [0, 1, 2, 3, 4, 5, 6, 7, 8] ?_ (λ bx13 q1 E1 s1 F1 bx15 J0 L0 K0 M0 σ W7 hI y1 => ?_)
 have hgc14 := E4.gcap 0 rfl hjc
 refine any 0 [] 19 [0, 1, 2, 3, 4, 5, 6, 7, 8] λ I5 b3 => ?_
 have m3 : (a - 1) < (aY T.t x.key).length := t1
 refine av [0, 1, 2, 3] [1] 4 (a := by exact λ _ hw2 => cG m3 (b3.rd 5 rfl) (h0 := t1)) (b := ?_)
 refine av [] [] 5 (s := Vi cur) (a := by exact λ w2 hw2 => cv (Ru.congr (Ru.load1 el3 rfl (ldm (hw2.rd 5 rfl) m3)) (I_congr ((bF m3).symm.trans hcu.symm))) rfl) (b := ?_)
 have a0 : cur.toNat < Ch.length := t1
 refine av [] [] 6 (a := by exact λ _ hw2 => cJ a0 (b3.rd 2 rfl) (h0 := t1)) (b := ?_)
 refine av [] [] 7 (a := by exact λ _ hw2 => gL a0 (hw2.rd 2 rfl)) (b := ?_)
 refine jn10 [] [] (λ (bx13 : Nat) (bx15 : Nat) (Q0 : Option Addr) (u0 : Nat) (Q1 : Option Addr) (u1 : Nat) (Q2 : Option Addr) (u2 : Nat) (Q3 : Option Addr) (u3 : Nat) => ([(13, Vp (bl bx13) 0), (15, Vp (bl bx15) 0), (119, Va [.sl Q0 ((Ch[cur.toNat]'a0).k.l.take ((Ch[cur.toNat]'a0).k.l.length / 2)).length u0, .sl Q1 ((Ch[cur.toNat]'a0).c.l.take ((Ch[cur.toNat]'a0).k.l.length / 2 + 1)).length u1]), (120, Vi ((Ch[cur.toNat]'a0).k.l.getD ((Ch[cur.toNat]'a0).k.l.length / 2) 0)), (121, Va [.sl Q2 ((Ch[cur.toNat]'a0).k.l.drop ((Ch[cur.toNat]'a0).k.l.length / 2 + 1)).length u2, .sl Q3 ((Ch[cur.toNat]'a0).c.l.drop ((Ch[cur.toNat]'a0).k.l.length / 2 + 1)).length u3])] : List (Nat × SV))) (λ bx13 bx15 Q0 u0 Q1 u1 Q2 u2 Q3 u3 => [oI Q0 u0 ((Ch[cur.toNat]'a0).k.l.take ((Ch[cur.toNat]'a0).k.l.length / 2)), oI Q1 u1 ((Ch[cur.toNat]'a0).c.l.take ((Ch[cur.toNat]'a0).k.l.length / 2 + 1)), oI Q2 u2 ((Ch[cur.toNat]'a0).k.l.drop ((Ch[cur.toNat]'a0).k.l.length / 2 + 1)), oI Q3 u3 ((Ch[cur.toNat]'a0).c.l.drop ((Ch[cur.toNat]'a0).k.l.length / 2 + 1)), [⟨.slice (bl bx13) 1 1, 65, 2, 1, [.slice none 0 0, .slice none 0 0]⟩], [⟨.slice (bl bx15) 1 1, 65, 2, 1, [.slice none 0 0, .slice none 0 0]⟩]]) [4, 5, 6, 7, 9] [0, 1, 2, 3, 4, 5, 6, 7, 8] 3 [true, true, true, true, true, true, true, true, true, true, true, true, true, true, true, true, false, false, false] (λ J14 => ?_) (λ bx13 bx15 Q0 u0 Q1 u1 Q2 u2 Q3 u3 σ U7 k6 => ?_)
 refine aH [] [] 8 14 15 ?_ ?_ ?_
 refine cp 0 [] (b := fO (Ch[cur.toNat]'a0) I5 ((NsP.mem b3 0 rfl).get a0)) (c := λ k1 B0 => ?_)
 refine os 0 [] [0, 1, 2, 3, 4, 5, 6, 7, 8] ?_
 refine aH [] [] 9 14 15 ?_ ?_ ?_
 refine cq 0 [] (b := eN (Ch[cur.toNat]'a0).k.A (Ch[cur.toNat]'a0).k.cp (Ch[cur.toNat]'a0).k.l (Ch[cur.toNat]'a0).c.A (Ch[cur.toNat]'a0).c.cp (Ch[cur.toNat]'a0).c.l k1 ((NsP.mem B0 0 rfl).get a0).1 ((NsP.mem B0 0 rfl).get a0).2.1 (by exact ⟨hgc14.1, hgc14.2.1⟩) qo qo) (c := ?_)
 rintro _ e1 ⟨k0, o0, l0, p0, m0, r0, n0, s0, rfl, t0⟩
 have c0 := B0.cl 0 t0
 have W0 := (c0.cap 0 rfl).1
 have X0 := (c0.cap 1 rfl).1
 have Y0 := (c0.cap 2 rfl).1
 have Z0 := (c0.cap 3 rfl).1
 refine os 0 [] [4, 5, 6, 7, 8, 9, 10, 11, 12] ?_
 refine aT [10, 11, 12, 13] [] 14 15 ?_ ?_
 refine Al 0 [] λ N0 v0 z1 z0 => ?_
 refine os 0 [] [5, 6, 7, 8, 9, 10, 11, 12, 13] ?_
 refine aO [] [] 15 ?_
 refine Al 0 [] λ O0 w0 B1 A0 => ?_
 refine os 0 [] [6, 7, 8, 9, 10, 11, 12, 13, 14] ?_
 exact wE [] [] J14 v0 w0 k0 o0 l0 p0 m0 r0 n0 s0 [2, 3, 4, 5, 1, 0, 6, 7, 8, 9, 10, 11, 12, 13, 14]
 refine Al 0 [] λ O0 w0 B1 A0 => ?_
 refine os 0 [] [5, 6, 7, 8, 9, 10, 11, 12, 13] ?_
 refine aO [] [] 14 ?_
 refine Al 0 [] λ N0 v0 z1 z0 => ?_
 refine os 0 [] [6, 7, 8, 9, 10, 11, 12, 13, 14] ?_
 exact wE [] [] J14 v0 w0 k0 o0 l0 p0 m0 r0 n0 s0 [2, 3, 4, 5, 0, 1, 6, 7, 8, 9, 10, 11, 12, 13, 14]
 refine Al 0 [] λ N0 v0 z1 z0 => ?_
 refine os 0 [] [1, 2, 3, 4, 5, 6, 7, 8, 9] ?_
 refine aT [] [] 9 15 ?_ ?_
 refine cq 0 [] (b := eN (Ch[cur.toNat]'a0).k.A (Ch[cur.toNat]'a0).k.cp (Ch[cur.toNat]'a0).k.l (Ch[cur.toNat]'a0).c.A (Ch[cur.toNat]'a0).c.cp (Ch[cur.toNat]'a0).c.l N0 ((NsP.mem z0 1 rfl).get a0).1 ((NsP.mem z0 1 rfl).get a0).2.1 (by exact ⟨hgc14.1, hgc14.2.1⟩) qo qo) (c := ?_)
 rintro _ e1 ⟨k0, o0, l0, p0, m0, r0, n0, s0, rfl, t0⟩
 have c0 := z0.cl 0 t0
 have W0 := (c0.cap 0 rfl).1
 have X0 := (c0.cap 1 rfl).1
 have Y0 := (c0.cap 2 rfl).1
 have Z0 := (c0.cap 3 rfl).1
 refine os 0 [] [5, 6, 7, 8, 9, 10, 11, 12, 13] ?_
 refine aO [10, 11, 12, 13] [] 15 ?_
 refine Al 0 [] λ O0 w0 B1 A0 => ?_
 refine os 0 [] [6, 7, 8, 9, 10, 11, 12, 13, 14] ?_
 exact wE [] [] J14 v0 w0 k0 o0 l0 p0 m0 r0 n0 s0 [1, 2, 3, 4, 5, 0, 6, 7, 8, 9, 10, 11, 12, 13, 14]
 refine Al 0 [] λ O0 w0 B1 A0 => ?_
 refine os 0 [] [2, 3, 4, 5, 6, 7, 8, 9, 10] ?_
 refine aO [] [] 9 ?_
 refine cq 0 [] (b := eN (Ch[cur.toNat]'a0).k.A (Ch[cur.toNat]'a0).k.cp (Ch[cur.toNat]'a0).k.l (Ch[cur.toNat]'a0).c.A (Ch[cur.toNat]'a0).c.cp (Ch[cur.toNat]'a0).c.l O0 ((NsP.mem A0 2 rfl).get a0).1 ((NsP.mem A0 2 rfl).get a0).2.1 (by exact ⟨hgc14.1, hgc14.2.1⟩) qo qo) (c := ?_)
 rintro _ e1 ⟨k0, o0, l0, p0, m0, r0, n0, s0, rfl, t0⟩
 have c0 := A0.cl 0 t0
 have W0 := (c0.cap 0 rfl).1
 have X0 := (c0.cap 1 rfl).1
 have Y0 := (c0.cap 2 rfl).1
 have Z0 := (c0.cap 3 rfl).1
 refine os 0 [] [6, 7, 8, 9, 10, 11, 12, 13, 14] ?_
 exact wE [10, 11, 12, 13] [] J14 v0 w0 k0 o0 l0 p0 m0 r0 n0 s0 [0, 1, 2, 3, 5, 4, 6, 7, 8, 9, 10, 11, 12, 13, 14]
 refine Al 0 [] λ O0 w0 B1 A0 => ?_
 refine os 0 [] [1, 2, 3, 4, 5, 6, 7, 8, 9] ?_
 refine aT [] [] 9 14 ?_ ?_
 refine cq 0 [] (b := eN (Ch[cur.toNat]'a0).k.A (Ch[cur.toNat]'a0).k.cp (Ch[cur.toNat]'a0).k.l (Ch[cur.toNat]'a0).c.A (Ch[cur.toNat]'a0).c.cp (Ch[cur.toNat]'a0).c.l O0 ((NsP.mem A0 1 rfl).get a0).1 ((NsP.mem A0 1 rfl).get a0).2.1 (by exact ⟨hgc14.1, hgc14.2.1⟩) qo qo) (c := ?_)
 rintro _ e1 ⟨k0, o0, l0, p0, m0, r0, n0, s0, rfl, t0⟩
 have c0 := A0.cl 0 t0
 have W0 := (c0.cap 0 rfl).1
 have X0 := (c0.cap 1 rfl).1
 have Y0 := (c0.cap 2 rfl).1
 have Z0 := (c0.cap 3 rfl).1
 refine os 0 [] [5, 6, 7, 8, 9, 10, 11, 12, 13] ?_
 refine aO [10, 11, 12, 13] [] 14 ?_
 refine Al 0 [] λ N0 v0 z1 z0 => ?_
 refine os 0 [] [6, 7, 8, 9, 10, 11, 12, 13, 14] ?_
 exact wE [] [] J14 v0 w0 k0 o0 l0 p0 m0 r0 n0 s0 [1, 2, 3, 4, 0, 5, 6, 7, 8, 9, 10, 11, 12, 13, 14]
 refine Al 0 [] λ N0 v0 z1 z0 => ?_
 refine os 0 [] [2, 3, 4, 5, 6, 7, 8, 9, 10] ?_
 refine aO [] [] 9 ?_
 refine cq 0 [] (b := eN (Ch[cur.toNat]'a0).k.A (Ch[cur.toNat]'a0).k.cp (Ch[cur.toNat]'a0).k.l (Ch[cur.toNat]'a0).c.A (Ch[cur.toNat]'a0).c.cp (Ch[cur.toNat]'a0).c.l N0 ((NsP.mem z0 2 rfl).get a0).1 ((NsP.mem z0 2 rfl).get a0).2.1 (by exact ⟨hgc14.1, hgc14.2.1⟩) qo qo) (c := ?_)
 rintro _ e1 ⟨k0, o0, l0, p0, m0, r0, n0, s0, rfl, t0⟩
 have c0 := z0.cl 0 t0
 have W0 := (c0.cap 0 rfl).1
 have X0 := (c0.cap 1 rfl).1
 have Y0 := (c0.cap 2 rfl).1
 have Z0 := (c0.cap 3 rfl).1
 refine os 0 [] [6, 7, 8, 9, 10, 11, 12, 13, 14] ?_
 exact wE [10, 11, 12, 13] [] J14 v0 w0 k0 o0 l0 p0 m0 r0 n0 s0 [0, 1, 2, 3, 4, 5, 6, 7, 8, 9, 10, 11, 12, 13, 14]
 refine Al 0 [] λ N0 v0 z1 z0 => ?_
 refine os 0 [] [1, 2, 3, 4, 5, 6, 7, 8, 9] ?_
 refine aT [] [] 8 15 ?_ ?_
 refine cp 0 [] (b := fO (Ch[cur.toNat]'a0) N0 ((NsP.mem z0 1 rfl).get a0)) (c := λ k1 B0 => ?_)
 refine os 0 [] [1, 2, 3, 4, 5, 6, 7, 8, 9] ?_
 refine aT [] [] 9 15 ?_ ?_
 refine cq 0 [] (b := eN (Ch[cur.toNat]'a0).k.A (Ch[cur.toNat]'a0).k.cp (Ch[cur.toNat]'a0).k.l (Ch[cur.toNat]'a0).c.A (Ch[cur.toNat]'a0).c.cp (Ch[cur.toNat]'a0).c.l k1 ((NsP.mem B0 1 rfl).get a0).1 ((NsP.mem B0 1 rfl).get a0).2.1 (by exact ⟨hgc14.1, hgc14.2.1⟩) qo qo) (c := ?_)
 rintro _ e1 ⟨k0, o0, l0, p0, m0, r0, n0, s0, rfl, t0⟩
 have c0 := B0.cl 0 t0
 have W0 := (c0.cap 0 rfl).1
 have X0 := (c0.cap 1 rfl).1
 have Y0 := (c0.cap 2 rfl).1
 have Z0 := (c0.cap 3 rfl).1
 refine os 0 [] [5, 6, 7, 8, 9, 10, 11, 12, 13] ?_
 refine aO [10, 11, 12, 13] [] 15 ?_
 refine Al 0 [] λ O0 w0 B1 A0 => ?_
 refine os 0 [] [6, 7, 8, 9, 10, 11, 12, 13, 14] ?_
 exact wE [] [] J14 v0 w0 k0 o0 l0 p0 m0 r0 n0 s0 [1, 2, 3, 4, 5, 0, 6, 7, 8, 9, 10, 11, 12, 13, 14]
 refine Al 0 [] λ O0 w0 B1 A0 => ?_
 refine os 0 [] [2, 3, 4, 5, 6, 7, 8, 9, 10] ?_
 refine aO [] [] 9 ?_
 refine cq 0 [] (b := eN (Ch[cur.toNat]'a0).k.A (Ch[cur.toNat]'a0).k.cp (Ch[cur.toNat]'a0).k.l (Ch[cur.toNat]'a0).c.A (Ch[cur.toNat]'a0).c.cp (Ch[cur.toNat]'a0).c.l O0 ((NsP.mem A0 2 rfl).get a0).1 ((NsP.mem A0 2 rfl).get a0).2.1 (by exact ⟨hgc14.1, hgc14.2.1⟩) qo qo) (c := ?_)
 rintro _ e1 ⟨k0, o0, l0, p0, m0, r0, n0, s0, rfl, t0⟩
 have c0 := A0.cl 0 t0
 have W0 := (c0.cap 0 rfl).1
 have X0 := (c0.cap 1 rfl).1
 have Y0 := (c0.cap 2 rfl).1
 have Z0 := (c0.cap 3 rfl).1
 refine os 0 [] [6, 7, 8, 9, 10, 11, 12, 13, 14] ?_
 exact wE [10, 11, 12, 13] [] J14 v0 w0 k0 o0 l0 p0 m0 r0 n0 s0 [0, 1, 2, 3, 5, 4, 6, 7, 8, 9, 10, 11, 12, 13, 14]
 refine Al 0 [] λ O0 w0 B1 A0 => ?_
 refine os 0 [] [2, 3, 4, 5, 6, 7, 8, 9, 10] ?_
 refine aO [] [] 8 ?_
 refine cp 0 [] (b := fO (Ch[cur.toNat]'a0) O0 ((NsP.mem A0 2 rfl).get a0)) (c := λ k1 B0 => ?_)
 refine os 0 [] [2, 3, 4, 5, 6, 7, 8, 9, 10] ?_
 refine aO [] [] 9 ?_
 refine cq 0 [] (b := eN (Ch[cur.toNat]'a0).k.A (Ch[cur.toNat]'a0).k.cp (Ch[cur.toNat]'a0).k.l (Ch[cur.toNat]'a0).c.A (Ch[cur.toNat]'a0).c.cp (Ch[cur.toNat]'a0).c.l k1 ((NsP.mem B0 2 rfl).get a0).1 ((NsP.mem B0 2 rfl).get a0).2.1 (by exact ⟨hgc14.1, hgc14.2.1⟩) qo qo) (c := ?_)
 rintro _ e1 ⟨k0, o0, l0, p0, m0, r0, n0, s0, rfl, t0⟩
 have c0 := B0.cl 0 t0
 have W0 := (c0.cap 0 rfl).1
 have X0 := (c0.cap 1 rfl).1
 have Y0 := (c0.cap 2 rfl).1
 have Z0 := (c0.cap 3 rfl).1
 refine os 0 [] [6, 7, 8, 9, 10, 11, 12, 13, 14] ?_
 exact wE [10, 11, 12, 13] [] J14 v0 w0 k0 o0 l0 p0 m0 r0 n0 s0 [0, 1, 2, 3, 5, 4, 6, 7, 8, 9, 10, 11, 12, 13, 14]
 refine Al 0 [] λ O0 w0 B1 A0 => ?_
 refine os 0 [] [1, 2, 3, 4, 5, 6, 7, 8, 9] ?_
 refine aT [] [] 8 14 ?_ ?_
 refine cp 0 [] (b := fO (Ch[cur.toNat]'a0) O0 ((NsP.mem A0 1 rfl).get a0)) (c := λ k1 B0 => ?_)
 refine os 0 [] [1, 2, 3, 4, 5, 6, 7, 8, 9] ?_
 refine aT [] [] 9 14 ?_ ?_
 refine cq 0 [] (b := eN (Ch[cur.toNat]'a0).k.A (Ch[cur.toNat]'a0).k.cp (Ch[cur.toNat]'a0).k.l (Ch[cur.toNat]'a0).c.A (Ch[cur.toNat]'a0).c.cp (Ch[cur.toNat]'a0).c.l k1 ((NsP.mem B0 1 rfl).get a0).1 ((NsP.mem B0 1 rfl).get a0).2.1 (by exact ⟨hgc14.1, hgc14.2.1⟩) qo qo) (c := ?_)
 rintro _ e1 ⟨k0, o0, l0, p0, m0, r0, n0, s0, rfl, t0⟩
 have c0 := B0.cl 0 t0
 have W0 := (c0.cap 0 rfl).1
 have X0 := (c0.cap 1 rfl).1
 have Y0 := (c0.cap 2 rfl).1
 have Z0 := (c0.cap 3 rfl).1
 refine os 0 [] [5, 6, 7, 8, 9, 10, 11, 12, 13] ?_
 refine aO [10, 11, 12, 13] [] 14 ?_
 refine Al 0 [] λ N0 v0 z1 z0 => ?_
 refine os 0 [] [6, 7, 8, 9, 10, 11, 12, 13, 14] ?_
 exact wE [] [] J14 v0 w0 k0 o0 l0 p0 m0 r0 n0 s0 [1, 2, 3, 4, 0, 5, 6, 7, 8, 9, 10, 11, 12, 13, 14]
 refine Al 0 [] λ N0 v0 z1 z0 => ?_
 refine os 0 [] [2, 3, 4, 5, 6, 7, 8, 9, 10] ?_
 refine aO [] [] 9 ?_
 refine cq 0 [] (b := eN (Ch[cur.toNat]'a0).k.A (Ch[cur.toNat]'a0).k.cp (Ch[cur.toNat]'a0).k.l (Ch[cur.toNat]'a0).c.A (Ch[cur.toNat]'a0).c.cp (Ch[cur.toNat]'a0).c.l N0 ((NsP.mem z0 2 rfl).get a0).1 ((NsP.mem z0 2 rfl).get a0).2.1 (by exact ⟨hgc14.1, hgc14.2.1⟩) qo qo) (c := ?_)
 rintro _ e1 ⟨k0, o0, l0, p0, m0, r0, n0, s0, rfl, t0⟩
 have c0 := z0.cl 0 t0
 have W0 := (c0.cap 0 rfl).1
 have X0 := (c0.cap 1 rfl).1
 have Y0 := (c0.cap 2 rfl).1
 have Z0 := (c0.cap 3 rfl).1
 refine os 0 [] [6, 7, 8, 9, 10, 11, 12, 13, 14] ?_
 exact wE [10, 11, 12, 13] [] J14 v0 w0 k0 o0 l0 p0 m0 r0 n0 s0 [0, 1, 2, 3, 4, 5, 6, 7, 8, 9, 10, 11, 12, 13, 14]
 refine Al 0 [] λ N0 v0 z1 z0 => ?_
 refine os 0 [] [2, 3, 4, 5, 6, 7, 8, 9, 10] ?_
 refine aO [] [] 8 ?_
 refine cp 0 [] (b := fO (Ch[cur.toNat]'a0) N0 ((NsP.mem z0 2 rfl).get a0)) (c := λ k1 B0 => ?_)
 refine os 0 [] [2, 3, 4, 5, 6, 7, 8, 9, 10] ?_
 refine aO [] [] 9 ?_
 refine cq 0 [] (b := eN (Ch[cur.toNat]'a0).k.A (Ch[cur.toNat]'a0).k.cp (Ch[cur.toNat]'a0).k.l (Ch[cur.toNat]'a0).c.A (Ch[cur.toNat]'a0).c.cp (Ch[cur.toNat]'a0).c.l k1 ((NsP.mem B0 2 rfl).get a0).1 ((NsP.mem B0 2 rfl).get a0).2.1 (by exact ⟨hgc14.1, hgc14.2.1⟩) qo qo) (c := ?_)
 rintro _ e1 ⟨k0, o0, l0, p0, m0, r0, n0, s0, rfl, t0⟩
 have c0 := B0.cl 0 t0
 have W0 := (c0.cap 0 rfl).1
 have X0 := (c0.cap 1 rfl).1
 have Y0 := (c0.cap 2 rfl).1
 have Z0 := (c0.cap 3 rfl).1
 refine os 0 [] [6, 7, 8, 9, 10, 11, 12, 13, 14] ?_
 exact wE [10, 11, 12, 13] [] J14 v0 w0 k0 o0 l0 p0 m0 r0 n0 s0 [0, 1, 2, 3, 4, 5, 6, 7, 8, 9, 10, 11, 12, 13, 14]
 refine aO [] [] 16 ?_
 refine Sb 0 [] 4 λ D7 g6 => ?_
 refine os 0 [] [6, 7, 8, 9, 10, 11, 12, 13, 14] ?_
 refine aO [17] [] 18 ?_
 refine Sb 0 [] 5 λ E7 w4 => ?_
 refine os 0 [] [6, 7, 8, 9, 10, 11, 12, 13, 14] ?_
 refine an [] [] ?_
 have Z4 := w4.rM 0 ((Ch[cur.toNat]'hjc).k.l.take ((Ch[cur.toNat]'hjc).k.l.length / 2) : List Int) (e := t2)
 have a5 := Z4.rM 1 ((Ch[cur.toNat]'hjc).c.l.take ((Ch[cur.toNat]'hjc).k.l.length / 2 + 1) : List Int) (e := t2)
 have b5 := a5.rM 2 ((Ch[cur.toNat]'hjc).k.l.drop ((Ch[cur.toNat]'hjc).k.l.length / 2 + 1) : List Int) (e := t2)
 have p6 := b5.rM 3 ((Ch[cur.toNat]'hjc).c.l.drop ((Ch[cur.toNat]'hjc).k.l.length / 2 + 1) : List Int) (e := t2)
 exact ce10 0 [] bx13 Q0 u0 Q1 u1 bx15 Q2 u2 Q3 u3 [4, 5, 0, 1, 2, 3, 6, 7, 8, 9, 10, 11, 12, 13, 14] (h := t12)
 have Q6 := (y1.cap 2 rfl).1
 have V6 := (y1.cap 3 rfl).1
 have a7 := (y1.cap 4 rfl).1
 have f7 := (y1.cap 5 rfl).1
 have i7 := (y1.cap 8 rfl).1
 have j7 := (y1.cap 9 rfl).1
 have M6 := (y1.cap 10 rfl).1
 have N6 := (y1.cap 11 rfl).1
 refine any 6 [] 10 [0, 1, 2, 3, 4, 5, 6, 7, 9, 10, 11, 12, 13, 14] λ J5 B2 => ?_
 have n3 : (a - 1) < (aY T.t x.key).length := t1
 refine av [0, 1, 2, 3] [7] 4 (a := by exact λ _ hw2 => cG n3 (B2.rd 11 rfl) (h0 := t1)) (b := ?_)
 refine av [] [] 5 (s := Vi cur) (a := by exact λ w2 hw2 => cv (Ru.congr (Ru.load1 el3 rfl (ldm (hw2.rd 10 rfl) n3)) (I_congr ((bF n3).symm.trans hcu.symm))) rfl) (b := ?_)
 refine aO [6] [0] 7 ?_
 refine cq 0 [] (b := eD q1 E1 ((Ch[cur.toNat]'hjc).k.l.take ((Ch[cur.toNat]'hjc).k.l.length / 2)) s1 F1 ((Ch[cur.toNat]'hjc).c.l.take ((Ch[cur.toNat]'hjc).k.l.length / 2 + 1)) J5 (B2.rd 2 rfl) (B2.rd 3 rfl)) (c := ?_)
 rintro _ F7 ⟨z3, I3, rfl, o5⟩
 have R3 := B2.cl 0 o5
 have q7 := (R3.cap 0 rfl).1
 refine os 0 [] [1, 2, 3, 4, 5, 6, 7, 8, 10, 11, 12, 13, 14, 15] ?_
 have f4 : cur.toNat < Ch.length := t1
 refine av [] [] 8 (a := by exact λ _ hw2 => cJ f4 (R3.rd 9 rfl) (h0 := t1)) (b := ?_)
 refine aO [] [] 9 ?_
 let d1 : PgL := (⟨⟨q1, E1, (Ch[cur.toNat]'hjc).k.l.take ((Ch[cur.toNat]'hjc).k.l.length / 2)⟩, ⟨s1, F1, (Ch[cur.toNat]'hjc).c.l.take ((Ch[cur.toNat]'hjc).k.l.length / 2 + 1)⟩, ⟨z3, I3, ([] : List Int)⟩⟩ : PgL)
 refine sF 0 [] 9 d1 f4 λ G7 x4 => ?_
 refine os 0 [] [1, 2, 3, 4, 5, 6, 7, 8, 10, 11, 12, 13, 14, 15] ?_
 refine an [] [] ?_
 have l6 := Mem.gset (k := ⟨q1, E1, (Ch[cur.toNat]'hjc).k.l.take ((Ch[cur.toNat]'hjc).k.l.length / 2)⟩) (c := ⟨s1, F1, (Ch[cur.toNat]'hjc).c.l.take ((Ch[cur.toNat]'hjc).k.l.length / 2 + 1)⟩) (v := ⟨z3, I3, ([] : List Int)⟩) cur.toNat (x4.pk [7, 3, 4, 0, 1, 2, 5, 6, 8, 9, 10, 11, 12, 13, 14, 15])
 refine any 0 [] 8 [0, 1, 2, 3, 4, 7, 8, 9, 10, 11, 12] λ p4 X1 => ?_
 refine aT [0, 2] [2] 1 3 ?_ ?_
 refine os 1 [5] [0, 1, 2, 3, 4, 7, 8, 9, 10, 11, 12] ?_
 refine aO [] [] 3 ?_
 refine cq 0 [] (b := eD J0 L0 ((Ch[cur.toNat]'hjc).k.l.drop ((Ch[cur.toNat]'hjc).k.l.length / 2 + 1)) K0 M0 ((Ch[cur.toNat]'hjc).c.l.drop ((Ch[cur.toNat]'hjc).k.l.length / 2 + 1)) p4 (X1.rd 3 rfl) (X1.rd 4 rfl)) (c := ?_)
 rintro _ K5 ⟨J1, O1, rfl, g3⟩
 have c3 := X1.cl 0 g3
 have x5 := (c3.cap 0 rfl).1
 refine os 0 [] [1, 2, 3, 4, 5, 8, 9, 10, 11, 12, 13] ?_
 refine aO [] [] 4 ?_
 let W2 : PgL := (⟨⟨J0, L0, (Ch[cur.toNat]'hjc).k.l.drop ((Ch[cur.toNat]'hjc).k.l.length / 2 + 1)⟩, ⟨K0, M0, (Ch[cur.toNat]'hjc).c.l.drop ((Ch[cur.toNat]'hjc).k.l.length / 2 + 1)⟩, ⟨J1, O1, ([] : List Int)⟩⟩ : PgL)
 refine Lt 0 [] (([W2]).flatMap encPg) (λ m4 G3 X3 j2 => ?_)
 refine os 0 [] [2, 3, 4, 5, 6, 9, 10, 11, 12, 13, 14] ?_
 refine aO [] [] 5 ?_
 refine aF 0 [] 8 (j2.rd 0 rfl) (λ n4 d2 f2 Z3 S3 => ?_) (hn := t4) (hb := t4)
 refine os 0 [] [2, 3, 4, 5, 6, 9, 10, 11, 12, 13, 14] ?_
 refine aO [6] [] 7 ?_
 refine Sb 0 [] 7 λ o4 k2 => ?_
 refine os 0 [] [2, 3, 4, 5, 6, 9, 10, 11, 12, 13, 14] ?_
 refine an [] [] ?_
 have I4 := Mem.gapp (k := ⟨J0, L0, (Ch[cur.toNat]'hjc).k.l.drop ((Ch[cur.toNat]'hjc).k.l.length / 2 + 1)⟩) (c := ⟨K0, M0, (Ch[cur.toNat]'hjc).c.l.drop ((Ch[cur.toNat]'hjc).k.l.length / 2 + 1)⟩) (v := ⟨J1, O1, ([] : List Int)⟩) (k2.pk [2, 5, 6, 1, 0, 3, 4, 7, 8, 9, 10, 11, 12, 13, 14])
 have hR1 : (⟨rt, tsG (Ch.set cur.toNat d1 ++ [W2])⟩ : TrT) = iV (cF (⟨rt, tsG Ch⟩ : TrT) cur sp.1) sp.2.2 := by rw [gJ, cV]; rw [hsp]; rfl
 have q6 := I4.rF 5 ((Ch.set cur.toNat d1 ++ [W2]) : List PgL) (e := t2)
 exact ce3 0 [] (Ch.set cur.toNat d1 ++ [W2]) d2 f2 [0, 4, 5, 6, 7, 8, 9, 10, 11] (hL := by exact (Has.cons (I_congr (by first | rfl | exact (congrArg (λ z => z.2.1) hsp).symm)) Has.nil)) (h := by exact hR1)
 refine cq 0 [] (b := eD J0 L0 ((Ch[cur.toNat]'hjc).k.l.drop ((Ch[cur.toNat]'hjc).k.l.length / 2 + 1)) K0 M0 ((Ch[cur.toNat]'hjc).c.l.drop ((Ch[cur.toNat]'hjc).k.l.length / 2 + 1)) p4 (X1.rd 3 rfl) (X1.rd 4 rfl)) (c := ?_)
 rintro _ K5 ⟨J1, O1, rfl, g3⟩
 have c3 := X1.cl 0 g3
 have x5 := (c3.cap 0 rfl).1
 refine os 0 [] [1, 2, 3, 4, 5, 8, 9, 10, 11, 12, 13] ?_
 refine aT [] [] 1 4 ?_ ?_
 refine os 1 [6] [1, 2, 3, 4, 5, 8, 9, 10, 11, 12, 13] ?_
 refine aO [] [] 4 ?_
 let X2 : PgL := (⟨⟨J0, L0, (Ch[cur.toNat]'hjc).k.l.drop ((Ch[cur.toNat]'hjc).k.l.length / 2 + 1)⟩, ⟨K0, M0, (Ch[cur.toNat]'hjc).c.l.drop ((Ch[cur.toNat]'hjc).k.l.length / 2 + 1)⟩, ⟨J1, O1, ([] : List Int)⟩⟩ : PgL)
 refine Lt 0 [] (([X2]).flatMap encPg) (λ m4 G3 X3 j2 => ?_)
 refine os 0 [] [2, 3, 4, 5, 6, 9, 10, 11, 12, 13, 14] ?_
 refine aO [] [] 5 ?_
 refine aF 0 [] 8 (j2.rd 0 rfl) (λ n4 d2 f2 Z3 S3 => ?_) (hn := t4) (hb := t4)
 refine os 0 [] [2, 3, 4, 5, 6, 9, 10, 11, 12, 13, 14] ?_
 refine aO [6] [] 7 ?_
 refine Sb 0 [] 7 λ o4 k2 => ?_
 refine os 0 [] [2, 3, 4, 5, 6, 9, 10, 11, 12, 13, 14] ?_
 refine an [] [] ?_
 have J4 := Mem.gapp (k := ⟨J0, L0, (Ch[cur.toNat]'hjc).k.l.drop ((Ch[cur.toNat]'hjc).k.l.length / 2 + 1)⟩) (c := ⟨K0, M0, (Ch[cur.toNat]'hjc).c.l.drop ((Ch[cur.toNat]'hjc).k.l.length / 2 + 1)⟩) (v := ⟨J1, O1, ([] : List Int)⟩) (k2.pk [2, 5, 6, 1, 0, 3, 4, 7, 8, 9, 10, 11, 12, 13, 14])
 have hR1 : (⟨rt, tsG (Ch.set cur.toNat d1 ++ [X2])⟩ : TrT) = iV (cF (⟨rt, tsG Ch⟩ : TrT) cur sp.1) sp.2.2 := by rw [gJ, cV]; rw [hsp]; rfl
 have r6 := J4.rF 5 ((Ch.set cur.toNat d1 ++ [X2]) : List PgL) (e := t2)
 exact ce3 0 [] (Ch.set cur.toNat d1 ++ [X2]) d2 f2 [0, 4, 5, 6, 7, 8, 9, 10, 11] (hL := by exact (Has.cons (I_congr (by first | rfl | exact (congrArg (λ z => z.2.1) hsp).symm)) Has.nil)) (h := by exact hR1)
 let Y2 : PgL := (⟨⟨J0, L0, (Ch[cur.toNat]'hjc).k.l.drop ((Ch[cur.toNat]'hjc).k.l.length / 2 + 1)⟩, ⟨K0, M0, (Ch[cur.toNat]'hjc).c.l.drop ((Ch[cur.toNat]'hjc).k.l.length / 2 + 1)⟩, ⟨J1, O1, ([] : List Int)⟩⟩ : PgL)
 refine Lt 0 [] (([Y2]).flatMap encPg) (λ m4 G3 X3 j2 => ?_)
 refine os 0 [] [2, 3, 4, 5, 6, 9, 10, 11, 12, 13, 14] ?_
 refine aO [] [] 1 ?_
 refine os 1 [7] [2, 3, 4, 5, 6, 9, 10, 11, 12, 13, 14] ?_
 refine aO [] [] 5 ?_
 refine aF 0 [] 8 (j2.rd 0 rfl) (λ n4 d2 f2 Z3 S3 => ?_) (hn := t4) (hb := t4)
 refine os 0 [] [2, 3, 4, 5, 6, 9, 10, 11, 12, 13, 14] ?_
 refine aO [6] [] 7 ?_
 refine Sb 0 [] 7 λ o4 k2 => ?_
 refine os 0 [] [2, 3, 4, 5, 6, 9, 10, 11, 12, 13, 14] ?_
 refine an [] [] ?_
 have K4 := Mem.gapp (k := ⟨J0, L0, (Ch[cur.toNat]'hjc).k.l.drop ((Ch[cur.toNat]'hjc).k.l.length / 2 + 1)⟩) (c := ⟨K0, M0, (Ch[cur.toNat]'hjc).c.l.drop ((Ch[cur.toNat]'hjc).k.l.length / 2 + 1)⟩) (v := ⟨J1, O1, ([] : List Int)⟩) (k2.pk [2, 5, 6, 1, 0, 3, 4, 7, 8, 9, 10, 11, 12, 13, 14])
 have hR1 : (⟨rt, tsG (Ch.set cur.toNat d1 ++ [Y2])⟩ : TrT) = iV (cF (⟨rt, tsG Ch⟩ : TrT) cur sp.1) sp.2.2 := by rw [gJ, cV]; rw [hsp]; rfl
 have s6 := K4.rF 5 ((Ch.set cur.toNat d1 ++ [Y2]) : List PgL) (e := t2)
 exact ce3 0 [] (Ch.set cur.toNat d1 ++ [Y2]) d2 f2 [0, 4, 5, 6, 7, 8, 9, 10, 11] (hL := by exact (Has.cons (I_congr (by first | rfl | exact (congrArg (λ z => z.2.1) hsp).symm)) Has.nil)) (h := by exact hR1)
 have y5 := hI
 have O6 := (T1.cap 2 rfl).1
 have T6 := (T1.cap 3 rfl).1
 have Y6 := (T1.cap 4 rfl).1
 have d7 := (T1.cap 5 rfl).1
 have hR1 := y5
 have hle : Ch2.length = Ch.length + 1 := by have h9 := congrArg (λ z => z.pages.length) hR1; simpa [iV, cF] using h9
 refine cd 6 [] (λ c140 => ?_) (λ c140 => ?_)
 refine ct3 0 [] (λ (Ch4 : List PgL) (A4 : Option Addr) (c4 : Nat) => ([] : List (Nat × SV))) (λ Ch4 A4 c4 => ((⟨rt, tsG Ch4⟩ : TrT) = iV (⟨rt, tsG Ch2⟩ : TrT) (dP [sp.2.1] [cur, (Ch.length : Int)]))) (λ Ch4 A4 c4 => [Ch4.flatMap (pgF 3), [⟨.slice (bl v2) 1 1, 25, 2, 1, [I rt, .slice A4 Ch4.length c4]⟩], oG A4 c4 Ch4]) [4, 5] [3, 4, 5, 6, 7, 8] ?_ (λ Ch4 A4 c4 σ X7 hI E2 => ?_)
 refine any 0 [] 15 [0, 3, 4, 5, 6, 7, 8] λ H7 y4 => ?_
 have o3 : 0 < (aY T.t x.key).length := t1
 refine av [0, 2, 4] [] 5 (a := by exact λ _ hw2 => cG o3 (y4.rd 5 rfl) (h0 := t1)) (b := ?_)
 refine av [] [] 6 (s := Vi cur) (a := by exact λ w2 hw2 => cv (Ru.congr (Ru.load1 el3 rfl (ldm (hw2.rd 3 rfl) o3)) (I_congr (by rw [hcu, show a - 1 = 0 by omega, bF o3]))) rfl) (b := ?_)
 refine aH [7] [] 1 3 8 ?_ ?_ ?_
 refine os 1 [1] [0, 3, 4, 5, 6, 7, 8] ?_
 refine aT [] [] 3 8 ?_ ?_
 refine Lt 0 [] (([sp.2.1]).map I) (λ G1 f0 G2 F0 => ?_)
 refine os 0 [] [1, 4, 5, 6, 7, 8, 9] ?_
 refine aO [] [] 8 ?_
 refine Lt 0 [] (([cur, ((Ch.length : Nat) : Int)]).map I) (λ H1 g0 H2 G0 => ?_)
 refine os 0 [] [2, 5, 6, 7, 8, 9, 10] ?_
 refine aO [9] [] 10 ?_
 refine cq 0 [] (b := eD (bl f0) 1 [sp.2.1] (bl g0) 2 [cur, ((Ch.length : Nat) : Int)] H1 (G0.rd 1 rfl) (G0.rd 0 rfl)) (c := ?_)
 rintro _ W1 ⟨i0, j0, rfl, I0⟩
 have H0 := G0.cl 0 I0
 have U1 := (H0.cap 0 rfl).1
 refine os 0 [] [3, 6, 7, 8, 9, 10, 11] ?_
 refine aO [] [] 11 ?_
 let I2 : PgL := (⟨⟨bl f0, 1, [sp.2.1]⟩, ⟨bl g0, 2, [cur, ((Ch.length : Nat) : Int)]⟩, ⟨i0, j0, ([] : List Int)⟩⟩ : PgL)
 refine Lt 0 [] (([I2]).flatMap encPg) (λ l1 f1 i1 C0 => ?_)
 refine os 0 [] [4, 7, 8, 9, 10, 11, 12] ?_
 refine aO [] [] 12 ?_
 refine aF 0 [] 6 (C0.rd 0 rfl) (λ m1 x0 y0 j1 g1 => ?_) (hn := t4) (hb := t4)
 refine os 0 [] [4, 7, 8, 9, 10, 11, 12] ?_
 refine aO [13] [] 14 ?_
 refine Sb 0 [] 5 λ n1 D0 => ?_
 refine os 0 [] [4, 7, 8, 9, 10, 11, 12] ?_
 refine an [] [] ?_
 have L4 := Mem.gapp (k := ⟨bl f0, 1, [sp.2.1]⟩) (c := ⟨bl g0, 2, [cur, ((Ch.length : Nat) : Int)]⟩) (v := ⟨i0, j0, ([] : List Int)⟩) (D0.pk [4, 3, 2, 1, 0, 5, 6, 7, 8, 9, 10, 11, 12])
 have hR2 : (⟨rt, tsG (Ch2 ++ [I2])⟩ : TrT) = iV (⟨rt, tsG Ch2⟩ : TrT) (dP [sp.2.1] [cur, (Ch.length : Int)]) := by rw [gJ]; rfl
 have t6 := L4.rF 3 ((Ch2 ++ [I2]) : List PgL) (e := t2)
 exact ce3 0 [] (Ch2 ++ [I2]) x0 y0 [0, 2, 3, 4, 5, 6, 7, 8, 9] (h := by exact hR2)
 refine Lt 0 [] (([cur, ((Ch.length : Nat) : Int)]).map I) (λ H1 g0 H2 G0 => ?_)
 refine os 0 [] [1, 4, 5, 6, 7, 8, 9] ?_
 refine aO [] [] 3 ?_
 refine Lt 0 [] (([sp.2.1]).map I) (λ G1 f0 G2 F0 => ?_)
 refine os 0 [] [2, 5, 6, 7, 8, 9, 10] ?_
 refine aO [9] [] 10 ?_
 refine cq 0 [] (b := eD (bl f0) 1 [sp.2.1] (bl g0) 2 [cur, ((Ch.length : Nat) : Int)] G1 (F0.rd 0 rfl) (F0.rd 1 rfl)) (c := ?_)
 rintro _ W1 ⟨i0, j0, rfl, I0⟩
 have H0 := F0.cl 0 I0
 have U1 := (H0.cap 0 rfl).1
 refine os 0 [] [3, 6, 7, 8, 9, 10, 11] ?_
 refine aO [] [] 11 ?_
 let J2 : PgL := (⟨⟨bl f0, 1, [sp.2.1]⟩, ⟨bl g0, 2, [cur, ((Ch.length : Nat) : Int)]⟩, ⟨i0, j0, ([] : List Int)⟩⟩ : PgL)
 refine Lt 0 [] (([J2]).flatMap encPg) (λ l1 f1 i1 C0 => ?_)
 refine os 0 [] [4, 7, 8, 9, 10, 11, 12] ?_
 refine aO [] [] 12 ?_
 refine aF 0 [] 6 (C0.rd 0 rfl) (λ m1 x0 y0 j1 g1 => ?_) (hn := t4) (hb := t4)
 refine os 0 [] [4, 7, 8, 9, 10, 11, 12] ?_
 refine aO [13] [] 14 ?_
 refine Sb 0 [] 5 λ n1 D0 => ?_
 refine os 0 [] [4, 7, 8, 9, 10, 11, 12] ?_
 refine an [] [] ?_
 have M4 := Mem.gapp (k := ⟨bl f0, 1, [sp.2.1]⟩) (c := ⟨bl g0, 2, [cur, ((Ch.length : Nat) : Int)]⟩) (v := ⟨i0, j0, ([] : List Int)⟩) (D0.pk [4, 2, 3, 1, 0, 5, 6, 7, 8, 9, 10, 11, 12])
 have hR2 : (⟨rt, tsG (Ch2 ++ [J2])⟩ : TrT) = iV (⟨rt, tsG Ch2⟩ : TrT) (dP [sp.2.1] [cur, (Ch.length : Int)]) := by rw [gJ]; rfl
 have u6 := M4.rF 3 ((Ch2 ++ [J2]) : List PgL) (e := t2)
 exact ce3 0 [] (Ch2 ++ [J2]) x0 y0 [0, 2, 3, 4, 5, 6, 7, 8, 9] (h := by exact hR2)
 refine Lt 0 [] (([sp.2.1]).map I) (λ G1 f0 G2 F0 => ?_)
 refine os 0 [] [1, 4, 5, 6, 7, 8, 9] ?_
 refine aT [] [] 1 8 ?_ ?_
 refine os 1 [2] [1, 4, 5, 6, 7, 8, 9] ?_
 refine aO [] [] 8 ?_
 refine Lt 0 [] (([cur, ((Ch.length : Nat) : Int)]).map I) (λ H1 g0 H2 G0 => ?_)
 refine os 0 [] [2, 5, 6, 7, 8, 9, 10] ?_
 refine aO [9] [] 10 ?_
 refine cq 0 [] (b := eD (bl f0) 1 [sp.2.1] (bl g0) 2 [cur, ((Ch.length : Nat) : Int)] H1 (G0.rd 1 rfl) (G0.rd 0 rfl)) (c := ?_)
 rintro _ W1 ⟨i0, j0, rfl, I0⟩
 have H0 := G0.cl 0 I0
 have U1 := (H0.cap 0 rfl).1
 refine os 0 [] [3, 6, 7, 8, 9, 10, 11] ?_
 refine aO [] [] 11 ?_
 let K2 : PgL := (⟨⟨bl f0, 1, [sp.2.1]⟩, ⟨bl g0, 2, [cur, ((Ch.length : Nat) : Int)]⟩, ⟨i0, j0, ([] : List Int)⟩⟩ : PgL)
 refine Lt 0 [] (([K2]).flatMap encPg) (λ l1 f1 i1 C0 => ?_)
 refine os 0 [] [4, 7, 8, 9, 10, 11, 12] ?_
 refine aO [] [] 12 ?_
 refine aF 0 [] 6 (C0.rd 0 rfl) (λ m1 x0 y0 j1 g1 => ?_) (hn := t4) (hb := t4)
 refine os 0 [] [4, 7, 8, 9, 10, 11, 12] ?_
 refine aO [13] [] 14 ?_
 refine Sb 0 [] 5 λ n1 D0 => ?_
 refine os 0 [] [4, 7, 8, 9, 10, 11, 12] ?_
 refine an [] [] ?_
 have N4 := Mem.gapp (k := ⟨bl f0, 1, [sp.2.1]⟩) (c := ⟨bl g0, 2, [cur, ((Ch.length : Nat) : Int)]⟩) (v := ⟨i0, j0, ([] : List Int)⟩) (D0.pk [4, 3, 2, 1, 0, 5, 6, 7, 8, 9, 10, 11, 12])
 have hR2 : (⟨rt, tsG (Ch2 ++ [K2])⟩ : TrT) = iV (⟨rt, tsG Ch2⟩ : TrT) (dP [sp.2.1] [cur, (Ch.length : Int)]) := by rw [gJ]; rfl
 have v6 := N4.rF 3 ((Ch2 ++ [K2]) : List PgL) (e := t2)
 exact ce3 0 [] (Ch2 ++ [K2]) x0 y0 [0, 2, 3, 4, 5, 6, 7, 8, 9] (h := by exact hR2)
 refine Lt 0 [] (([cur, ((Ch.length : Nat) : Int)]).map I) (λ H1 g0 H2 G0 => ?_)
 refine os 0 [] [2, 5, 6, 7, 8, 9, 10] ?_
 refine aT [9] [] 1 10 ?_ ?_
 refine os 1 [3] [2, 5, 6, 7, 8, 9, 10] ?_
 refine aO [] [] 10 ?_
 refine cq 0 [] (b := eD (bl f0) 1 [sp.2.1] (bl g0) 2 [cur, ((Ch.length : Nat) : Int)] H1 (G0.rd 1 rfl) (G0.rd 0 rfl)) (c := ?_)
 rintro _ W1 ⟨i0, j0, rfl, I0⟩
 have H0 := G0.cl 0 I0
 have U1 := (H0.cap 0 rfl).1
 refine os 0 [] [3, 6, 7, 8, 9, 10, 11] ?_
 refine aO [] [] 11 ?_
 let L2 : PgL := (⟨⟨bl f0, 1, [sp.2.1]⟩, ⟨bl g0, 2, [cur, ((Ch.length : Nat) : Int)]⟩, ⟨i0, j0, ([] : List Int)⟩⟩ : PgL)
 refine Lt 0 [] (([L2]).flatMap encPg) (λ l1 f1 i1 C0 => ?_)
 refine os 0 [] [4, 7, 8, 9, 10, 11, 12] ?_
 refine aO [] [] 12 ?_
 refine aF 0 [] 6 (C0.rd 0 rfl) (λ m1 x0 y0 j1 g1 => ?_) (hn := t4) (hb := t4)
 refine os 0 [] [4, 7, 8, 9, 10, 11, 12] ?_
 refine aO [13] [] 14 ?_
 refine Sb 0 [] 5 λ n1 D0 => ?_
 refine os 0 [] [4, 7, 8, 9, 10, 11, 12] ?_
 refine an [] [] ?_
 have O4 := Mem.gapp (k := ⟨bl f0, 1, [sp.2.1]⟩) (c := ⟨bl g0, 2, [cur, ((Ch.length : Nat) : Int)]⟩) (v := ⟨i0, j0, ([] : List Int)⟩) (D0.pk [4, 3, 2, 1, 0, 5, 6, 7, 8, 9, 10, 11, 12])
 have hR2 : (⟨rt, tsG (Ch2 ++ [L2])⟩ : TrT) = iV (⟨rt, tsG Ch2⟩ : TrT) (dP [sp.2.1] [cur, (Ch.length : Int)]) := by rw [gJ]; rfl
 have x6 := O4.rF 3 ((Ch2 ++ [L2]) : List PgL) (e := t2)
 exact ce3 0 [] (Ch2 ++ [L2]) x0 y0 [0, 2, 3, 4, 5, 6, 7, 8, 9] (h := by exact hR2)
 refine cq 0 [] (b := eD (bl f0) 1 [sp.2.1] (bl g0) 2 [cur, ((Ch.length : Nat) : Int)] H1 (G0.rd 1 rfl) (G0.rd 0 rfl)) (c := ?_)
 rintro _ W1 ⟨i0, j0, rfl, I0⟩
 have H0 := G0.cl 0 I0
 have U1 := (H0.cap 0 rfl).1
 refine os 0 [] [3, 6, 7, 8, 9, 10, 11] ?_
 refine aT [] [] 1 11 ?_ ?_
 refine os 1 [4] [3, 6, 7, 8, 9, 10, 11] ?_
 refine aO [] [] 11 ?_
 let M2 : PgL := (⟨⟨bl f0, 1, [sp.2.1]⟩, ⟨bl g0, 2, [cur, ((Ch.length : Nat) : Int)]⟩, ⟨i0, j0, ([] : List Int)⟩⟩ : PgL)
 refine Lt 0 [] (([M2]).flatMap encPg) (λ l1 f1 i1 C0 => ?_)
 refine os 0 [] [4, 7, 8, 9, 10, 11, 12] ?_
 refine aO [] [] 12 ?_
 refine aF 0 [] 6 (C0.rd 0 rfl) (λ m1 x0 y0 j1 g1 => ?_) (hn := t4) (hb := t4)
 refine os 0 [] [4, 7, 8, 9, 10, 11, 12] ?_
 refine aO [13] [] 14 ?_
 refine Sb 0 [] 5 λ n1 D0 => ?_
 refine os 0 [] [4, 7, 8, 9, 10, 11, 12] ?_
 refine an [] [] ?_
 have P4 := Mem.gapp (k := ⟨bl f0, 1, [sp.2.1]⟩) (c := ⟨bl g0, 2, [cur, ((Ch.length : Nat) : Int)]⟩) (v := ⟨i0, j0, ([] : List Int)⟩) (D0.pk [4, 3, 2, 1, 0, 5, 6, 7, 8, 9, 10, 11, 12])
 have hR2 : (⟨rt, tsG (Ch2 ++ [M2])⟩ : TrT) = iV (⟨rt, tsG Ch2⟩ : TrT) (dP [sp.2.1] [cur, (Ch.length : Int)]) := by rw [gJ]; rfl
 have y6 := P4.rF 3 ((Ch2 ++ [M2]) : List PgL) (e := t2)
 exact ce3 0 [] (Ch2 ++ [M2]) x0 y0 [0, 2, 3, 4, 5, 6, 7, 8, 9] (h := by exact hR2)
 let N2 : PgL := (⟨⟨bl f0, 1, [sp.2.1]⟩, ⟨bl g0, 2, [cur, ((Ch.length : Nat) : Int)]⟩, ⟨i0, j0, ([] : List Int)⟩⟩ : PgL)
 refine Lt 0 [] (([N2]).flatMap encPg) (λ l1 f1 i1 C0 => ?_)
 refine os 0 [] [4, 7, 8, 9, 10, 11, 12] ?_
 refine aO [] [] 1 ?_
 refine os 1 [5] [4, 7, 8, 9, 10, 11, 12] ?_
 refine aO [] [] 12 ?_
 refine aF 0 [] 6 (C0.rd 0 rfl) (λ m1 x0 y0 j1 g1 => ?_) (hn := t4) (hb := t4)
 refine os 0 [] [4, 7, 8, 9, 10, 11, 12] ?_
 refine aO [13] [] 14 ?_
 refine Sb 0 [] 5 λ n1 D0 => ?_
 refine os 0 [] [4, 7, 8, 9, 10, 11, 12] ?_
 refine an [] [] ?_
 have Q4 := Mem.gapp (k := ⟨bl f0, 1, [sp.2.1]⟩) (c := ⟨bl g0, 2, [cur, ((Ch.length : Nat) : Int)]⟩) (v := ⟨i0, j0, ([] : List Int)⟩) (D0.pk [4, 3, 2, 1, 0, 5, 6, 7, 8, 9, 10, 11, 12])
 have hR2 : (⟨rt, tsG (Ch2 ++ [N2])⟩ : TrT) = iV (⟨rt, tsG Ch2⟩ : TrT) (dP [sp.2.1] [cur, (Ch.length : Int)]) := by rw [gJ]; rfl
 have z6 := Q4.rF 3 ((Ch2 ++ [N2]) : List PgL) (e := t2)
 exact ce3 0 [] (Ch2 ++ [N2]) x0 y0 [0, 2, 3, 4, 5, 6, 7, 8, 9] (h := by exact hR2)
 refine Lt 0 [] (([cur, ((Ch.length : Nat) : Int)]).map I) (λ H1 g0 H2 G0 => ?_)
 refine os 0 [] [1, 4, 5, 6, 7, 8, 9] ?_
 refine aT [] [] 1 3 ?_ ?_
 refine os 1 [2] [1, 4, 5, 6, 7, 8, 9] ?_
 refine aO [] [] 3 ?_
 refine Lt 0 [] (([sp.2.1]).map I) (λ G1 f0 G2 F0 => ?_)
 refine os 0 [] [2, 5, 6, 7, 8, 9, 10] ?_
 refine aO [9] [] 10 ?_
 refine cq 0 [] (b := eD (bl f0) 1 [sp.2.1] (bl g0) 2 [cur, ((Ch.length : Nat) : Int)] G1 (F0.rd 0 rfl) (F0.rd 1 rfl)) (c := ?_)
 rintro _ W1 ⟨i0, j0, rfl, I0⟩
 have H0 := F0.cl 0 I0
 have U1 := (H0.cap 0 rfl).1
 refine os 0 [] [3, 6, 7, 8, 9, 10, 11] ?_
 refine aO [] [] 11 ?_
 let O2 : PgL := (⟨⟨bl f0, 1, [sp.2.1]⟩, ⟨bl g0, 2, [cur, ((Ch.length : Nat) : Int)]⟩, ⟨i0, j0, ([] : List Int)⟩⟩ : PgL)
 refine Lt 0 [] (([O2]).flatMap encPg) (λ l1 f1 i1 C0 => ?_)
 refine os 0 [] [4, 7, 8, 9, 10, 11, 12] ?_
 refine aO [] [] 12 ?_
 refine aF 0 [] 6 (C0.rd 0 rfl) (λ m1 x0 y0 j1 g1 => ?_) (hn := t4) (hb := t4)
 refine os 0 [] [4, 7, 8, 9, 10, 11, 12] ?_
 refine aO [13] [] 14 ?_
 refine Sb 0 [] 5 λ n1 D0 => ?_
 refine os 0 [] [4, 7, 8, 9, 10, 11, 12] ?_
 refine an [] [] ?_
 have R4 := Mem.gapp (k := ⟨bl f0, 1, [sp.2.1]⟩) (c := ⟨bl g0, 2, [cur, ((Ch.length : Nat) : Int)]⟩) (v := ⟨i0, j0, ([] : List Int)⟩) (D0.pk [4, 2, 3, 1, 0, 5, 6, 7, 8, 9, 10, 11, 12])
 have hR2 : (⟨rt, tsG (Ch2 ++ [O2])⟩ : TrT) = iV (⟨rt, tsG Ch2⟩ : TrT) (dP [sp.2.1] [cur, (Ch.length : Int)]) := by rw [gJ]; rfl
 have A6 := R4.rF 3 ((Ch2 ++ [O2]) : List PgL) (e := t2)
 exact ce3 0 [] (Ch2 ++ [O2]) x0 y0 [0, 2, 3, 4, 5, 6, 7, 8, 9] (h := by exact hR2)
 refine Lt 0 [] (([sp.2.1]).map I) (λ G1 f0 G2 F0 => ?_)
 refine os 0 [] [2, 5, 6, 7, 8, 9, 10] ?_
 refine aT [9] [] 1 10 ?_ ?_
 refine os 1 [3] [2, 5, 6, 7, 8, 9, 10] ?_
 refine aO [] [] 10 ?_
 refine cq 0 [] (b := eD (bl f0) 1 [sp.2.1] (bl g0) 2 [cur, ((Ch.length : Nat) : Int)] G1 (F0.rd 0 rfl) (F0.rd 1 rfl)) (c := ?_)
 rintro _ W1 ⟨i0, j0, rfl, I0⟩
 have H0 := F0.cl 0 I0
 have U1 := (H0.cap 0 rfl).1
 refine os 0 [] [3, 6, 7, 8, 9, 10, 11] ?_
 refine aO [] [] 11 ?_
 let P2 : PgL := (⟨⟨bl f0, 1, [sp.2.1]⟩, ⟨bl g0, 2, [cur, ((Ch.length : Nat) : Int)]⟩, ⟨i0, j0, ([] : List Int)⟩⟩ : PgL)
 refine Lt 0 [] (([P2]).flatMap encPg) (λ l1 f1 i1 C0 => ?_)
 refine os 0 [] [4, 7, 8, 9, 10, 11, 12] ?_
 refine aO [] [] 12 ?_
 refine aF 0 [] 6 (C0.rd 0 rfl) (λ m1 x0 y0 j1 g1 => ?_) (hn := t4) (hb := t4)
 refine os 0 [] [4, 7, 8, 9, 10, 11, 12] ?_
 refine aO [13] [] 14 ?_
 refine Sb 0 [] 5 λ n1 D0 => ?_
 refine os 0 [] [4, 7, 8, 9, 10, 11, 12] ?_
 refine an [] [] ?_
 have S4 := Mem.gapp (k := ⟨bl f0, 1, [sp.2.1]⟩) (c := ⟨bl g0, 2, [cur, ((Ch.length : Nat) : Int)]⟩) (v := ⟨i0, j0, ([] : List Int)⟩) (D0.pk [4, 2, 3, 1, 0, 5, 6, 7, 8, 9, 10, 11, 12])
 have hR2 : (⟨rt, tsG (Ch2 ++ [P2])⟩ : TrT) = iV (⟨rt, tsG Ch2⟩ : TrT) (dP [sp.2.1] [cur, (Ch.length : Int)]) := by rw [gJ]; rfl
 have B6 := S4.rF 3 ((Ch2 ++ [P2]) : List PgL) (e := t2)
 exact ce3 0 [] (Ch2 ++ [P2]) x0 y0 [0, 2, 3, 4, 5, 6, 7, 8, 9] (h := by exact hR2)
 refine cq 0 [] (b := eD (bl f0) 1 [sp.2.1] (bl g0) 2 [cur, ((Ch.length : Nat) : Int)] G1 (F0.rd 0 rfl) (F0.rd 1 rfl)) (c := ?_)
 rintro _ W1 ⟨i0, j0, rfl, I0⟩
 have H0 := F0.cl 0 I0
 have U1 := (H0.cap 0 rfl).1
 refine os 0 [] [3, 6, 7, 8, 9, 10, 11] ?_
 refine aT [] [] 1 11 ?_ ?_
 refine os 1 [4] [3, 6, 7, 8, 9, 10, 11] ?_
 refine aO [] [] 11 ?_
 let R2 : PgL := (⟨⟨bl f0, 1, [sp.2.1]⟩, ⟨bl g0, 2, [cur, ((Ch.length : Nat) : Int)]⟩, ⟨i0, j0, ([] : List Int)⟩⟩ : PgL)
 refine Lt 0 [] (([R2]).flatMap encPg) (λ l1 f1 i1 C0 => ?_)
 refine os 0 [] [4, 7, 8, 9, 10, 11, 12] ?_
 refine aO [] [] 12 ?_
 refine aF 0 [] 6 (C0.rd 0 rfl) (λ m1 x0 y0 j1 g1 => ?_) (hn := t4) (hb := t4)
 refine os 0 [] [4, 7, 8, 9, 10, 11, 12] ?_
 refine aO [13] [] 14 ?_
 refine Sb 0 [] 5 λ n1 D0 => ?_
 refine os 0 [] [4, 7, 8, 9, 10, 11, 12] ?_
 refine an [] [] ?_
 have T4 := Mem.gapp (k := ⟨bl f0, 1, [sp.2.1]⟩) (c := ⟨bl g0, 2, [cur, ((Ch.length : Nat) : Int)]⟩) (v := ⟨i0, j0, ([] : List Int)⟩) (D0.pk [4, 2, 3, 1, 0, 5, 6, 7, 8, 9, 10, 11, 12])
 have hR2 : (⟨rt, tsG (Ch2 ++ [R2])⟩ : TrT) = iV (⟨rt, tsG Ch2⟩ : TrT) (dP [sp.2.1] [cur, (Ch.length : Int)]) := by rw [gJ]; rfl
 have C6 := T4.rF 3 ((Ch2 ++ [R2]) : List PgL) (e := t2)
 exact ce3 0 [] (Ch2 ++ [R2]) x0 y0 [0, 2, 3, 4, 5, 6, 7, 8, 9] (h := by exact hR2)
 let S2 : PgL := (⟨⟨bl f0, 1, [sp.2.1]⟩, ⟨bl g0, 2, [cur, ((Ch.length : Nat) : Int)]⟩, ⟨i0, j0, ([] : List Int)⟩⟩ : PgL)
 refine Lt 0 [] (([S2]).flatMap encPg) (λ l1 f1 i1 C0 => ?_)
 refine os 0 [] [4, 7, 8, 9, 10, 11, 12] ?_
 refine aO [] [] 1 ?_
 refine os 1 [5] [4, 7, 8, 9, 10, 11, 12] ?_
 refine aO [] [] 12 ?_
 refine aF 0 [] 6 (C0.rd 0 rfl) (λ m1 x0 y0 j1 g1 => ?_) (hn := t4) (hb := t4)
 refine os 0 [] [4, 7, 8, 9, 10, 11, 12] ?_
 refine aO [13] [] 14 ?_
 refine Sb 0 [] 5 λ n1 D0 => ?_
 refine os 0 [] [4, 7, 8, 9, 10, 11, 12] ?_
 refine an [] [] ?_
 have U4 := Mem.gapp (k := ⟨bl f0, 1, [sp.2.1]⟩) (c := ⟨bl g0, 2, [cur, ((Ch.length : Nat) : Int)]⟩) (v := ⟨i0, j0, ([] : List Int)⟩) (D0.pk [4, 2, 3, 1, 0, 5, 6, 7, 8, 9, 10, 11, 12])
 have hR2 : (⟨rt, tsG (Ch2 ++ [S2])⟩ : TrT) = iV (⟨rt, tsG Ch2⟩ : TrT) (dP [sp.2.1] [cur, (Ch.length : Int)]) := by rw [gJ]; rfl
 have D6 := U4.rF 3 ((Ch2 ++ [S2]) : List PgL) (e := t2)
 exact ce3 0 [] (Ch2 ++ [S2]) x0 y0 [0, 2, 3, 4, 5, 6, 7, 8, 9] (h := by exact hR2)
 have B5 := hI
 have R6 := (E2.cap 2 rfl).1
 have W6 := (E2.cap 3 rfl).1
 have b7 := (E2.cap 4 rfl).1
 have g7 := (E2.cap 5 rfl).1
 have hR2 := B5
 have hle4 : Ch4.length = Ch.length + 2 := by have h9 := congrArg (λ z => z.pages.length) hR2; simp [iV] at h9; omega
 refine ov 5 [1] (a := eV) (b := ?_)
 refine Sb 1 [] 1 λ K7 i6 => ?_
 refine Sb 4 [1] 6 λ L7 U3 => ?_
 refine EG 2 [] ?_
 refine PG (vs := [.agg #[I (((Ch4.length : Nat) : Int) - 1), .slice A4 Ch4.length c4]]) (bX.cell (l := [I (((Ch4.length : Nat) : Int) - 1), .slice A4 Ch4.length c4]) rfl (cA (i := 6) (j := 0) U3 rfl rfl) kH rfl bX.nil) ?_
 have ha0 : a = 1 := by omega
 subst ha0
 have hgr := vF (R := (⟨rt, tsG Ch⟩ : TrT)) (P := (aY T.t x.key)) (by rw [show (1 : Nat) - 1 = 0 from rfl] at hcu; rw [<- hcu, hgc]; show ¬ (Ch[cur.toNat]'hjc).k.l.length <= 4; omega)
 rw [show (1 : Nat) - 1 = 0 from rfl] at hcu
 rw [<- hcu, hgc, <- hsp0, <- hR1] at hgr
 have hrs : (⟨(Ch.length : Int) + 1, tsG Ch4⟩ : TrT) = iO T.t x := by rw [<- h3, hgr]; have h9 := congrArg TrT.pages hR2; rw [show tsG Ch4 = _ from h9]; simp only [bC]; rfl
 exact ⟨((Ch.length : Int) + 1), Ch4, A4, c4, (by first | rfl | (refine congrArg Value.agg (congrArg List.toArray ?_); refine List.cons_eq_cons.2 ⟨I_congr t1, ?_⟩; first | rfl | simp)), hrs, (U3.pk [2, 0])⟩
 have ha2 : 2 <= a := by omega
 have hab := hG.above hP ha2 (q := sp.1) (r := sp.2.2)
 obtain ⟨up9, hup⟩ : ∃ z, z = (aY T.t x.key).getD (a - 2) 0 := ⟨_, rfl⟩
 rw [<- hcu, <- hup, <- hR1] at hab
 have hin2 := tC hP ha2 ha1.2
 rw [<- hcu, <- hup] at hin2
 have hui := aX.1 (hG.curIn hP (k := a - 2) t1)
 refine go 2 [] ?_
 simp only [bC] at hui
 rw [<- hup] at hui
 have hju : up9.toNat < Ch2.length := by omega
 have hgu9 : gP (⟨rt, tsG Ch2⟩ : TrT) up9 = (Ch2[up9.toNat]'hju).t := jW hju
 rw [hgu9] at hab
 rw [<- hab] at hin2
 obtain ⟨hin3, hin4, hin5, hin6⟩ := hin2
 have hin4 : (Ch2[up9.toNat]'hju).c.l.length = (Ch2[up9.toNat]'hju).k.l.length + 1 := hin4
 have hin5 : (Ch2[up9.toNat]'hju).k.l.length <= 4 := hin5
 have hpk := uD (l := (Ch2[up9.toNat]'hju).c.l) (n := cur) (m := (Ch2[up9.toNat]'hju).k.l.length) hin3 hin4
 refine ov 3 [] (a := eV) (b := ?_)
 have g4 : (a - 1 - 1) < (aY T.t x.key).length := t1
 refine ov 0 [] (a := cG g4 (T1.rd 5 rfl) (h0 := t1)) (b := ?_)
 refine ov 0 [] (s := Vi up9) (a := by exact cv (Ru.congr (Ru.load1 el3 rfl (ldm (T1.rd 5 rfl) g4)) (I_congr (by rw [hup, show a - 2 = a - 1 - 1 by omega, bF (show a - 1 - 1 < (aY T.t x.key).length by omega)]))) rfl) (b := ?_)
 refine ct3 2 [] (λ (Ch5 : List PgL) (A5 : Option Addr) (c5 : Nat) => ([] : List (Nat × SV))) (λ Ch5 A5 c5 => ((⟨rt, tsG Ch5⟩ : TrT) = cF (⟨rt, tsG Ch2⟩ : TrT) up9 (kN (gP T.t up9) (dE (gP T.t up9).kids cur) sp.2.1 (Ch.length : Int)))) (λ Ch5 A5 c5 => [Ch5.flatMap (pgF 3), [⟨.slice (bl v2) 1 1, 25, 2, 1, [I rt, .slice A5 Ch5.length c5]⟩], oG A5 c5 Ch5]) [4, 5, 6, 7] [3, 4, 5, 6, 7, 8] ?_ (λ Ch5 A5 c5 σ Y7 hI F2 => ?_)
 have hgu23 := T1.gcap 0 rfl hju
 refine any 0 [] 26 [0, 1, 3, 4, 5, 6, 7, 8] λ x3 V0 => ?_
 have b0 : up9.toNat < Ch2.length := hju
 refine av [0, 1, 2, 3, 4, 5] [1, 1] 6 (a := by exact λ _ hw2 => cJ b0 (V0.rd 2 rfl) (h0 := t1)) (b := ?_)
 have d0 : up9.toNat < Ch2.length := hju
 refine av [9, 10, 11] [1] 12 (a := by exact λ _ hw2 => cJ d0 (V0.rd 2 rfl) (h0 := t1)) (b := ?_)
 refine av [] [] 13 (a := by exact λ _ hw2 => fZ d0 (V0.rd 2 rfl)) (b := ?_)
 have p3 : (a - 1) < (aY T.t x.key).length := t1
 refine av [15, 16] [] 17 (a := by exact λ _ hw2 => cG p3 (V0.rd 5 rfl) (h0 := t1)) (b := ?_)
 refine av [] [] 18 (s := Vi cur) (a := by exact λ w2 hw2 => cv (Ru.congr (Ru.load1 el3 rfl (ldm (hw2.rd 4 rfl) p3)) (I_congr ((bF p3).symm.trans hcu.symm))) rfl) (b := ?_)
 refine aT [20, 21] [] 7 14 ?_ ?_
 refine ov 0 [] (a := gL b0 (V0.rd 2 rfl)) (b := ?_)
 refine os 0 [] [0, 1, 3, 4, 5, 6, 7, 8] ?_
 refine aT [] [] 8 14 ?_ ?_
 refine cp 0 [] (b := fO (Ch2[up9.toNat]'b0) x3 ((NsP.mem V0 0 rfl).get b0)) (c := λ s2 h1 => ?_)
 refine os 0 [] [0, 1, 3, 4, 5, 6, 7, 8] ?_
 refine aO [] [] 14 ?_
 refine ov 0 [] (a := gF d0 (h1.rd 2 rfl)) (b := ?_)
 refine os 0 [] [0, 1, 3, 4, 5, 6, 7, 8] ?_
 refine aO [] [] 19 ?_
 refine cq 0 [] (b := nJ (Ch2[up9.toNat]'d0).c.A (Ch2[up9.toNat]'d0).c.cp (Ch2[up9.toNat]'d0).c.l _ s2 ((NsP.mem h1 0 rfl).get d0).2.1 qo) (c := ?_)
 rintro _ q2 ⟨rfl, n2⟩
 have U0 := h1.cl 0 n2
 refine os 0 [] [0, 1, 3, 4, 5, 6, 7, 8] ?_
 refine aO [] [] 22 ?_
 refine cq 0 [] (b := uX (Ch2[up9.toNat]'b0).k.A (Ch2[up9.toNat]'b0).k.cp (Ch2[up9.toNat]'b0).k.l (Ch2[up9.toNat]'b0).c.A (Ch2[up9.toNat]'b0).c.cp (Ch2[up9.toNat]'b0).c.l _ _ _ q2 ((NsP.mem U0 0 rfl).get b0).1 ((NsP.mem U0 0 rfl).get b0).2.1 (by exact ⟨hgu23.1, hgu23.2.1⟩) (by exact hpk) qo (by exact hin4)) (c := ?_)
 rintro _ r2 ⟨P0, S0, R0, T0, rfl, o2⟩
 have E0 := U0.cl 0 o2
 have a4 := (E0.cap 0 rfl).1
 have b4 := (E0.cap 1 rfl).1
 refine os 0 [] [2, 3, 5, 6, 7, 8, 9, 10] ?_
 refine aO [] [] 23 ?_
 refine cq 0 [] (b := eD P0 S0 ((Ch2[up9.toNat]'b0).k.l.take (dE (Ch2[up9.toNat]'d0).c.l cur).toNat ++ [sp.2.1] ++ (Ch2[up9.toNat]'b0).k.l.drop (dE (Ch2[up9.toNat]'d0).c.l cur).toNat) R0 T0 ((Ch2[up9.toNat]'b0).c.l.take ((dE (Ch2[up9.toNat]'d0).c.l cur).toNat + 1) ++ [((Ch.length : Nat) : Int)] ++ (Ch2[up9.toNat]'b0).c.l.drop ((dE (Ch2[up9.toNat]'d0).c.l cur).toNat + 1)) r2 (E0.rd 0 rfl) (E0.rd 1 rfl)) (c := ?_)
 rintro _ q4 ⟨o1, v1, rfl, p2⟩
 have x1 := E0.cl 0 p2
 have d4 := (x1.cap 0 rfl).1
 refine os 0 [] [3, 4, 6, 7, 8, 9, 10, 11] ?_
 have C1 : up9.toNat < Ch2.length := hju
 refine av [] [] 24 (a := by exact λ _ hw2 => cJ C1 (x1.rd 5 rfl) (h0 := t1)) (b := ?_)
 refine aO [] [] 25 ?_
 let Y1 : PgL := (⟨⟨P0, S0, (Ch2[up9.toNat]'b0).k.l.take (dE (Ch2[up9.toNat]'d0).c.l cur).toNat ++ [sp.2.1] ++ (Ch2[up9.toNat]'b0).k.l.drop (dE (Ch2[up9.toNat]'d0).c.l cur).toNat⟩, ⟨R0, T0, (Ch2[up9.toNat]'b0).c.l.take ((dE (Ch2[up9.toNat]'d0).c.l cur).toNat + 1) ++ [((Ch.length : Nat) : Int)] ++ (Ch2[up9.toNat]'b0).c.l.drop ((dE (Ch2[up9.toNat]'d0).c.l cur).toNat + 1)⟩, ⟨o1, v1, ([] : List Int)⟩⟩ : PgL)
 refine sF 0 [] 5 Y1 C1 λ r4 l2 => ?_
 refine os 0 [] [3, 4, 6, 7, 8, 9, 10, 11] ?_
 refine an [] [] ?_
 have V4 := Mem.gset (k := ⟨P0, S0, (Ch2[up9.toNat]'b0).k.l.take (dE (Ch2[up9.toNat]'d0).c.l cur).toNat ++ [sp.2.1] ++ (Ch2[up9.toNat]'b0).k.l.drop (dE (Ch2[up9.toNat]'d0).c.l cur).toNat⟩) (c := ⟨R0, T0, (Ch2[up9.toNat]'b0).c.l.take ((dE (Ch2[up9.toNat]'d0).c.l cur).toNat + 1) ++ [((Ch.length : Nat) : Int)] ++ (Ch2[up9.toNat]'b0).c.l.drop ((dE (Ch2[up9.toNat]'d0).c.l cur).toNat + 1)⟩) (v := ⟨o1, v1, ([] : List Int)⟩) up9.toNat (l2.pk [3, 1, 2, 0, 4, 5, 6, 7, 8, 9, 10, 11])
 have hR3 : (⟨rt, tsG (Ch2.set up9.toNat Y1)⟩ : TrT) = cF (⟨rt, tsG Ch2⟩ : TrT) up9 (kN (gP T.t up9) (dE (gP T.t up9).kids cur) sp.2.1 (Ch.length : Int)) := by rw [cV, <- hab]; rfl
 have f5 := V4.rF 2 (Ch2.set up9.toNat Y1 : List PgL) (e := rfl)
 have g5 := f5.reB 1 1 (show Ch2.length = (Ch2.set up9.toNat Y1).length from t2)
 have E6 := g5.rF 2 ((Ch2.set up9.toNat Y1) : List PgL) (e := t2)
 exact ce3 0 [] (Ch2.set up9.toNat Y1) A2 c2 [0, 1, 2, 3, 4, 5, 6, 7, 8] (h := by exact hR3)
 refine ov 0 [] (a := gF d0 (V0.rd 2 rfl)) (b := ?_)
 refine os 0 [] [0, 1, 3, 4, 5, 6, 7, 8] ?_
 refine aO [] [] 8 ?_
 refine cp 0 [] (b := fO (Ch2[up9.toNat]'b0) x3 ((NsP.mem V0 0 rfl).get b0)) (c := λ s2 h1 => ?_)
 refine os 0 [] [0, 1, 3, 4, 5, 6, 7, 8] ?_
 refine aO [] [] 19 ?_
 refine cq 0 [] (b := nJ (Ch2[up9.toNat]'d0).c.A (Ch2[up9.toNat]'d0).c.cp (Ch2[up9.toNat]'d0).c.l _ s2 ((NsP.mem h1 0 rfl).get d0).2.1 qo) (c := ?_)
 rintro _ q2 ⟨rfl, n2⟩
 have U0 := h1.cl 0 n2
 refine os 0 [] [0, 1, 3, 4, 5, 6, 7, 8] ?_
 refine aO [] [] 22 ?_
 refine cq 0 [] (b := uX (Ch2[up9.toNat]'b0).k.A (Ch2[up9.toNat]'b0).k.cp (Ch2[up9.toNat]'b0).k.l (Ch2[up9.toNat]'b0).c.A (Ch2[up9.toNat]'b0).c.cp (Ch2[up9.toNat]'b0).c.l _ _ _ q2 ((NsP.mem U0 0 rfl).get b0).1 ((NsP.mem U0 0 rfl).get b0).2.1 (by exact ⟨hgu23.1, hgu23.2.1⟩) (by exact hpk) qo (by exact hin4)) (c := ?_)
 rintro _ r2 ⟨P0, S0, R0, T0, rfl, o2⟩
 have E0 := U0.cl 0 o2
 have a4 := (E0.cap 0 rfl).1
 have b4 := (E0.cap 1 rfl).1
 refine os 0 [] [2, 3, 5, 6, 7, 8, 9, 10] ?_
 refine aO [] [] 23 ?_
 refine cq 0 [] (b := eD P0 S0 ((Ch2[up9.toNat]'b0).k.l.take (dE (Ch2[up9.toNat]'d0).c.l cur).toNat ++ [sp.2.1] ++ (Ch2[up9.toNat]'b0).k.l.drop (dE (Ch2[up9.toNat]'d0).c.l cur).toNat) R0 T0 ((Ch2[up9.toNat]'b0).c.l.take ((dE (Ch2[up9.toNat]'d0).c.l cur).toNat + 1) ++ [((Ch.length : Nat) : Int)] ++ (Ch2[up9.toNat]'b0).c.l.drop ((dE (Ch2[up9.toNat]'d0).c.l cur).toNat + 1)) r2 (E0.rd 0 rfl) (E0.rd 1 rfl)) (c := ?_)
 rintro _ q4 ⟨o1, v1, rfl, p2⟩
 have x1 := E0.cl 0 p2
 have d4 := (x1.cap 0 rfl).1
 refine os 0 [] [3, 4, 6, 7, 8, 9, 10, 11] ?_
 have C1 : up9.toNat < Ch2.length := hju
 refine av [] [] 24 (a := by exact λ _ hw2 => cJ C1 (x1.rd 5 rfl) (h0 := t1)) (b := ?_)
 refine aO [] [] 25 ?_
 let Z1 : PgL := (⟨⟨P0, S0, (Ch2[up9.toNat]'b0).k.l.take (dE (Ch2[up9.toNat]'d0).c.l cur).toNat ++ [sp.2.1] ++ (Ch2[up9.toNat]'b0).k.l.drop (dE (Ch2[up9.toNat]'d0).c.l cur).toNat⟩, ⟨R0, T0, (Ch2[up9.toNat]'b0).c.l.take ((dE (Ch2[up9.toNat]'d0).c.l cur).toNat + 1) ++ [((Ch.length : Nat) : Int)] ++ (Ch2[up9.toNat]'b0).c.l.drop ((dE (Ch2[up9.toNat]'d0).c.l cur).toNat + 1)⟩, ⟨o1, v1, ([] : List Int)⟩⟩ : PgL)
 refine sF 0 [] 5 Z1 C1 λ r4 l2 => ?_
 refine os 0 [] [3, 4, 6, 7, 8, 9, 10, 11] ?_
 refine an [] [] ?_
 have W4 := Mem.gset (k := ⟨P0, S0, (Ch2[up9.toNat]'b0).k.l.take (dE (Ch2[up9.toNat]'d0).c.l cur).toNat ++ [sp.2.1] ++ (Ch2[up9.toNat]'b0).k.l.drop (dE (Ch2[up9.toNat]'d0).c.l cur).toNat⟩) (c := ⟨R0, T0, (Ch2[up9.toNat]'b0).c.l.take ((dE (Ch2[up9.toNat]'d0).c.l cur).toNat + 1) ++ [((Ch.length : Nat) : Int)] ++ (Ch2[up9.toNat]'b0).c.l.drop ((dE (Ch2[up9.toNat]'d0).c.l cur).toNat + 1)⟩) (v := ⟨o1, v1, ([] : List Int)⟩) up9.toNat (l2.pk [3, 1, 2, 0, 4, 5, 6, 7, 8, 9, 10, 11])
 have hR3 : (⟨rt, tsG (Ch2.set up9.toNat Z1)⟩ : TrT) = cF (⟨rt, tsG Ch2⟩ : TrT) up9 (kN (gP T.t up9) (dE (gP T.t up9).kids cur) sp.2.1 (Ch.length : Int)) := by rw [cV, <- hab]; rfl
 have h5 := W4.rF 2 (Ch2.set up9.toNat Z1 : List PgL) (e := rfl)
 have i5 := h5.reB 1 1 (show Ch2.length = (Ch2.set up9.toNat Z1).length from t2)
 have F6 := i5.rF 2 ((Ch2.set up9.toNat Z1) : List PgL) (e := t2)
 exact ce3 0 [] (Ch2.set up9.toNat Z1) A2 c2 [0, 1, 2, 3, 4, 5, 6, 7, 8] (h := by exact hR3)
 refine ov 0 [] (a := gF d0 (V0.rd 2 rfl)) (b := ?_)
 refine os 0 [] [0, 1, 3, 4, 5, 6, 7, 8] ?_
 refine aO [] [] 7 ?_
 refine ov 0 [] (a := gL b0 (V0.rd 2 rfl)) (b := ?_)
 refine os 0 [] [0, 1, 3, 4, 5, 6, 7, 8] ?_
 refine aO [] [] 8 ?_
 refine cp 0 [] (b := fO (Ch2[up9.toNat]'b0) x3 ((NsP.mem V0 0 rfl).get b0)) (c := λ s2 h1 => ?_)
 refine os 0 [] [0, 1, 3, 4, 5, 6, 7, 8] ?_
 refine aO [] [] 19 ?_
 refine cq 0 [] (b := nJ (Ch2[up9.toNat]'d0).c.A (Ch2[up9.toNat]'d0).c.cp (Ch2[up9.toNat]'d0).c.l _ s2 ((NsP.mem h1 0 rfl).get d0).2.1 qo) (c := ?_)
 rintro _ q2 ⟨rfl, n2⟩
 have U0 := h1.cl 0 n2
 refine os 0 [] [0, 1, 3, 4, 5, 6, 7, 8] ?_
 refine aO [] [] 22 ?_
 refine cq 0 [] (b := uX (Ch2[up9.toNat]'b0).k.A (Ch2[up9.toNat]'b0).k.cp (Ch2[up9.toNat]'b0).k.l (Ch2[up9.toNat]'b0).c.A (Ch2[up9.toNat]'b0).c.cp (Ch2[up9.toNat]'b0).c.l _ _ _ q2 ((NsP.mem U0 0 rfl).get b0).1 ((NsP.mem U0 0 rfl).get b0).2.1 (by exact ⟨hgu23.1, hgu23.2.1⟩) (by exact hpk) qo (by exact hin4)) (c := ?_)
 rintro _ r2 ⟨P0, S0, R0, T0, rfl, o2⟩
 have E0 := U0.cl 0 o2
 have a4 := (E0.cap 0 rfl).1
 have b4 := (E0.cap 1 rfl).1
 refine os 0 [] [2, 3, 5, 6, 7, 8, 9, 10] ?_
 refine aO [] [] 23 ?_
 refine cq 0 [] (b := eD P0 S0 ((Ch2[up9.toNat]'b0).k.l.take (dE (Ch2[up9.toNat]'d0).c.l cur).toNat ++ [sp.2.1] ++ (Ch2[up9.toNat]'b0).k.l.drop (dE (Ch2[up9.toNat]'d0).c.l cur).toNat) R0 T0 ((Ch2[up9.toNat]'b0).c.l.take ((dE (Ch2[up9.toNat]'d0).c.l cur).toNat + 1) ++ [((Ch.length : Nat) : Int)] ++ (Ch2[up9.toNat]'b0).c.l.drop ((dE (Ch2[up9.toNat]'d0).c.l cur).toNat + 1)) r2 (E0.rd 0 rfl) (E0.rd 1 rfl)) (c := ?_)
 rintro _ q4 ⟨o1, v1, rfl, p2⟩
 have x1 := E0.cl 0 p2
 have d4 := (x1.cap 0 rfl).1
 refine os 0 [] [3, 4, 6, 7, 8, 9, 10, 11] ?_
 have C1 : up9.toNat < Ch2.length := hju
 refine av [] [] 24 (a := by exact λ _ hw2 => cJ C1 (x1.rd 5 rfl) (h0 := t1)) (b := ?_)
 refine aO [] [] 25 ?_
 let a2 : PgL := (⟨⟨P0, S0, (Ch2[up9.toNat]'b0).k.l.take (dE (Ch2[up9.toNat]'d0).c.l cur).toNat ++ [sp.2.1] ++ (Ch2[up9.toNat]'b0).k.l.drop (dE (Ch2[up9.toNat]'d0).c.l cur).toNat⟩, ⟨R0, T0, (Ch2[up9.toNat]'b0).c.l.take ((dE (Ch2[up9.toNat]'d0).c.l cur).toNat + 1) ++ [((Ch.length : Nat) : Int)] ++ (Ch2[up9.toNat]'b0).c.l.drop ((dE (Ch2[up9.toNat]'d0).c.l cur).toNat + 1)⟩, ⟨o1, v1, ([] : List Int)⟩⟩ : PgL)
 refine sF 0 [] 5 a2 C1 λ r4 l2 => ?_
 refine os 0 [] [3, 4, 6, 7, 8, 9, 10, 11] ?_
 refine an [] [] ?_
 have Y4 := Mem.gset (k := ⟨P0, S0, (Ch2[up9.toNat]'b0).k.l.take (dE (Ch2[up9.toNat]'d0).c.l cur).toNat ++ [sp.2.1] ++ (Ch2[up9.toNat]'b0).k.l.drop (dE (Ch2[up9.toNat]'d0).c.l cur).toNat⟩) (c := ⟨R0, T0, (Ch2[up9.toNat]'b0).c.l.take ((dE (Ch2[up9.toNat]'d0).c.l cur).toNat + 1) ++ [((Ch.length : Nat) : Int)] ++ (Ch2[up9.toNat]'b0).c.l.drop ((dE (Ch2[up9.toNat]'d0).c.l cur).toNat + 1)⟩) (v := ⟨o1, v1, ([] : List Int)⟩) up9.toNat (l2.pk [3, 1, 2, 0, 4, 5, 6, 7, 8, 9, 10, 11])
 have hR3 : (⟨rt, tsG (Ch2.set up9.toNat a2)⟩ : TrT) = cF (⟨rt, tsG Ch2⟩ : TrT) up9 (kN (gP T.t up9) (dE (gP T.t up9).kids cur) sp.2.1 (Ch.length : Int)) := by rw [cV, <- hab]; rfl
 have j5 := Y4.rF 2 (Ch2.set up9.toNat a2 : List PgL) (e := rfl)
 have k5 := j5.reB 1 1 (show Ch2.length = (Ch2.set up9.toNat a2).length from t2)
 have G6 := k5.rF 2 ((Ch2.set up9.toNat a2) : List PgL) (e := t2)
 exact ce3 0 [] (Ch2.set up9.toNat a2) A2 c2 [0, 1, 2, 3, 4, 5, 6, 7, 8] (h := by exact hR3)
 have C5 := hI
 have S6 := (F2.cap 2 rfl).1
 have X6 := (F2.cap 3 rfl).1
 have c7 := (F2.cap 4 rfl).1
 have h7 := (F2.cap 5 rfl).1
 have hR3 := C5
 have hGn := hG.next hP ha2 (q := (kN (gP T.t up9) (dE (gP T.t up9).kids cur) sp.2.1 (Ch.length : Int))) (by rw [<- hup, <- hcu, hgc, <- hsp0]; simp)
 have hgu := aCd ha2 hG hP (by rw [<- hcu, hgc]; show ¬ (Ch[cur.toNat]'hjc).k.l.length <= 4; omega) (q := (kN (gP T.t up9) (dE (gP T.t up9).kids cur) sp.2.1 (Ch.length : Int))) (by rw [<- hup, <- hcu, hgc, <- hsp0]; simp)
 rw [<- hcu, <- hup, hgc, <- hsp0, <- hR1, <- hR3] at hGn hgu
 refine ov 2 [] (a := eV) (b := ?_)
 exact le5 2 [] (a - 1) rt Ch5 A5 c5 [0, 1, 2, 3, 4, 5, 6, 7, 8] (hm := (by (try dsimp only); have := hG.a1; omega)) (h := by exact ⟨hGn, (by (try dsimp only); rw [<- hgu]; exact h3)⟩)
 refine Sb 4 [1] 6 λ M7 V3 => ?_
 refine EG 2 [] ?_
 refine PG (vs := [.agg #[I rt, .slice A2 Ch.length c2]]) (bX.cell (l := [I rt, .slice A2 Ch.length c2]) rfl (cA (i := 6) (j := 0) V3 rfl rfl) kH rfl bX.nil) ?_
 have hgs := vG (R := (⟨rt, tsG Ch⟩ : TrT)) (P := (aY T.t x.key)) (a := a) t1 (by rw [<- hcu, hgc]; show (Ch[cur.toNat]'hjc).k.l.length <= 4; omega)
 exact ⟨rt, Ch, A2, c2, (by first | rfl | exact sl_congr t8 | (simp; done)), (by rw [<- h3, hgs]), (V3.pk [2, 0])⟩
 exfalso; omega
end Go.Proofs.YtemejgglbhjodaaGreatDoor
namespace Go.Proofs.YtemejgglbhjodaaGreatDoor
open Go.Px
set_option maxHeartbeats 2000000 in
theorem aIb (T : bN) (x : PairT) (w : World) (hNT : TrN w T) (hs : SzT T) :
  aR Tryz.prog 41 [.agg #[I T.root, .slice T.A T.l.length T.cp], .agg #[I x.key, I x.val]] w (λ v w1 => ∃ (r1 : Int) (L1 : List PgL) (A1 : Option Addr) (c1 : Nat), v = .tuple #[.agg #[I r1, .slice A1 L1.length c1], .bool (aN T.t && bW [x] && aN (iO T.t x))] /\ ((aN T.t && bW [x] && aN (iO T.t x)) = true -> (⟨r1, tsG L1⟩ : TrT) = iO T.t x) /\ (SzT ⟨r1, A1, c1, L1⟩) /\ (L1.length <= 64) /\ Mem w w1 [] [oG A1 c1 L1, L1.flatMap (pgF 3)]) := by
 have hM : Mem w w [] [] := Mem.refl
 refine aR.nG (rs := [.cell 4 25, .tmp 5]) Tryz.func41 rfl Tryz.results41 Tryz.ntmps41 rfl ?_
 refine Bx 2 [] λ b1 P0 V0 S0 => ?_
 refine Bx 0 [] λ d1 Q0 W0 T0 => ?_
 refine Al 0 [] λ K0 R0 X0 w0 => ?_
 refine cp 6 [2] (b := jM T K0 (hNT.at w0) q0) (c := λ e1 U0 => ?_)
 refine pt 2 [] 9 (λ g9 => ?_) (λ g9 => ?_)
 have hn1 : aN T.t = false := by simpa using g9
 refine Sb 17 [] 0 λ v0 a0 => ?_
 have r0 := Mem.gnil (e := 3) a0
 refine EG 3 [] ?_
 refine PG (vs := [.agg #[I 0, .slice none 0 0], .bool false]) (bX.cell (l := [I 0, .slice none 0 0]) rfl (cA (i := 1) (j := 0) r0 rfl rfl) kH rfl (bX.tmp rfl bX.nil)) ?_
 have hpf : (aN T.t && bW [x] && aN (iO T.t x)) = false := by first | (rw [hn1]; rfl) | (rw [hn2, cX]; rfl) | (rw [hn3, cX])
 have A0 := Mem.addNil (e := 42) (sz := 3) r0
 have I0 : ([] : List PgL) = ([] : List PgL) := t2
 have B0 := A0.reF 0 I0 (f := encPg)
 exact ⟨0, ([] : List PgL), none, 0, (by rw [hpf]; rfl), (λ hb => absurd hb (by rw [hpf]; simp)), (fF t11 t11), t11, (B0.pk [0, 1])⟩
 have hv1 : aN T.t = true := by simpa using g9
 refine Lt 1 [1] (([x]).flatMap cY) (λ N0 l0 Y0 n0 => ?_)
 refine cq 0 [] (vs := [.slice (bl l0) ([x]).length 1]) (hvs := (by first | rfl | (rw [show ([x]).length = 1 from t6]; rfl))) (b := oA (bl l0) 1 [x] N0 (n0.rd 0 rfl) q0) (c := ?_)
 rintro _ O0 ⟨rfl, F0⟩
 have o0 := n0.cl 0 F0
 refine pt 3 [] 15 (λ g15 => ?_) (λ g15 => ?_)
 have hn2 : bW [x] = false := by simpa using g15
 refine Sb 11 [] 1 λ v0 a0 => ?_
 have s0 := Mem.gnil (e := 3) a0
 refine EG 3 [] ?_
 refine PG (vs := [.agg #[I 0, .slice none 0 0], .bool false]) (bX.cell (l := [I 0, .slice none 0 0]) rfl (cA (i := 2) (j := 0) s0 rfl rfl) kH rfl (bX.tmp rfl bX.nil)) ?_
 have hpf : (aN T.t && bW [x] && aN (iO T.t x)) = false := by first | (rw [hn1]; rfl) | (rw [hn2, cX]; rfl) | (rw [hn3, cX])
 have C0 := Mem.addNil (e := 42) (sz := 3) s0
 have J0 : ([] : List PgL) = ([] : List PgL) := t2
 have D0 := C0.reF 0 J0 (f := encPg)
 exact ⟨0, ([] : List PgL), none, 0, (by rw [hpf]; rfl), (λ hb => absurd hb (by rw [hpf]; simp)), (fF t11 t11), t11, (D0.pk [0, 1])⟩
 have hv2 : bW [x] = true := by simpa using g15
 refine cq 2 [3, 2] (b := yY T x O0 (hNT.at o0) q0 (by exact hv1) (by exact hv2)) (c := ?_)
 rintro _ L0 ⟨j0, f0, b0, d0, rfl, i0, E0⟩
 have h0 := o0.cl 0 E0
 have Z0 := (h0.cap 0 rfl).1
 have hsz1 := aCw (A := b0) (c := d0) hv1 hv2 i0
 refine cp 0 [] (b := jM (⟨j0, b0, d0, f0⟩ : bN) L0 ⟨(h0.rd 0 rfl), (NsP.mem h0 1 rfl)⟩ (by exact hsz1.1)) (c := λ M0 m0 => ?_)
 refine cn 3 [] (λ c21 => ?_) (λ c21 => ?_)
 have hn3 : aN (iO T.t x) = false := by first | (exfalso; simp_all; done) | (rw [<- i0]; exact (show aN (bN.t ⟨j0, b0, d0, f0⟩) = false from (by simpa using c21)))
 refine Sb 3 [] 3 λ v0 a0 => ?_
 have t0 := Mem.gnil (e := 3) a0
 refine EG 3 [] ?_
 refine PG (vs := [.agg #[I 0, .slice none 0 0], .bool false]) (bX.cell (l := [I 0, .slice none 0 0]) rfl (cA (i := 4) (j := 0) t0 rfl rfl) kH rfl (bX.tmp rfl bX.nil)) ?_
 have hpf : (aN T.t && bW [x] && aN (iO T.t x)) = false := by first | (rw [hn1]; rfl) | (rw [hn2, cX]; rfl) | (rw [hn3, cX])
 have y0 := Mem.addNil (e := 42) (sz := 3) t0
 have H0 : ([] : List PgL) = ([] : List PgL) := t2
 have z0 := y0.reF 0 H0 (f := encPg)
 exact ⟨0, ([] : List PgL), none, 0, (by rw [hpf]; rfl), (λ hb => absurd hb (by rw [hpf]; simp)), (fF t11 t11), t11, (z0.pk [0, 1])⟩
 have hv3 : aN (iO T.t x) = true := by rw [<- i0]; exact (show aN (bN.t ⟨j0, b0, d0, f0⟩) = true from (by simpa using c21))
 refine cq 5 [5, 4] (b := yY T x M0 (hNT.at m0) q0 (by exact hv1) (by exact hv2)) (c := ?_)
 rintro _ f1 ⟨k0, g0, c0, e0, rfl, u0, G0⟩
 have x0 := m0.cl 0 G0
 have a1 := (x0.cap 0 rfl).1
 refine Sb 0 [] 5 λ g1 p0 => ?_
 refine EG 3 [] ?_
 refine PG (vs := [.agg #[I k0, .slice c0 g0.length e0], .bool true]) (bX.cell (l := [I k0, .slice c0 g0.length e0]) rfl (cA (i := 5) (j := 0) p0 rfl rfl) kH rfl (bX.tmp rfl bX.nil)) ?_
 have hpf : (aN T.t && bW [x] && aN (iO T.t x)) = true := by rw [hv1, hv2, hv3]; rfl
 have hsz3 := aCw (A := c0) (c := e0) hv1 hv2 u0
 exact ⟨k0, g0, c0, e0, (by rw [hpf]; rfl), (λ _ => u0), hsz3.1, (by have := hsz3.2; omega), (p0.pk [0, 1])⟩
theorem aCx (A : Option Addr) (c : Nat) (l : List PairT) (k : Int) (w : World) (hA : Rd w A (l.flatMap cY)) (hl : l.length <= 1048576) (hcp : l.length <= c) (hv : bW l = true) :
  aR Tryz.prog 200 [.slice A l.length c, I k] w (λ v w1 => ∃ (A1 : Option Addr) (c1 : Nat), v = .tuple #[.slice A1 (eY l k).length c1, .bool (cT l k)] /\ Mem w w1 [] [oP A1 c1 (eY l k)]) := by
 have hM : Mem w w [] [] := Mem.refl
 refine aR.n2 Tryz.func200 rfl Tryz.results200 Tryz.ntmps200 rfl ?_
 have hpl := yW l k
 have hbe : fG (bG l) k = plc l k := rfl
 have h24 := (eM.1 hv).1
 have hasc := pQ hv
 refine cp 9 [] (b := oA _ _ _ w (hA.at hM) q0) (c := λ r0 d0 => ?_)
 refine pt 2 [] 10 (λ g10 => ?_) (λ g10 => ?_)
 (exfalso; simp [hv] at g10)
 refine cq 1 [] (b := kB _ _ _ r0 (hA.at d0) q0) (c := ?_)
 rintro _ s0 ⟨w0, z0, rfl, m0⟩
 have e0 := d0.cl 0 m0
 have E0 := (e0.cap 0 rfl).1
 refine cp 1 [] (b := wQ _ _ _ _ s0 (e0.rd 0 rfl) q0) (c := λ t0 a0 => ?_)
 refine cn 3 [] (λ c16 => ?_) (λ c16 => ?_)
 have hin : cT l k = false := by simpa [cT] using c16
 refine E2 6 [] (.slice none 0 0) (.bool false) ?_
 have j0 := Mem.addNil (e := 27) (sz := 2) a0
 have p0 : ([] : List PairT) = eY l k := (by rw [tH hin])
 have k0 := j0.reF 0 p0 (f := cY)
 exact ⟨none, 0, (by rw [tH hin, hin]; rfl), (k0.pk [0])⟩
 have hin : cT l k = true := by simpa [cT] using c16
 obtain ⟨hpb, _⟩ := (mE hasc).1 hin
 refine cq 4 [] (b := kB _ _ _ t0 (hA.at a0) q0) (c := ?_)
 rintro _ u0 ⟨x0, A0, rfl, n0⟩
 have f0 := a0.cl 0 n0
 have F0 := (f0.cap 0 rfl).1
 refine cp 1 [] (b := vN _ _ _ _ u0 (f0.rd 0 rfl) q0) (c := λ H0 C0 => ?_)
 refine any 3 [] 11 [0, 1] λ v0 h0 => ?_
 refine av [0, 1] [] 2 (s := Vl A (l.take (fG (bG l) k)).length c) (a := by exact λ w2 hw2 => cv (Ru.congr (Ru.lsliceTo (h := fG (bG l) k) Tryz.underlying43 jA rfl rfl t1 t1) (sl_congr t6)) rfl) (b := ?_)
 refine av [4, 5] [] 6 (a := by exact λ _ hw2 => bL (fG (bG l) k + 1)) (b := ?_)
 refine av [] [] 7 (s := Vl (if c = (fG (bG l) k + 1) then A else ofs A ((fG (bG l) k + 1) * 2)) (l.drop (fG (bG l) k + 1)).length (c - (fG (bG l) k + 1))) (a := by exact λ w2 hw2 => cv (Ru.congr (Ru.lsliceFrom (l := (fG (bG l) k + 1)) Tryz.underlying43 jA rfl rfl t1 t1) (sl_congr t6)) rfl) (b := ?_)
 refine aO [] [] 3 ?_
 refine cq 0 [] (b := mM _ _ _ v0 (nK dI (hA.at h0)) q0) (c := ?_)
 rintro _ I0 ⟨y0, B0, rfl, o0⟩
 have g0 := h0.cl 0 o0
 have G0 := (g0.cap 0 rfl).1
 refine os 0 [] [1, 2] ?_
 refine aO [] [] 8 ?_
 refine aF 0 [] 0 (kY (k := (fG (bG l) k + 1)) (c := c) dI (hA.at g0) q2 q2) (λ J0 b0 c0 D0 i0 => ?_) (hn := t16) (hb := t16)
 refine os 0 [] [1, 2] ?_
 refine an [9, 10] [] ?_
 refine E2 1 [] (.slice b0 ((l.take (fG (bG l) k)) ++ l.drop (fG (bG l) k + 1)).length c0) (.bool true) ?_
 have l0 := i0.rF 0 (eY l k : List PairT) (e := by rw [xV hin]; rfl)
 exact ⟨b0, c0, (by rw [xV hin, hin]; rfl), (l0.pk [0])⟩
set_option maxHeartbeats 2000000 in
theorem aAh (KA : Option Addr) (kc : Nat) (kl : List Int) (CA : Option Addr) (cc : Nat) (cl : List Int) (pl : Int) (w : World) (hRK : Rd w KA (kl.map I)) (hRC : Rd w CA (cl.map I)) (hcp : kl.length <= kc /\ cl.length <= cc) (h0 : 1 <= pl /\ pl <= (kl.length : Int)) (h1 : kl.length <= 1000) (h2 : cl.length = kl.length + 1) :
  aR Tryz.prog 218 [.agg #[.slice KA kl.length kc, .slice CA cl.length cc], I pl] w (λ v w1 => ∃ (A1 : Option Addr) (c1 : Nat) (A2 : Option Addr) (c2 : Nat), v = .agg #[.slice A1 (kl.take (pl.toNat - 1) ++ kl.drop pl.toNat).length c1, .slice A2 (cl.take pl.toNat ++ cl.drop (pl.toNat + 1)).length c2] /\ Mem w w1 [] [oI A1 c1 (kl.take (pl.toNat - 1) ++ kl.drop pl.toNat), oI A2 c2 (cl.take pl.toNat ++ cl.drop (pl.toNat + 1))]) := by
 have hM : Mem w w [] [] := Mem.refl
 refine aR.nG (rs := [.cell 4 65]) Tryz.func218 rfl Tryz.results218 Tryz.ntmps218 rfl ?_
 refine Bx 2 [] λ H0 t0 B0 x0 => ?_
 refine Al 0 [] λ I0 u0 C0 y0 => ?_
 have hpe : (pl + 1).toNat = pl.toNat + 1 := by omega
 have hpm : (pl - 1).toNat = pl.toNat - 1 := by omega
 refine any 2 [] 12 [0, 1] λ o0 f0 => ?_
 refine av [0, 1, 2] [1] 3 (a := by exact λ _ hw2 => eV) (b := ?_)
 refine av [] [] 4 (s := Vl KA (kl.take (pl - 1).toNat).length kc) (a := by exact λ w2 hw2 => cv (Ru.congr (Ru.lsliceTo (h := (pl - 1).toNat) Tryz.underlying30 el3 rfl rfl t1 t1) (sl_congr t6)) rfl) (b := ?_)
 refine av [6, 7, 8] [1] 9 (s := Vl (if kc = pl.toNat then KA else ofs KA (pl.toNat * 1)) (kl.drop pl.toNat).length (kc - pl.toNat)) (a := by exact λ w2 hw2 => cv (Ru.congr (Ru.lsliceFrom (l := pl.toNat) Tryz.underlying30 el3 rfl rfl t1 t1) (sl_congr t6)) rfl) (b := ?_)
 refine aO [] [] 5 ?_
 refine cq 0 [] (b := cM _ _ _ o0 (fE (hRK.at f0)) q0) (c := ?_)
 rintro _ K0 ⟨r0, v0, rfl, m0⟩
 have e0 := f0.cl 0 m0
 have F0 := (e0.cap 0 rfl).1
 refine os 0 [] [1, 2] ?_
 refine aO [] [] 10 ?_
 refine aM 0 [] 0 (fK (k := pl.toNat) (c := kc) (hRK.at e0) q2 q2) (λ J0 a0 c0 D0 z0 => ?_) (hn := t16) (hb := t16)
 refine os 0 [] [1, 2] ?_
 refine an [11] [] ?_
 refine any 1 [] 12 [0, 1, 2] λ p0 i0 => ?_
 refine av [0, 1, 2] [2] 3 (s := Vl CA (cl.take pl.toNat).length cc) (a := by exact λ w2 hw2 => cv (Ru.congr (Ru.lsliceTo (h := pl.toNat) Tryz.underlying30 el3 rfl rfl t1 t1) (sl_congr t6)) rfl) (b := ?_)
 refine av [5, 6, 7] [2] 8 (a := by exact λ _ hw2 => oW) (b := ?_)
 refine av [] [] 9 (s := Vl (if cc = (pl + 1).toNat then CA else ofs CA ((pl + 1).toNat * 1)) (cl.drop (pl + 1).toNat).length (cc - (pl + 1).toNat)) (a := by exact λ w2 hw2 => cv (Ru.congr (Ru.lsliceFrom (l := (pl + 1).toNat) Tryz.underlying30 el3 rfl rfl t1 t1) (sl_congr t6)) rfl) (b := ?_)
 refine aO [] [] 4 ?_
 refine cq 0 [] (b := cM _ _ _ p0 (fE (hRC.at i0)) q0) (c := ?_)
 rintro _ M0 ⟨s0, w0, rfl, n0⟩
 have g0 := i0.cl 0 n0
 have G0 := (g0.cap 0 rfl).1
 refine os 0 [] [1, 2, 3] ?_
 refine aO [] [] 10 ?_
 refine aM 0 [] 0 (fK (k := (pl + 1).toNat) (c := cc) (hRC.at g0) q2 q2) (λ L0 b0 d0 E0 A0 => ?_) (hn := t16) (hb := t16)
 refine os 0 [] [1, 2, 3] ?_
 refine an [11] [] ?_
 refine Sb 5 [] 2 λ N0 j0 => ?_
 refine EG 2 [] ?_
 refine PG (vs := [.agg #[.slice a0 ((kl.take (pl - 1).toNat) ++ kl.drop pl.toNat).length c0, .slice b0 ((cl.take pl.toNat) ++ cl.drop (pl + 1).toNat).length d0]]) (bX.cell (l := [.slice a0 ((kl.take (pl - 1).toNat) ++ kl.drop pl.toNat).length c0, .slice b0 ((cl.take pl.toNat) ++ cl.drop (pl + 1).toNat).length d0]) rfl (cA (i := 2) (j := 0) j0 rfl rfl) tK rfl bX.nil) ?_
 have k0 := j0.rM 1 (kl.take (pl.toNat - 1) ++ kl.drop pl.toNat : List Int) (e := by rw [hpm])
 have l0 := k0.rM 0 (cl.take pl.toNat ++ cl.drop (pl.toNat + 1) : List Int) (e := by rw [hpe])
 exact ⟨a0, c0, b0, d0, (by rw [hpe, hpm]; first | rfl | (simp; done)), (l0.pk [1, 0])⟩
theorem fM (b : Bool) (w : World) :
  aR Tryz.prog 203 [.bool b] w (λ v w1 => v = I (if b then 1 else 0) /\ Mem w w1 [] []) := by
 have hM : Mem w w [] [] := Mem.refl
 refine aR.n1 Tryz.func203 rfl Tryz.results203 Tryz.ntmps203 rfl ?_
 refine cb 9 [] (λ c3 => ?_) (λ c3 => ?_)
 have hb : b = true := by simpa using c3
 refine E1 5 [] (I 1) ?_
 exact ⟨(by first | (rw [hb]; rfl) | (subst hb; rfl) | (simp_all; done)), (Mem.none hM)⟩
 have hb : b = false := by simpa using c3
 refine E1 6 [] (I 0) ?_
 exact ⟨(by first | (rw [hb]; rfl) | (subst hb; rfl) | (simp_all; done)), (Mem.none hM)⟩
set_option maxHeartbeats 4000000 in
theorem aHe (T : bN) (g : Int) (w : World) (hNT : TrN w T) (hs : SzT T) (hg : 0 <= g /\ g < (T.l.length : Int)) (hrb : 0 <= T.root /\ T.root <= 1000) (hkb : ∀ p ∈ T.l, ∀ x ∈ p.c.l, 0 <= x /\ x <= 1000) :
  aR Tryz.prog 202 [.agg #[I T.root, .slice T.A T.l.length T.cp], I g] w (λ v w1 => ∃ (L1 : List PgL) (A1 : Option Addr) (c1 : Nat), v = .agg #[I (shI g T.root), .slice A1 L1.length c1] /\ ((⟨shI g T.root, tsG L1⟩ : TrT) = lV T.t g) /\ Mem w w1 [] [oG A1 c1 L1, L1.flatMap (pgF 3)]) := by
 have hM : Mem w w [] [] := Mem.refl
 refine aR.nG (rs := [.cell 4 25]) Tryz.func202 rfl Tryz.results202 Tryz.ntmps202 rfl ?_
 have hs1 := hs.1
 have hif0 : (0 : Int) <= (if decide (T.root > g) = true then 1 else 0) /\ (if decide (T.root > g) = true then (1 : Int) else 0) <= 1 := by split <;> omega
 refine Bx 2 [] λ Z1 l1 I1 o1 => ?_
 refine Al 0 [] λ a2 m1 J1 p1 => ?_
 refine ct3 1 [] (λ (bx5 : Nat) (f0 : Option Addr) (k0 : Nat) => ([(5, Vp (bl bx5) 0)] : List (Nat × SV))) (λ bx5 f0 k0 => True) (λ bx5 f0 k0 => [[⟨.slice (bl bx5) 1 1, 25, 2, 1, [I (shI g T.root), .slice f0 ([] : List PgL).length k0]⟩], oG f0 k0 ([] : List PgL), ([] : List PgL).flatMap (pgF 3)]) [1, 2, 4] [0, 1] ?_ (λ bx5 f0 k0 σ l2 hI U0 => ?_)
 refine any 0 [] 12 [0, 1] λ j1 S0 => ?_
 have s1 := Mem.gnil (e := 3) S0
 refine aH [0, 1, 2, 3, 4, 5] [1, 1] 6 8 10 ?_ ?_ ?_
 refine cp 0 [] (b := fM (decide (T.root > g)) j1 ) (c := λ x0 s0 => ?_)
 refine os 0 [] [1, 2] ?_
 refine av [] [] 7 (s := Vi (shI g T.root)) (a := by exact λ w2 hw2 => cv (Ru.congr (Ru.sub rfl rfl t1) (I_congr (by unfold shI; simp))) rfl) (b := ?_)
 refine aT [] [] 8 10 ?_ ?_
 refine Lt 0 [] (([]).flatMap encPg) (λ m0 d0 v0 t0 => ?_)
 refine os 0 [] [2, 3] ?_
 refine aO [9] [] 10 ?_
 refine Al 0 [] λ l0 c0 u0 r0 => ?_
 refine os 0 [] [3, 4] ?_
 refine aO [] [] 11 ?_
 refine Sb 0 [] 0 λ q0 b0 => ?_
 refine os 0 [] [3, 4] ?_
 refine an [] [] ?_
 have f1 : ([] : List PgL) = ([] : List PgL) := t2
 have z1 := b0.reF 1 f1 (f := encPg)
 exact ce3 0 [] c0 (bl d0) 0 [0, 1, 2, 3, 4] (h := t12)
 refine Al 0 [] λ l0 c0 u0 r0 => ?_
 refine os 0 [] [2, 3] ?_
 refine aO [] [] 8 ?_
 refine Lt 0 [] (([]).flatMap encPg) (λ m0 d0 v0 t0 => ?_)
 refine os 0 [] [3, 4] ?_
 refine aO [9] [] 11 ?_
 refine Sb 0 [] 1 λ q0 b0 => ?_
 refine os 0 [] [3, 4] ?_
 refine an [] [] ?_
 have g1 : ([] : List PgL) = ([] : List PgL) := t2
 have F1 := b0.reF 0 g1 (f := encPg)
 exact ce3 0 [] c0 (bl d0) 0 [1, 0, 2, 3, 4] (h := t12)
 refine Lt 0 [] (([]).flatMap encPg) (λ m0 d0 v0 t0 => ?_)
 refine os 0 [] [2, 3] ?_
 refine aT [] [] 6 10 ?_ ?_
 refine cp 0 [] (b := fM (decide (T.root > g)) m0 ) (c := λ x0 s0 => ?_)
 refine os 0 [] [2, 3] ?_
 refine av [] [] 7 (s := Vi (shI g T.root)) (a := by exact λ w2 hw2 => cv (Ru.congr (Ru.sub rfl rfl t1) (I_congr (by unfold shI; simp))) rfl) (b := ?_)
 refine aO [9] [] 10 ?_
 refine Al 0 [] λ l0 c0 u0 r0 => ?_
 refine os 0 [] [3, 4] ?_
 refine aO [] [] 11 ?_
 refine Sb 0 [] 0 λ q0 b0 => ?_
 refine os 0 [] [3, 4] ?_
 refine an [] [] ?_
 have h1 : ([] : List PgL) = ([] : List PgL) := t2
 have G1 := b0.reF 1 h1 (f := encPg)
 exact ce3 0 [] c0 (bl d0) 0 [0, 1, 2, 3, 4] (h := t12)
 refine Al 0 [] λ l0 c0 u0 r0 => ?_
 refine os 0 [] [3, 4] ?_
 refine aO [] [] 6 ?_
 refine cp 0 [] (b := fM (decide (T.root > g)) l0 ) (c := λ x0 s0 => ?_)
 refine os 0 [] [3, 4] ?_
 refine av [] [] 7 (s := Vi (shI g T.root)) (a := by exact λ w2 hw2 => cv (Ru.congr (Ru.sub rfl rfl t1) (I_congr (by unfold shI; simp))) rfl) (b := ?_)
 refine aO [9] [] 11 ?_
 refine Sb 0 [] 0 λ q0 b0 => ?_
 refine os 0 [] [3, 4] ?_
 refine an [] [] ?_
 have i1 : ([] : List PgL) = ([] : List PgL) := t2
 have H1 := b0.reF 1 i1 (f := encPg)
 exact ce3 0 [] c0 (bl d0) 0 [0, 1, 2, 3, 4] (h := t12)
 refine Al 0 [] λ l0 c0 u0 r0 => ?_
 refine os 0 [] [2, 3] ?_
 refine aT [] [] 6 8 ?_ ?_
 refine cp 0 [] (b := fM (decide (T.root > g)) l0 ) (c := λ x0 s0 => ?_)
 refine os 0 [] [2, 3] ?_
 refine av [] [] 7 (s := Vi (shI g T.root)) (a := by exact λ w2 hw2 => cv (Ru.congr (Ru.sub rfl rfl t1) (I_congr (by unfold shI; simp))) rfl) (b := ?_)
 refine aO [] [] 8 ?_
 refine Lt 0 [] (([]).flatMap encPg) (λ m0 d0 v0 t0 => ?_)
 refine os 0 [] [3, 4] ?_
 refine aO [9] [] 11 ?_
 refine Sb 0 [] 1 λ q0 b0 => ?_
 refine os 0 [] [3, 4] ?_
 refine an [] [] ?_
 have d1 : ([] : List PgL) = ([] : List PgL) := t2
 have u1 := b0.reF 0 d1 (f := encPg)
 exact ce3 0 [] c0 (bl d0) 0 [1, 0, 2, 3, 4] (h := t12)
 refine Lt 0 [] (([]).flatMap encPg) (λ m0 d0 v0 t0 => ?_)
 refine os 0 [] [3, 4] ?_
 refine aO [] [] 6 ?_
 refine cp 0 [] (b := fM (decide (T.root > g)) m0 ) (c := λ x0 s0 => ?_)
 refine os 0 [] [3, 4] ?_
 refine av [] [] 7 (s := Vi (shI g T.root)) (a := by exact λ w2 hw2 => cv (Ru.congr (Ru.sub rfl rfl t1) (I_congr (by unfold shI; simp))) rfl) (b := ?_)
 refine aO [9] [] 11 ?_
 refine Sb 0 [] 1 λ q0 b0 => ?_
 refine os 0 [] [3, 4] ?_
 refine an [] [] ?_
 have e1 : ([] : List PgL) = ([] : List PgL) := t2
 have v1 := b0.reF 0 e1 (f := encPg)
 exact ce3 0 [] c0 (bl d0) 0 [1, 0, 2, 3, 4] (h := t12)
 have Q1 := (U0.cap 1 rfl).1
 refine lp4 6 [] (λ (k : Nat) (Ch : List PgL) (A2 : Option Addr) (c2 : Nat) => ([(6, Vi ((k : Nat) : Int))] : List (Nat × SV))) (λ k Ch A2 c2 => (k <= T.l.length) /\ (tsG Ch = xR (tsG T.l) g k)) (λ k Ch A2 c2 => [[⟨.slice (bl bx5) 1 1, 25, 2, 1, [I (shI g T.root), .slice A2 Ch.length c2]⟩], oG A2 c2 Ch, Ch.flatMap (pgF 3)]) (λ k Ch A2 c2 => T.l.length - k) [1, 2, 4, 5] [0, 1, 2] [3, 4] 0 (([] : List PgL) : List PgL) f0 k0 (λ k Ch A2 c2 σ k1 hI o0 => ?_) (h0 := ⟨(bI _), rfl⟩)
 obtain ⟨X1, j0⟩ := hI
 have O1 := (o0.cap 1 rfl).1
 have hCl : Ch.length <= T.l.length := by have h9 := congrArg List.length j0; have h8 := aNe (l := tsG T.l) (g := g) (k := k); simp only [bC] at h9 h8; omega
 refine cd 9 [4] (λ c23 => ?_) (λ c23 => ?_)
 have hkx : k < T.l.length := by omega
 have hszk := hs.at hkx
 refine cd 10 [] (λ c28 => ?_) (λ c28 => ?_)
 have hke : (k : Int) = g := by omega
 refine ov 3 [] (a := bL (k + 1)) (b := ?_)
 exact le4 2 [] (k + 1) Ch A2 c2 [0, 1, 2, 3, 4] (h := by exact ⟨t7, (by (try dsimp only); first | (rw [aIy (by simpa using hkx) hke, j0]; done) | (rw [gJ, j0, aIz (by simpa using hkx) hg.1 hkn]; simp only [cI]; rfl))⟩)
 have hkn : (k : Int) ≠ g := by omega
 have a0 : k < T.l.length := t3
 refine ov 6 [4] (a := cJ a0 (hNT.at o0).1) (b := ?_)
 refine ov 0 [] (a := gL a0 (hNT.at o0).1) (b := ?_)
 refine cq 0 [] (b := nU (T.l[k]'a0) k1 ((hNT.at o0).2.get a0) (by exact hs.at a0)) (c := ?_)
 rintro _ g2 ⟨y0, A0, M0, P0, z0, B0, rfl, b1⟩
 have C0 := o0.cl 0 b1
 have U1 := (C0.cap 0 rfl).1
 have V1 := (C0.cap 1 rfl).1
 have W1 := (C0.cap 2 rfl).1
 refine Al 0 [] λ h2 N0 M1 r1 => ?_
 refine Sb 0 [] 0 λ i2 T0 => ?_
 have H0 : ((T.l[k]'a0).c.l : List Int) = ((T.l[k]'a0).c.l.take 0).map (shI g) ++ (T.l[k]'a0).c.l.drop 0 := t11
 have W0 := T0.reM 2 H0
 have x1 := W0.reB 0 1 (show (T.l[k]'a0).c.l.length = (((T.l[k]'a0).c.l.take 0).map (shI g) ++ (T.l[k]'a0).c.l.drop 0).length from congrArg List.length H0)
 refine lp3 7 [] (λ (k2 : Nat) (A3 : Option Addr) (c3 : Nat) => ([(8, Vi ((k2 : Nat) : Int))] : List (Nat × SV))) (λ k2 A3 c3 => (k2 <= (T.l[k]'a0).c.l.length)) (λ k2 A3 c3 => [[⟨.slice (bl N0) 1 1, 42, 3, 1, [.slice y0 (T.l[k]'a0).k.l.length A0, .slice A3 (((T.l[k]'a0).c.l.take k2).map (shI g) ++ (T.l[k]'a0).c.l.drop k2).length c3, .slice z0 (T.l[k]'a0).v.l.length B0]⟩], oI A3 c3 (((T.l[k]'a0).c.l.take k2).map (shI g) ++ (T.l[k]'a0).c.l.drop k2)]) (λ k2 A3 c3 => (T.l[k]'a0).c.l.length - k2) [1, 2, 4, 5, 6, 7] [0, 2] [1, 3, 4, 5, 6, 7, 8] 0 M0 P0 (λ k2 A3 c3 σ j2 hI p0 => ?_) (h0 := (bI _))
 have Y1 := hI
 have P1 := (p0.cap 1 rfl).1
 have R1 := (p0.cap 2 rfl).1
 have S1 := (p0.cap 3 rfl).1
 have T1 := (p0.cap 5 rfl).1
 have hml := rB (f := shI g) (l := (T.l[k]'a0).c.l) (k := k2)
 refine cd 9 [0] (λ c39 => ?_) (λ c39 => ?_)
 have hk2 : k2 < (T.l[k]'a0).c.l.length := by omega
 obtain ⟨z9, hz9⟩ : ∃ z, z = ((T.l[k]'a0).c.l)[k2]'hk2 := ⟨_, rfl⟩
 have hzb := hkb _ (aC hkx) z9 (by rw [hz9]; exact aC hk2)
 have hshv : z9 - (if decide (z9 > g) = true then 1 else 0) = shI g ((T.l[k]'a0).c.l)[k2] := by rw [<- hz9]; unfold shI; simp
 have hif : (0 : Int) <= (if decide (z9 > g) = true then 1 else 0) /\ (if decide (z9 > g) = true then (1 : Int) else 0) <= 1 := by split <;> omega
 refine any 3 [] 19 [0, 2, 3, 4, 5, 6, 7, 8] λ F0 i0 => ?_
 have w0 : k2 < (((T.l[k]'a0).c.l.take k2).map (shI g) ++ (T.l[k]'a0).c.l.drop k2).length := t1
 refine av [0, 1, 2, 3, 4, 5] [0, 0] 6 (a := by exact λ _ hw2 => cG w0 (i0.rd 1 rfl) (h0 := t1)) (b := ?_)
 have D0 : k2 < (((T.l[k]'a0).c.l.take k2).map (shI g) ++ (T.l[k]'a0).c.l.drop k2).length := t1
 refine av [8, 9, 10] [0] 11 (a := by exact λ _ hw2 => cG D0 (i0.rd 1 rfl) (h0 := t1)) (b := ?_)
 refine aT [13] [] 7 12 ?_ ?_
 refine ov 0 [] (s := Vi z9) (a := by exact cv (Ru.congr (Ru.load1 el3 rfl (ldm (i0.rd 1 rfl) w0)) (I_congr (by rw [hz9]; exact qZ hk2 _))) rfl) (b := ?_)
 refine os 0 [] [0, 2, 3, 4, 5, 6, 7, 8] ?_
 refine aO [] [] 12 ?_
 refine ov 0 [] (s := Vi z9) (a := by exact cv (Ru.congr (Ru.load1 el3 rfl (ldm (i0.rd 1 rfl) D0)) (I_congr (by rw [hz9]; exact qZ hk2 _))) rfl) (b := ?_)
 refine os 0 [] [0, 2, 3, 4, 5, 6, 7, 8] ?_
 refine aO [14] [] 15 ?_
 refine cp 0 [] (b := fM (decide (z9 > g)) F0 ) (c := λ J0 g0 => ?_)
 refine os 0 [] [0, 2, 3, 4, 5, 6, 7, 8] ?_
 refine av [] [] 16 (a := by exact λ _ hw2 => eV) (b := ?_)
 have e0 : k2 < (((T.l[k]'a0).c.l.take k2).map (shI g) ++ (T.l[k]'a0).c.l.drop k2).length := t1
 refine av [] [] 17 (a := by exact λ _ hw2 => cG e0 (g0.rd 1 rfl) (h0 := t1)) (b := ?_)
 refine aO [] [] 18 ?_
 refine sM 0 [] 1 e0 λ K0 n0 => ?_
 refine os 0 [] [0, 2, 3, 4, 5, 6, 7, 8] ?_
 refine an [] [] ?_
 refine ov 2 [] (a := bL (k2 + 1)) (b := ?_)
 have X0 := n0.rM 1 (((T.l[k]'a0).c.l.take (k2 + 1)).map (shI g) ++ (T.l[k]'a0).c.l.drop (k2 + 1) : List Int) (e := by rw [hshv]; exact tX hk2)
 have y1 := X0.reB 0 1 (show (((T.l[k]'a0).c.l.take k2).map (shI g) ++ (T.l[k]'a0).c.l.drop k2).length = (((T.l[k]'a0).c.l.take (k2 + 1)).map (shI g) ++ (T.l[k]'a0).c.l.drop (k2 + 1)).length from (by simp only [rB]))
 exact le3 2 [] (k2 + 1) A3 c3 [0, 1, 2, 3, 4, 5, 6, 7, 8] (h := t9)
 refine ov 0 [] (s := Vi z9) (a := by exact cv (Ru.congr (Ru.load1 el3 rfl (ldm (i0.rd 1 rfl) D0)) (I_congr (by rw [hz9]; exact qZ hk2 _))) rfl) (b := ?_)
 refine os 0 [] [0, 2, 3, 4, 5, 6, 7, 8] ?_
 refine aT [14] [] 7 15 ?_ ?_
 refine ov 0 [] (s := Vi z9) (a := by exact cv (Ru.congr (Ru.load1 el3 rfl (ldm (i0.rd 1 rfl) w0)) (I_congr (by rw [hz9]; exact qZ hk2 _))) rfl) (b := ?_)
 refine os 0 [] [0, 2, 3, 4, 5, 6, 7, 8] ?_
 refine aO [] [] 15 ?_
 refine cp 0 [] (b := fM (decide (z9 > g)) F0 ) (c := λ J0 g0 => ?_)
 refine os 0 [] [0, 2, 3, 4, 5, 6, 7, 8] ?_
 refine av [] [] 16 (a := by exact λ _ hw2 => eV) (b := ?_)
 have e0 : k2 < (((T.l[k]'a0).c.l.take k2).map (shI g) ++ (T.l[k]'a0).c.l.drop k2).length := t1
 refine av [] [] 17 (a := by exact λ _ hw2 => cG e0 (g0.rd 1 rfl) (h0 := t1)) (b := ?_)
 refine aO [] [] 18 ?_
 refine sM 0 [] 1 e0 λ K0 n0 => ?_
 refine os 0 [] [0, 2, 3, 4, 5, 6, 7, 8] ?_
 refine an [] [] ?_
 refine ov 2 [] (a := bL (k2 + 1)) (b := ?_)
 have Y0 := n0.rM 1 (((T.l[k]'a0).c.l.take (k2 + 1)).map (shI g) ++ (T.l[k]'a0).c.l.drop (k2 + 1) : List Int) (e := by rw [hshv]; exact tX hk2)
 have B1 := Y0.reB 0 1 (show (((T.l[k]'a0).c.l.take k2).map (shI g) ++ (T.l[k]'a0).c.l.drop k2).length = (((T.l[k]'a0).c.l.take (k2 + 1)).map (shI g) ++ (T.l[k]'a0).c.l.drop (k2 + 1)).length from (by simp only [rB]))
 exact le3 2 [] (k2 + 1) A3 c3 [0, 1, 2, 3, 4, 5, 6, 7, 8] (h := t9)
 refine cp 0 [] (b := fM (decide (z9 > g)) F0 ) (c := λ J0 g0 => ?_)
 refine os 0 [] [0, 2, 3, 4, 5, 6, 7, 8] ?_
 refine aO [] [] 7 ?_
 refine ov 0 [] (s := Vi z9) (a := by exact cv (Ru.congr (Ru.load1 el3 rfl (ldm (g0.rd 1 rfl) w0)) (I_congr (by rw [hz9]; exact qZ hk2 _))) rfl) (b := ?_)
 refine os 0 [] [0, 2, 3, 4, 5, 6, 7, 8] ?_
 refine av [] [] 16 (a := by exact λ _ hw2 => eV) (b := ?_)
 have e0 : k2 < (((T.l[k]'a0).c.l.take k2).map (shI g) ++ (T.l[k]'a0).c.l.drop k2).length := t1
 refine av [] [] 17 (a := by exact λ _ hw2 => cG e0 (g0.rd 1 rfl) (h0 := t1)) (b := ?_)
 refine aO [] [] 18 ?_
 refine sM 0 [] 1 e0 λ K0 n0 => ?_
 refine os 0 [] [0, 2, 3, 4, 5, 6, 7, 8] ?_
 refine an [] [] ?_
 refine ov 2 [] (a := bL (k2 + 1)) (b := ?_)
 have Z0 := n0.rM 1 (((T.l[k]'a0).c.l.take (k2 + 1)).map (shI g) ++ (T.l[k]'a0).c.l.drop (k2 + 1) : List Int) (e := by rw [hshv]; exact tX hk2)
 have C1 := Z0.reB 0 1 (show (((T.l[k]'a0).c.l.take k2).map (shI g) ++ (T.l[k]'a0).c.l.drop k2).length = (((T.l[k]'a0).c.l.take (k2 + 1)).map (shI g) ++ (T.l[k]'a0).c.l.drop (k2 + 1)).length from (by simp only [rB]))
 exact le3 2 [] (k2 + 1) A3 c3 [0, 1, 2, 3, 4, 5, 6, 7, 8] (h := t9)
 have I0 : (((T.l[k]'a0).c.l.take k2).map (shI g) ++ (T.l[k]'a0).c.l.drop k2 : List Int) = (T.l[k]'a0).c.l.map (shI g) := (aCj t1)
 have a1 := p0.reM 1 I0
 have D1 := a1.reB 0 1 (show (((T.l[k]'a0).c.l.take k2).map (shI g) ++ (T.l[k]'a0).c.l.drop k2).length = ((T.l[k]'a0).c.l.map (shI g)).length from congrArg List.length I0)
 let E0 : PgL := (⟨⟨y0, A0, (T.l[k]'a0).k.l⟩, ⟨A3, c3, (T.l[k]'a0).c.l.map (shI g)⟩, ⟨z0, B0, (T.l[k]'a0).v.l⟩⟩ : PgL)
 refine Lt 5 [4, 0] (([E0]).flatMap encPg) (λ b2 n1 K1 Q0 => ?_)
 refine aF 0 [] 6 (Q0.rd 0 rfl) (λ d2 L0 O0 N1 q1 => ?_)
 refine Sb 1 [] 5 λ e2 R0 => ?_
 have V0 := Mem.gapp (k := ⟨y0, A0, (T.l[k]'a0).k.l⟩) (c := ⟨A3, c3, (T.l[k]'a0).c.l.map (shI g)⟩) (v := ⟨z0, B0, (T.l[k]'a0).v.l⟩) (R0.pk [7, 3, 2, 4, 0, 1, 5, 6, 8, 9])
 refine ov 3 [] (a := bL (k + 1)) (b := ?_)
 have E1 := V0.rF 4 ((Ch ++ [E0]) : List PgL) (e := t2)
 exact le4 2 [] (k + 1) (Ch ++ [E0]) L0 O0 [3, 4, 0, 5, 6] (h := by exact ⟨t7, (by (try dsimp only); first | (rw [aIy (by simpa using hkx) hke, j0]; done) | (rw [gJ, j0, aIz (by simpa using hkx) hg.1 hkn]; simp only [cI]; rfl))⟩)
 refine Sb 4 [0] 3 λ f2 G0 => ?_
 refine EG 2 [] ?_
 refine PG (vs := [.agg #[I (shI g T.root), .slice A2 Ch.length c2]]) (bX.cell (l := [I (shI g T.root), .slice A2 Ch.length c2]) rfl (cA (i := 3) (j := 0) G0 rfl rfl) kH rfl bX.nil) ?_
 exact ⟨Ch, A2, c2, (by first | rfl | exact sl_congr t8 | (simp; done)), (aNd (T := T.t) (k := k) (by rw [cP]; omega) rfl j0), (G0.pk [1, 2])⟩
end Go.Proofs.YtemejgglbhjodaaGreatDoor
