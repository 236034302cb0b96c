/- Own layer, part 2: plain theorems on the walk of this program's functions and on what they compute; no conditions. -/
import Derived.Test.YtemejgglbhjodaaGreatDoorP0
import Derived.Lib.ItoaLen
import Derived.Shelf.Strconv.Itoa3
import Derived.Lib.Builder
import Derived.Laws.Externs
set_option linter.unusedVariables false
set_option linter.unusedSimpArgs false
section
namespace Go.Px
open Go.RowKit
structure SlL where
 A : Option Addr
 cp : Nat
 l : List Int
structure PgL where
 k : SlL
 c : SlL
 v : SlL
def PgL.t (x : PgL) : PgT := ⟨x.k.l, x.c.l, x.v.l⟩
structure bN where
 root : Int
 A : Option Addr
 cp : Nat
 l : List PgL
abbrev tsG (l : List PgL) : List PgT := l.map PgL.t
def bN.t (T : bN) : TrT := ⟨T.root, tsG T.l⟩
def encPg (x : PgL) : List Value := [.slice x.k.A x.k.l.length x.k.cp, .slice x.c.A x.c.l.length x.c.cp, .slice x.v.A x.v.l.length x.v.cp]
theorem aLa (x : PgL) : (encPg x).length = 3 := rfl
def slF (e : TypeId) (x : SlL) : FE := ⟨.slice x.A x.l.length x.cp, e, 1, x.l.length, x.l.map I⟩
def pgF (e : TypeId) (x : PgL) : List FE := [slF e x.k, slF e x.c, slF e x.v]
def PgN (w : World) (x : PgL) : Prop := Rd w x.k.A (x.k.l.map I) /\ Rd w x.c.A (x.c.l.map I) /\ Rd w x.v.A (x.v.l.map I)
def NsP (w : World) (l : List PgL) : Prop := ∀ x ∈ l, PgN w x
def TrN (w : World) (T : bN) : Prop := Rd w T.A (T.l.flatMap encPg) /\ NsP w T.l
def PgO (x : PgL) (R : List (Option Nat)) : Prop := Off x.k.A (x.k.l.map I) R /\ Off x.c.A (x.c.l.map I) R /\ Off x.v.A (x.v.l.map I) R
def TrO (T : bN) (R : List (Option Nat)) : Prop := Off T.A (T.l.flatMap encPg) R /\ ∀ x ∈ T.l, PgO x R
section
variable {w0 w : World} {R : List (Option Nat)} {M : List (List FE)} {L : List FE} {l : List PgL} {e : TypeId} {x : PgL} {T : bN}
theorem PgN.at (h : PgN w0 x) (hM : iS w0 w [] L) : PgN w x := ⟨h.1.at hM, h.2.1.at hM, h.2.2.at hM⟩
theorem PgN.atR (h : PgN w0 x) (hM : iS w0 w R L) (ho : PgO x R) : PgN w x := ⟨h.1.atR hM ho.1, h.2.1.atR hM ho.2.1, h.2.2.atR hM ho.2.2⟩
theorem NsP.at (h : NsP w0 l) (hM : iS w0 w [] L) : NsP w l := λ x hx => (h x hx).at hM
theorem NsP.get (h : NsP w l) {j : Nat} (hj : j < l.length) : PgN w l[j] := h _ (aC hj)
theorem TrN.at (h : TrN w0 T) (hM : iS w0 w [] L) : TrN w T := ⟨h.1.at hM, h.2.at hM⟩
theorem TrN.atR (h : TrN w0 T) (hM : iS w0 w R L) (ho : TrO T R) : TrN w T := ⟨h.1.atR hM ho.1, λ x hx => (h.2 x hx).atR hM (ho.2 x hx)⟩
theorem NsP.mem (h : Mem w0 w R M) (i : Nat) (hi : M[i]? = some (l.flatMap (pgF e))) : NsP w l := by
 have hm : ∀ x ∈ l, ∀ y ∈ pgF e x, y.own w := λ x hx y hy => h.own _ (dM.2 ⟨_, cE hi, aZ.2 ⟨x, hx, hy⟩⟩)
 intro x hx
 exact ⟨pM (hm x hx (slF e x.k) (by simp [pgF])), pM (hm x hx (slF e x.c) (by simp [pgF])), pM (hm x hx (slF e x.v) (by simp [pgF]))⟩
theorem TrO.nil : TrO T [] := ⟨Off.nil, λ _ _ => ⟨Off.nil, Off.nil, Off.nil⟩⟩
theorem Off.cons {A : Option Addr} {l : List Value} {r : Option Nat} (h : Off A l [r]) (h2 : Off A l R) : Off A l (r :: R) := by
 rcases h with h | h
 ·exact .inl h
 rcases h2 with h2 | h2
 ·exact .inl h2
 refine .inr λ a ha => ?_
 have h3 := h a ha
 have h4 := h2 a ha
 simp only [aU] at h3
 simp [h3, h4]
theorem TrO.cons {r : Option Nat} (h : TrO T [r]) (h2 : TrO T R) : TrO T (r :: R) :=
 ⟨h.1.cons h2.1, λ x hx => ⟨(h.2 x hx).1.cons (h2.2 x hx).1, (h.2 x hx).2.1.cons (h2.2 x hx).2.1, (h.2 x hx).2.2.cons (h2.2 x hx).2.2⟩⟩
theorem TrO.old (h : Mem w0 w [] M) (hT : TrN w0 T) (i : Nat) {m sz : Nat} {v' : Value} {e' : TypeId} {xs : List Value} {g : List FE} (hi : M[i]? = some (⟨v', e', sz, m, xs⟩ :: g)) : TrO T [v'.ownBlock] :=
 ⟨h.off_old hT.1 i hi, λ x hx => ⟨h.off_old (hT.2 x hx).1 i hi, h.off_old (hT.2 x hx).2.1 i hi, h.off_old (hT.2 x hx).2.2 i hi⟩⟩
theorem Mem.permg (h : Mem w0 w R M) {M' : List (List FE)} (p : M.flatten.Perm M'.flatten) : Mem w0 w R M' :=
 ⟨h.os, h.tape, h.output, h.size, h.block, λ y hy => h.own y (p.mem_iff.2 hy), (p.pairwise_iff (λ h => rU.symm h)).1 h.apart, λ y hy => h.born y (p.mem_iff.2 hy)⟩
theorem Mem.gnil (h : Mem w0 w R M) : Mem w0 w R (([] : List PgL).flatMap (pgF e) :: M) := by simpa [Mem] using h
theorem Mem.gapp {k c v : SlL} (h : Mem w0 w R (l.flatMap (pgF e) :: [slF e k] :: [slF e c] :: [slF e v] :: M)) : Mem w0 w R ((l ++ [(⟨k, c, v⟩ : PgL)]).flatMap (pgF e) :: M) := by
 simpa [Mem, pgF, bD] using h
end
theorem jH {T : bN} {i : Int} {j : Nat} (hj : j = i.toNat) (h : j < T.l.length) : gP T.t i = T.l[j].t := by
 subst hj
 unfold gP bN.t tsG
 rw [aD, aL (by simpa using h), fC, cI]
theorem fI {T : bN} {i : Int} : inT T.t i = true ↔ 0 <= i /\ i < (T.l.length : Int) := by
 rw [aX]; simp [bN.t]
theorem cP {T : bN} : T.t.pages.length = T.l.length := by simp [bN.t]
theorem Ru.indexArrK {P : Program} {σ : Sig} {w : World} {dst : Option Tmp} {T T' e : TypeId} {pos : String} {after : Array Edge} {g : Option (Nat × Bool)} {x y : Operand} {zs : List Value} {bytes : Nat} {agg : Bool} {A : Option Addr} {k : IntKind} {i : Int} {j len k0 : Nat} (ht : P.underlying T = some (.array len e)) (he : ElT P e zs bytes agg) (hz : zs.length = 1) (hx : ev σ x = .pointer (ofs A k0)) (hA : A.isSome = true) (hy : ev σ y = .int k i)
  (hi : i.toNat = j) (h0 : 0 <= i /\ i < len) : Ru P σ ⟨dst, .indexAddr T x y, T', pos, after, g⟩ w (.pointer (ofs A (k0 + j))) := by
 cases A with
 | none => cases hA
 | some a =>
  subst hi
  have e0 := aBq a k0
  simp [Ru, execOp, hx, hy, ofs, Instr.indexAt, asIntOf, run_underlying ht, h0.1, h0.2, iD he, Instr.sureAddr, hz, e0]
def pU (P : Program) (T : TypeId) (zs : List Value) (l : List (Nat × Nat)) : Prop :=
 ∃ it z fs, P.info? T = some it /\ it.zero = some z /\ z.cells = zs.toArray /\ P.underlying T = some (.struct fs) /\ fs.toList.mapM (λ f => (P.info? f.type).map λ i => (f.offset, i.size)) = some l
theorem pU.of {P : Program} {T : TypeId} {zs : List Value} {l : List (Nat × Nat)} {z : Value} (h1 : (P.info? T).map (·.zero) = some (some z)) (hz : z.cells = zs.toArray) (h2 : oneq P T = some l) : pU P T zs l := by
 unfold oneq at h2
 cases hi : P.info? T with
 | none => rw [hi] at h1; cases h1
 | some it =>
  rw [hi] at h1
  split at h2
  ·rename_i fs hu
   exact ⟨it, z, fs, hi, by simpa using h1, hz, hu, h2⟩
  cases h2
theorem Ru.buildN {P : Program} {σ : Sig} {w : World} {dst : Option Tmp} {T T' : TypeId} {pos : String} {after : Array Edge} {g : Option (Nat × Bool)} {zs : List Value} {l : List (Nat × Nat)} {parts : List (Nat × Operand)} {ps : List (Nat × Value)} {cs : List Value} (hT : pU P T zs l) (hp : evp σ parts = ps) (hf : Instr.fill (l.toArray[·]?) zs.toArray ps = some cs.toArray) : Ru P σ ⟨dst, .build T parts.toArray, T', pos, after, g⟩ w (.agg cs.toArray) := by
 subst hp
 obtain ⟨it, z, fs, hi, hz, hzc, hu, hm⟩ := hT
 have hb : P.built T (evp σ parts) = some cs.toArray := by
  unfold Program.built
  simp only [hi, hu, hz, hm, hzc]
  exact hf
 have := run_build (P := P) w T ((evp σ parts).toArray) _ (by simpa using hb)
 rw [sG] at this
 simp only [Ru, execOp, List.map_toArray]
 simp [this, sG]
def fL (s : List Int) (i : Int) : Value := .bool (decide (i ∈ s))
def ckC (T : bN) (s : List Int) (ld : Int) : List Value :=
 [I T.root, .slice T.A T.l.length T.cp, fL s 0, fL s 1, fL s 2, fL s 3, fL s 4, fL s 5, fL s 6, fL s 7, fL s 8, fL s 9, fL s 10, fL s 11, fL s 12, fL s 13, fL s 14, fL s 15, I ld]
theorem ck_get {T : bN} {s : List Int} {ld : Int} {i : Nat} (h : i < 16) : (ckC T s ld)[2 + i]? = some (.bool (decide ((i : Int) ∈ s))) := by
 have : i = 0 \/ i = 1 \/ i = 2 \/ i = 3 \/ i = 4 \/ i = 5 \/ i = 6 \/ i = 7 \/ i = 8 \/ i = 9 \/ i = 10 \/ i = 11 \/ i = 12 \/ i = 13 \/ i = 14 \/ i = 15 := by omega
 rcases this with rfl | rfl | rfl | rfl | rfl | rfl | rfl | rfl | rfl | rfl | rfl | rfl | rfl | rfl | rfl | rfl <;> rfl
theorem aFy {s : List Int} {i j : Int} (h : j ≠ i) : fL (s ++ [i]) j = fL s j := by
 unfold fL; congr 1; simp [h]
theorem aGa {s : List Int} {i : Int} : fL (s ++ [i]) i = .bool true := by unfold fL; simp
theorem ck_set {T : bN} {s : List Int} {ld : Int} {i : Nat} (h : i < 16) : spl (ckC T s ld) (2 + i) [.bool true] = ckC T (s ++ [(i : Int)]) ld := by
 have : i = 0 \/ i = 1 \/ i = 2 \/ i = 3 \/ i = 4 \/ i = 5 \/ i = 6 \/ i = 7 \/ i = 8 \/ i = 9 \/ i = 10 \/ i = 11 \/ i = 12 \/ i = 13 \/ i = 14 \/ i = 15 := by omega
 rcases this with rfl | rfl | rfl | rfl | rfl | rfl | rfl | rfl | rfl | rfl | rfl | rfl | rfl | rfl | rfl | rfl <;>
  (unfold ckC; simp [spl, aGa, aFy])
theorem aIw {T : bN} {s : List Int} {ld : Int} {i : Int} (h : 0 <= i /\ i < 16) : (ckC T s ld)[2 + i.toNat]? = some (.bool (decide (i ∈ s))) := by
 have := ck_get (T := T) (s := s) (ld := ld) (i := i.toNat) t1
 rwa [show ((i.toNat : Nat) : Int) = i by omega] at this
theorem ck_setI {T : bN} {s : List Int} {ld : Int} {i : Int} (h : 0 <= i /\ i < 16) : spl (ckC T s ld) (2 + i.toNat) [.bool true] = ckC T (s ++ [i]) ld := by
 have := ck_set (T := T) (s := s) (ld := ld) (i := i.toNat) t1
 rwa [show ((i.toNat : Nat) : Int) = i by omega] at this
theorem ck_ld {T : bN} {s : List Int} {ld ld' : Int} : spl (ckC T s ld) 18 [I ld'] = ckC T s ld' := rfl
theorem ck_nil {T : bN} {ld : Int} : [I T.root, .slice T.A T.l.length T.cp, .bool false, .bool false, .bool false, .bool false, .bool false, .bool false, .bool false, .bool false, .bool false, .bool false, .bool false, .bool false, .bool false, .bool false, .bool false, .bool false, I ld] = ckC T [] ld := by
 simp [ckC, fL]
end Go.Px
end
section
namespace Go.Px
structure RecT where
 kind : Int
 key : Int
 val : Int
 deriving DecidableEq
instance : Inhabited RecT := ⟨⟨0, 0, 0⟩⟩
def encG (r : RecT) : List Value := [I r.kind, I r.key, I r.val]
theorem aDk {l : List PairT} : bW l = true ↔ l.length <= 24 /\ asc (bG l) = true /\ ∀ p ∈ l, (0 <= p.key /\ p.key <= 99) /\ -1000 <= p.val /\ p.val <= 1000 := by
 rw [eM, bQ]
 constructor
 ·rintro ⟨h1, h2, h3, h4⟩
  exact ⟨h1, h4, λ p hp => ⟨h3 _ (List.mem_map_of_mem hp), h2 p hp⟩⟩
 rintro ⟨h1, h2, h3⟩
 exact ⟨h1, λ p hp => (h3 p hp).2, λ k hk => by obtain ⟨p, hp, rfl⟩ := bU.1 hk; exact (h3 p hp).1, h2⟩
end Go.Px
end
section
namespace Go.Px
open Go.Lib
theorem qU {u : Nat} (h : u < 10) : decDigits u = [UInt8.ofNat (48 + u)] := by rw [decDigits, dif_pos h]
theorem wO {u : Nat} (h : ¬ u < 10) : decDigits u = decDigits (u / 10) ++ [UInt8.ofNat (48 + u % 10)] := by rw [decDigits, dif_neg h]
def bS (n : Int) : Str := itoa n
theorem nE {n : Int} (h0 : 0 <= n) (h : n < 10) : bS n = [UInt8.ofNat (48 + n.toNat)] := by
 unfold bS itoa; rw [if_neg t1, qU t1]
theorem fV {n : Int} (h : 10 <= n) : bS n = bS (n / 10) ++ [UInt8.ofNat (48 + n.toNat % 10)] := by
 unfold bS itoa
 rw [if_neg t1, if_neg t1, wO t1]
 congr 2
 omega
theorem aEw {n : Int} (h : n < 0) : bS n = 45 :: bS (-n) := by
 unfold bS itoa
 rw [if_pos h, if_neg t1]
 congr 2
 omega
theorem oO {b : UInt8} : ∀ {u : Nat}, b ∈ decDigits u -> 48 <= b.toNat /\ b.toNat <= 57
 | u, h => by
  by_cases hu : u < 10
  ·rw [qU hu, aU] at h
   subst h
   rw [UInt8.toNat_ofNat']; omega
  rw [wO hu] at h
  rcases bE.1 h with h | h
  ·exact oO h
  rw [aU] at h
  subst h
  rw [UInt8.toNat_ofNat']; omega
 termination_by u => u
 decreasing_by omega
theorem cL {n : Int} (h0 : -9223372036854775808 <= n) (h1 : n <= 9223372036854775807) : (bS n).length <= 21 := itoa_length_le n h0 h1
def zU (p : PairT) : Str := bS p.key ++ ([58] ++ bS p.val)
def iH : List PairT -> Str
 | [] => []
 | x :: l => zU x ++ l.flatMap λ y => 44 :: zU y
def aEp (l : List PairT) : Str := if bW l then iH l else []
theorem aLc {a : List PairT} {x : PairT} : iH (a ++ [x]) = iH a ++ ((if a = [] then [] else [44]) ++ zU x) := by
 cases a with
 | nil => simp [iH]
 | cons y a => simp [iH]
theorem oT {l : List PairT} {k : Nat} (h : k < l.length) : iH (l.take (k + 1)) = iH (l.take k) ++ ((if k = 0 then [] else [44]) ++ zU l[k]) := by
 rw [dO h, aLc]
 congr 2
 by_cases hk : k = 0
 ·subst hk; simp
 rw [if_neg hk, if_neg]
 intro e
 have := congrArg List.length e
 rw [aB, bA] at this; omega
def small (p : PairT) : Prop := (0 <= p.key /\ p.key <= 99) /\ -1000 <= p.val /\ p.val <= 1000
theorem lK {l : List PairT} (h : bW l = true) : ∀ p ∈ l, small p := λ p hp => (aDk.1 h).2.2 p hp
theorem aNu {p : PairT} (h : small p) : (zU p).length <= 43 := by
 obtain ⟨h1, h2⟩ := h
 have a := cL (n := p.key) t1 t1
 have b := cL (n := p.val) t1 t1
 simp only [zU, aA, aG, bA]; omega
theorem oR : ∀ {l : List PairT} (k : Nat), (∀ p ∈ l, small p) -> k <= l.length -> (iH (l.take k)).length <= 44 * k
 | l, 0, _, _ => by simp [iH]
 | l, k + 1, h, hk => by
  rw [oT t1]
  have h1 := oR (l := l) k h t1
  have h2 := aNu (h _ (aC (show k < l.length by omega)))
  simp only [aA]
  have h3 : (if k = 0 then ([] : Str) else [44]).length <= 1 := by split <;> simp
  omega
theorem tO {l : List PairT} (h : bW l = true) : aEp l = iH l := by simp [aEp, h]
theorem fmtR_no {l : List PairT} (h : bW l = false) : aEp l = [] := by simp [aEp, h]
end Go.Px
namespace Go.Px
theorem aBg {b c : UInt8} {n : Int} (hc : (c.toNat : Int) = n) : b = c ↔ (b.toNat : Int) = n := by
 subst hc
 constructor
 ·rintro rfl; rfl
 intro h; exact UInt8.toNat_inj.1 t1
end Go.Px
end
section
namespace Go.Px
def SzT (T : bN) : Prop := T.l.length <= 1048576 /\ ∀ x ∈ T.l, x.k.l.length <= 1048576 /\ x.c.l.length <= 1048576 /\ x.v.l.length <= 1048576
theorem SzT.at {T : bN} (h : SzT T) {j : Nat} (hj : j < T.l.length) : T.l[j].k.l.length <= 1048576 /\ T.l[j].c.l.length <= 1048576 /\ T.l[j].v.l.length <= 1048576 := h.2 _ (aC hj)
section
variable {T : TrT} {n : Nat} {i low high : Int} {s : List Int} {ld : Int}
theorem aDm (h : inT T i = false \/ i ∈ s) : kD T (n + 1) i low high s ld = none := by
 simp only [kD]; rw [if_pos]; rcases h with h | h <;> simp [h]
theorem aDn (h : frB T i = false \/ lE (gP T i) low high = false) : kD T (n + 1) i low high s ld = none := by
 simp only [kD]; split
 ·rfl
 rw [if_pos]; rcases h with h | h <;> simp [h]
theorem aPo (h1 : inT T i = true) (h2 : i ∉ s) (h3 : frB T i = true) (h4 : lE (gP T i) low high = true) (h5 : (gP T i).kids = []) :
  kD T (n + 1) i low high s ld = if ld < 0 \/ ld = 2 - (n : Int) then some (s ++ [i], 2 - (n : Int)) else none := by
 simp only [kD]; rw [if_neg (by simp [h1, h2]), if_neg (by simp [h3, h4]), if_pos h5]
theorem vis_in (h1 : inT T i = true) (h2 : i ∉ s) (h3 : frB T i = true) (h4 : lE (gP T i) low high = true) (h5 : (gP T i).kids ≠ []) :
  kD T (n + 1) i low high s ld = vT (λ k x s l => kD T n x (dQ (gP T i) low k) (cH (gP T i) high k) s l) 0 (gP T i).kids (s ++ [i]) ld := by
 simp only [kD]; rw [if_neg (by simp [h1, h2]), if_neg (by simp [h3, h4]), if_neg h5]
end
theorem visK_no {f : Nat -> Int -> List Int -> Int -> Option (List Int × Int)} {l : List Int} {k : Nat} {s : List Int} {d : Int} (hk : k < l.length) (h : f k l[k] s d = none) : vT f k (l.drop k) s d = none := by
 rw [cB hk]; simp only [vT, h]
theorem visK_ok {f : Nat -> Int -> List Int -> Int -> Option (List Int × Int)} {l : List Int} {k : Nat} {s s2 : List Int} {d d2 : Int} (hk : k < l.length) (h : f k l[k] s d = some (s2, d2)) : vT f k (l.drop k) s d = vT f (k + 1) (l.drop (k + 1)) s2 d2 := by
 rw [cB hk]; simp only [vT, h]
theorem aPn {f : Nat -> Int -> List Int -> Int -> Option (List Int × Int)} {l : List Int} {k : Nat} {s : List Int} {d : Int} (hk : l.length <= k) : vT f k (l.drop k) s d = some (s, d) := by
 rw [List.drop_eq_nil_of_le hk]; rfl
theorem gH {p : PgT} {low : Int} {k : Nat} (h : k = 0) : dQ p low k = low := by simp [dQ, h]
theorem gB {p : PgT} {low : Int} {k : Nat} (h : k ≠ 0) (hk : k - 1 < p.keys.length) : dQ p low k = p.keys[k - 1] := by
 simp only [dQ, if_neg h]; rw [aD, aL hk, fC]
theorem gZ {p : PgT} {high : Int} {k : Nat} (h : ¬ k < p.keys.length) : cH p high k = high := by simp [cH, h]
theorem fU {p : PgT} {high : Int} {k : Nat} (hk : k < p.keys.length) : cH p high k = p.keys[k] := by
 simp only [cH, if_pos hk]; rw [aD, aL hk, fC]
theorem bF {l : List Int} {k : Nat} (hk : k < l.length) : l.getD k 0 = l[k] := by
 rw [aD, aL hk, fC]
def frL (root i : Int) (p : PgT) : Bool :=
 decide (p.keys.length <= 4) && bR p.keys && (decide (i = root) || decide (2 <= p.keys.length)) &&
  (if p.kids = [] then decide (p.vals.length = p.keys.length) && p.vals.all fA
   else decide (p.vals = []) && decide (1 <= p.keys.length) && decide (p.kids.length = p.keys.length + 1))
theorem nB {T : TrT} {i : Int} : frB T i = frL T.root i (gP T i) := rfl
theorem iA {T : TrT} {i : Int} (h : frB T i = true) : (gP T i).keys.length <= 4 := by
 simp only [frB, aW, decide_eq_true_eq] at h; exact h.1.1.1
theorem kI {T : TrT} {i : Int} (h : frB T i = true) : bR (gP T i).keys = true := by
 simp only [frB, aW, decide_eq_true_eq] at h; exact h.1.1.2
theorem jS {T : TrT} {i : Int} (h : frB T i = true) (hk : (gP T i).kids = []) : (gP T i).vals.length = (gP T i).keys.length /\ (gP T i).vals.all fA = true := by
 simp only [frB, aW, decide_eq_true_eq, if_pos hk] at h; exact h.2
theorem lQ {T : TrT} {i : Int} (h : frB T i = true) (hk : (gP T i).kids ≠ []) : 1 <= (gP T i).keys.length /\ (gP T i).kids.length = (gP T i).keys.length + 1 := by
 simp only [frB, aW, decide_eq_true_eq, if_neg hk] at h; exact ⟨h.2.1.2, h.2.2⟩
theorem hgt_go {T : TrT} {f : Nat} {i : Int} (h1 : inT T i = true) (h2 : (gP T i).kids ≠ []) : hgt T (f + 1) i = 1 + hgt T f ((gP T i).kids.getD 0 0) := by
 simp only [hgt]; rw [if_pos ⟨h1, h2⟩]
theorem oU {T : TrT} {f : Nat} {i : Int} (h : inT T i = false \/ (gP T i).kids = []) : hgt T f i = 0 := by
 cases f with
 | zero => rfl
 | succ f => simp only [hgt]; rw [if_neg]; rintro ⟨a, b⟩; rcases h with h | h <;> simp_all
theorem qE {T : TrT} : 1 <= bH T := by unfold bH; omega
def pG (T : TrT) (d : Nat) (i low hi : Int) (p : PgT) : Bool :=
 bR p.keys && decide (p.keys.length <= 4) && eH p.keys low hi && (decide (i = T.root) || decide (2 <= p.keys.length)) &&
  (if d = 0 then decide (p.kids = []) && decide (p.vals.length = p.keys.length) && eH p.vals (-1000) 1000
   else decide (p.keys ≠ []) && decide (p.vals = []) && decide (p.kids.length = p.keys.length + 1) && eH p.kids 0 ((T.pages.length : Int) - 1) &&
    (List.range p.kids.length).all λ k => kW T d (p.kids.getD k 0) (dQ p low k) (cH p (hi + 1) k - 1))
theorem fit_L {T : TrT} {d : Nat} {i low hi : Int} : kW T (d + 1) i low hi = pG T d i low hi (gP T i) := rfl
theorem aAz {p : Nat -> Bool} {k : Nat} (h : (List.range k).all p = true) (hk : p k = true) : (List.range (k + 1)).all p = true := by
 rw [List.range_succ, List.all_append, h]; simp [hk]
theorem aBa {p : Nat -> Bool} {k n : Nat} (hn : k < n) (hk : p k = false) : (List.range n).all p = false := by
 rw [List.all_eq_false]; exact ⟨k, List.mem_range.2 hn, by simp [hk]⟩
theorem aAc {l : List Int} {a b : Int} (h : eH l a b = true) {k : Nat} (hk : k < l.length) : a <= l[k] /\ l[k] <= b := by
 have := dV.1 h _ (aC hk)
 simpa using this
theorem aKe {T : TrT} : ∀ {d : Nat} {i low high : Int}, okB T d i low high = true -> (aS T d i).length <= 6 ^ d
 | 0, _, _, _, _ => by simp [aS]
 | d + 1, i, low, high, h => by
  have h1 := (dL.1 h)
  simp only [aS, aG]
  rcases h1.2.2.2 with ⟨_, h2⟩ | ⟨h0, h2, h3⟩
  ·rw [h2]; simp [kU]; have := (Nat.pow_pos t1 : 0 < 6 ^ d); omega
  have hk := lQ h1.2.1 h2
  have hl := iA h1.2.1
  have : ∀ (l : List Int), (∀ x ∈ l, (aS T d x).length <= 6 ^ d) -> (l.flatMap (aS T d)).length <= l.length * 6 ^ d := by
   intro l hl
   induction l with
   | nil => simp
   | cons x l ih =>
    have a := hl x t11
    have b := ih λ y hy => hl y (by simp [hy])
    simp only [aK, aA, aG, bM]; omega
  have h4 := this (gP T i).kids (λ x hx => by
   obtain ⟨k, hk, rfl⟩ := aJ hx
   have := h3 k hk
   rw [bF hk] at this
   exact aKe this)
  have h5 : (gP T i).kids.length * 6 ^ d <= 5 * 6 ^ d := bK _ t1
  have := (Nat.pow_pos t1 : 0 < 6 ^ d)
  rw [kU]; omega
theorem zG {T : TrT} {d : Nat} {i low high : Int} (h : okB T d i low high = true) (hd : d <= 3) : (aS T d i).length <= 216 := by
 refine cR (aKe h) ?_
 have : 6 ^ d <= 6 ^ 3 := Nat.pow_le_pow_right t1 hd
 omega
theorem iC {T : TrT} {d : Nat} {i low high : Int} (h : okB T (d + 1) i low high = true) {k : Nat} (hk : k < (gP T i).kids.length) : okB T d (gP T i).kids[k] (dQ (gP T i) low k) (cH (gP T i) high k) = true := by
 rcases (dL.1 h).2.2.2 with ⟨_, h2⟩ | ⟨_, _, h3⟩
 ·rw [h2] at hk; simp at hk
 have := h3 k hk; rwa [bF hk] at this
theorem vD {f : Int -> List Int} {l : List Int} {k : Nat} (h : k < l.length) : (l.take k).flatMap f ++ f l[k] = (l.take (k + 1)).flatMap f := by
 rw [dO h, bD]; simp
theorem aHv {l : List Int} {k : Nat} (hk : k < l.length) (h : (l.take k).Nodup) (hn : l[k] ∉ l.take k) : (l.take (k + 1)).Nodup := by
 rw [dO hk]
 exact bP.2 ⟨h, t11, λ a ha b hb e => by rw [aU] at hb; subst hb e; exact hn ha⟩
theorem aLv {l : List Int} {k : Nat} (hk : k < l.length) (hn : l[k] ∈ l.take k) : ¬ l.Nodup := by
 intro h
 have h1 : l = l.take k ++ l[k] :: l.drop (k + 1) := by rw [<- cB hk, bT]
 rw [h1] at h
 exact (bP.1 h).2.2 _ hn _ dG rfl
def aV (p : PgT) : List PairT := (List.range p.keys.length).map λ k => ⟨p.keys.getD k 0, p.vals.getD k 0⟩
def eO (f : Int -> Str) (keys : List Int) : Nat -> List Int -> Str
 | _, [] => []
 | k, x :: l => (if k = 0 then [] else 32 :: (bS (keys.getD (k - 1) 0) ++ [32])) ++ (f x ++ eO f keys (k + 1) l)
def cW (T : TrT) : Nat -> Int -> Str
 | 0, _ => []
 | d + 1, i => if (gP T i).kids = [] then iH (aV (gP T i)) else 40 :: (eO (cW T d) (gP T i).keys 0 (gP T i).kids ++ [41])
theorem aAo {f : Int -> Str} {ks : List Int} : ∀ {k : Nat} {a b : List Int}, eO f ks k (a ++ b) = eO f ks k a ++ eO f ks (k + a.length) b
 | k, [], b => by simp [eO]
 | k, x :: a, b => by
  simp only [List.cons_append, eO, aG]
  rw [aAo, show k + 1 + a.length = k + (a.length + 1) by omega]; simp
theorem yG {f : Int -> Str} {ks l : List Int} {k : Nat} (h : k < l.length) : eO f ks 0 (l.take (k + 1)) = eO f ks 0 (l.take k) ++ ((if k = 0 then [] else 32 :: (bS (ks.getD (k - 1) 0) ++ [32])) ++ f l[k]) := by
 rw [dO h, aAo, jP, aB, dX t1]
 simp [eO]
end Go.Px
end
section
namespace Go.Px
theorem rL {l : List Int} (h : bR l = true) {k : Nat} (hk : k < l.length) : 0 <= l[k] /\ l[k] <= 99 := by
 have h1 := (bQ.1 h).1 _ (aC hk)
 first | exact h1 | exact isKey_iff.1 h1
theorem tM {f : Int -> List Int} {l : List Int} {k : Nat} (h : k < l.length) : ((l.take (k + 1)).flatMap f).length <= (l.flatMap f).length := by
 conv => rhs; rw [<- bT (k + 1) l, bD, aA]
 omega
section
variable {root i : Int} {p : PgT} {low high : Int}
theorem fr_n1 (h : ¬ p.keys.length <= 4) : frL root i p = false := by simp [frL, h]
theorem fr_n2 (h : bR p.keys = false) : frL root i p = false := by simp [frL, h]
theorem fr_n3 (h : i ≠ root) (h2 : ¬ 2 <= p.keys.length) : frL root i p = false := by simp [frL, h, h2]
theorem fr_y (h1 : p.keys.length <= 4) (h2 : bR p.keys = true) (h3 : i = root \/ 2 <= p.keys.length) :
  frL root i p = (if p.kids = [] then decide (p.vals.length = p.keys.length) && p.vals.all fA
   else decide (p.vals = []) && decide (1 <= p.keys.length) && decide (p.kids.length = p.keys.length + 1)) := by
 rcases h3 with h3 | h3 <;> simp [frL, h1, h2, h3]
theorem fr_yi (h1 : p.keys.length <= 4) (h2 : bR p.keys = true) (h3 : i = root \/ 2 <= p.keys.length) (h4 : 0 < p.kids.length) :
  frL root i p = (decide (p.vals.length = 0) && decide (1 <= p.keys.length) && decide (p.kids.length = p.keys.length + 1)) := by
 rw [fr_y h1 h2 h3, if_neg (by intro e; rw [e] at h4; simp at h4)]
 congr 2; exact decide_eq_decide.2 List.length_eq_zero_iff.symm
theorem fr_yl (h1 : p.keys.length <= 4) (h2 : bR p.keys = true) (h3 : i = root \/ 2 <= p.keys.length) (h4 : p.kids.length = 0) :
  frL root i p = (decide (p.vals.length = p.keys.length) && p.vals.all fA) := by
 rw [fr_y h1 h2 h3, if_pos (aP h4)]
theorem fr_yi' {vl kl cl : Nat} (h1 : p.keys.length <= 4) (h2 : bR p.keys = true) (h3 : i = root \/ 2 <= p.keys.length) (h4 : 0 < p.kids.length) (e1 : p.vals.length = vl) (e2 : p.keys.length = kl) (e3 : p.kids.length = cl) :
  frL root i p = (decide (vl = 0) && decide (1 <= kl) && decide (cl = kl + 1)) := by subst e1 e2 e3; exact fr_yi h1 h2 h3 h4
theorem fr_yl' {V : List Int} {kl : Nat} (h1 : p.keys.length <= 4) (h2 : bR p.keys = true) (h3 : i = root \/ 2 <= p.keys.length) (h4 : p.kids.length = 0) (e1 : p.vals = V) (e2 : p.keys.length = kl) :
  frL root i p = (decide (V.length = kl) && V.all fA) := by subst e1 e2; exact fr_yl h1 h2 h3 h4
theorem aJg {k : Nat} (hk : k < p.keys.length) (h : p.keys[k] < low \/ p.keys[k] >= high) : lE p low high = false := by
 unfold lE
 rw [List.all_eq_false]
 exact ⟨_, aC hk, by simp; omega⟩
theorem xJ {q : Int -> Bool} {l : List Int} {k : Nat} (hk : k < l.length) (h : (l.take k).all q = true) (h1 : q l[k] = true) : (l.take (k + 1)).all q = true := by
 rw [dO hk, List.all_append, h]; simp [h1]
theorem xH {q : Int -> Bool} {l : List Int} {k : Nat} (hk : l.length <= k) (h : (l.take k).all q = true) : l.all q = true := by rwa [aE hk] at h
theorem aMv {q : Int -> Bool} {l : List Int} {k : Nat} (hk : k < l.length) (h1 : q l[k] = false) : l.all q = false := by
 rw [List.all_eq_false]; exact ⟨_, aC hk, by simp [h1]⟩
theorem aGt {o : Option (List Int × Int)} {q : List Int × Int} (h : o.isSome = true) (hq : ∀ q', o = some q' -> q' = q) : o = some q := by
 cases o with
 | none => cases h
 | some q' => rw [hq q' rfl]
theorem aGs {o : Option (List Int × Int)} (h : o.isSome = false) : o = none := by cases o with | none => rfl | some q => cases h
theorem zJ {T : TrT} (h : ¬ (1 <= T.pages.length /\ T.pages.length <= 16)) : aN T = false := by
 cases hv : aN T with
 | false => rfl
 | true => exact absurd (lJ.1 hv).1 h
theorem valid_f {T : TrT} {s : List Int} {l : Int} (h1 : 1 <= T.pages.length /\ T.pages.length <= 16) (h : kD T 3 T.root 0 100 [] (-1) = some (s, l)) {i : Nat} (hi : i < T.pages.length) (hn : (i : Int) ∉ s) : aN T = false := by
 cases hv : aN T with
 | false => rfl
 | true => exact absurd ((aBj h1 h).1 hv i hi) hn
variable {T : TrT} {d : Nat} {hi : Int}
theorem fit_n1 (h : bR p.keys = false) : pG T d i low hi p = false := by simp [pG, h]
theorem fit_n2 (h : ¬ p.keys.length <= 4) : pG T d i low hi p = false := by simp [pG, h]
theorem fit_n3 (h : eH p.keys low hi = false) : pG T d i low hi p = false := by simp [pG, h]
theorem fit_n4 (h : i ≠ T.root) (h2 : ¬ 2 <= p.keys.length) : pG T d i low hi p = false := by simp [pG, h, h2]
theorem fit_y0 (h1 : bR p.keys = true) (h2 : p.keys.length <= 4) (h3 : eH p.keys low hi = true) (h4 : i = T.root \/ 2 <= p.keys.length) :
  pG T 0 i low hi p = (decide (p.kids.length = 0) && decide (p.vals.length = p.keys.length) && eH p.vals (-1000) 1000) := by
 have e : decide (p.kids = []) = decide (p.kids.length = 0) := decide_eq_decide.2 List.length_eq_zero_iff.symm
 rcases h4 with h4 | h4 <;> simp [pG, h1, h2, h3, h4, e]
theorem fit_y0' {V : List Int} {kl cl : Nat} (h1 : bR p.keys = true) (h2 : p.keys.length <= 4) (h3 : eH p.keys low hi = true) (h4 : i = T.root \/ 2 <= p.keys.length) (e1 : p.vals = V) (e2 : p.keys.length = kl) (e3 : p.kids.length = cl) :
  pG T 0 i low hi p = (decide (cl = 0) && decide (V.length = kl) && eH V (-1000) 1000) := by subst e1 e2 e3; exact fit_y0 h1 h2 h3 h4
theorem qA {h0 : d ≠ 0} (h : p.keys.length = 0 \/ p.vals.length ≠ 0 \/ p.kids.length ≠ p.keys.length + 1 \/ eH p.kids 0 ((T.pages.length : Int) - 1) = false) : pG T d i low hi p = false := by
 rcases h with h | h | h | h
 ·have := aP h; simp [pG, h0, this]
 ·have : p.vals ≠ [] := λ e => h (by rw [e]; rfl)
  simp [pG, h0, this]
 ·simp [pG, h0, h]
 simp [pG, h0, h]
theorem aNo (h0 : d ≠ 0) (h1 : bR p.keys = true) (h2 : p.keys.length <= 4) (h3 : eH p.keys low hi = true) (h4 : i = T.root \/ 2 <= p.keys.length) (h5 : p.keys.length ≠ 0) (h6 : p.vals.length = 0) (h7 : p.kids.length = p.keys.length + 1) (h8 : eH p.kids 0 ((T.pages.length : Int) - 1) = true) :
  pG T d i low hi p = (List.range p.kids.length).all λ k => kW T d (p.kids.getD k 0) (dQ p low k) (cH p (hi + 1) k - 1) := by
 have e5 : p.keys ≠ [] := λ e => h5 (by rw [e]; rfl)
 have e6 := aP h6
 rcases h4 with h4 | h4 <;> simp [pG, h0, h1, h2, h3, h4, e5, e6, h7, h8]
end
end Go.Px
end
section
namespace Go.Px
open Go.RowKit
section
variable {P : Program} {w0 w : World} {L : List FE} {nm : String} {k : IntKind} {zs : List Int}
theorem sO (h : Lib.TabIs P w0 nm k zs) (hM : iS w0 w [] L) : Lib.TabIs P w nm k zs := by
 unfold Lib.TabIs World.var? at *
 cases hg : P.globalNamed nm with
 | none => rw [hg] at h; simp at h
 | some g =>
  rw [hg] at h
  simp only [Option.bind_some] at h ⊢
  have hlt : g < w0.heap.size := by
   rcases fB g w0.heap.size with h1 | h1
   ·exact h1
   rw [Array.getElem?_eq_none h1] at h; simp at h
  rw [hM.block g hlt t11]; exact h
theorem mem_grow {n : Nat} {os : Array Obj} : Mem w (Sort.grow (w.drewN n) os) [] [] :=
 ⟨rfl, rfl, rfl, by simp [Sort.grow, World.drewN], λ j hj _ => by simp [Sort.grow, World.drewN, Array.getElem?_append_left hj], t11, t11, t11⟩
end
section
variable {P : Program} {σ : Sig} {w w0 : World} {dst : Option Tmp} {T U T' e : TypeId} {pos : String} {after : Array Edge} {g : Option (Nat × Bool)} {x y : Operand}
theorem Ru.peqN {a : Option Addr} (ht : P.underlying T = some (.pointer e)) (hx : ev σ x = .pointer a) (hy : ev σ y = .pointer none) : Ru P σ ⟨dst, .binOp .eql T x y U, T', pos, after, g⟩ w (.bool a.isNone) := by
 have h : ∀ d : Nat, (Op.equalIn (d + 1) T (.pointer a) (.pointer none)).run P w = .ok a.isNone w := λ d => by
  cases a <;> simp [Op.equalIn, run_underlying ht]
 simp [Ru, execOp, hx, hy, eqGuard, binOp, Op.equal, Op.maxDepth, h 9999]
theorem Ru.pneS {a : Addr} {zs : List Value} {bytes : Nat} {agg : Bool} (ht : P.underlying T = some (.pointer e)) (he : ElT P e zs bytes agg) (hx : ev σ x = .pointer (some a)) (hy : ev σ y = .pointer (some a)) : Ru P σ ⟨dst, .binOp .neq T x y U, T', pos, after, g⟩ w (.bool false) := by
 obtain ⟨j, _, hj, _⟩ := he.info
 have h := Lib.run_neq_ptr_same (w := w) a ht hj
 simp [Ru, execOp, hx, hy, eqGuard, h]
theorem Ru.toUns {b : Nat} {zs : List Value} {bytes : Nat} {agg : Bool} {t : TypeId} {l : List Value} (hs : P.underlying T = some (.pointer t)) (hd : P.underlying U = some .unsafePointer) (he : ElT P t zs bytes agg) (hz : zs.length ≠ 0) (hb : Blk w b e l) (hl : 0 < l.length) (hx : ev σ x = .pointer (ofs (bl b) 0)) :
  Ru P σ ⟨dst, .convert T U x, T', pos, after, g⟩ w (.pointer (ofs (bl b) 0)) := by
 have hsh : w.shape? b = some (e, l.length) := by unfold Blk at hb; simp [World.shape?, hb]
 obtain ⟨j, _, hj, _, _, hjs, _⟩ := he.info
 have h := Lib.run_to_unsafe (P := P) w (src := T) (dst := U) ⟨b, 0, none⟩ hs hd hj (by rw [hjs]; exact hz) hsh hl
 have hx' : ev σ x = .pointer (some ⟨b, 0, none⟩) := hx
 simp [Ru, execOp, hx', h, ofs, bl, Addr.add]
theorem Ru.frUns {b : Nat} {zs : List Value} {bytes : Nat} {agg : Bool} {t : TypeId} {l : List Value} (hs : P.underlying T = some .unsafePointer) (hd : P.underlying U = some (.pointer t)) (he : ElT P t zs bytes agg) (hb : Blk w b e l) (hlies : liesAt P P.depth e (l.length / P.cellsOf e) 0 t 1 = true) (hx : ev σ x = .pointer (ofs (bl b) 0)) :
  Ru P σ ⟨dst, .convert T U x, T', pos, after, g⟩ w (.pointer (ofs (bl b) 0)) := by
 have hsh : w.shape? b = some (e, l.length) := by unfold Blk at hb; simp [World.shape?, hb]
 obtain ⟨j, _, hj, _⟩ := he.info
 have h := Lib.run_from_unsafe (P := P) w (src := T) (dst := U) ⟨b, 0, none⟩ hs hd hj hsh hlies
 have hx' : ev σ x = .pointer (some ⟨b, 0, none⟩) := hx
 simp [Ru, execOp, hx', h, ofs, bl, Addr.add]
theorem Ru.noEsc {f : FuncId} {fn : Func} {ts} {v : Value} (hf : P.funcs[f]? = some fn) (hn : (fn.name == "runtime.NumGoroutine") = false) (hb : fn.body.isNone = true) (hq : Extern.findNext fn = none) (he : Extern.find fn = some Extern.AbiNoEscape.same) (hx : ev σ x = v) :
  Ru P σ ⟨dst, .call ⟨.value (.func f), #[x], ts⟩, T', pos, after, g⟩ w v := by
 have h := run_callFunc_extern hf hn hb hq he #[v] w
 rw [Lib.run_noEscape] at h
 simp only [Result.andThen] at h
 have e1 : ev σ (.func f) = .func (.func f) #[] #[] := rfl
 simp [Ru, execOp, resolve, e1, Deferred.ofValue, invoke, hx, h]
end
end Go.Px
namespace Go.Px
open Go.RowKit
section
variable {P : Program} {σ : Sig} {w w0 : World} {T' e : TypeId} {pos : String} {after : Array Edge} {g : Option (Nat × Bool)} {x y : Operand} {n : Nat} {Q : Post} {ops rest : List Oper} {R : List (Option Nat)} {M : List (List FE)}
theorem aIl (l : Str) : Lib.strCells ⟨l.toArray⟩ = l.map byteV := by simp [Lib.strCells, byteV]
theorem uV (l : Str) : (⟨l.toArray⟩ : ByteArray).size = l.length := by simp [ByteArray.size]
theorem O.mappendS {d : Nat} {t u : TypeId} {A : Option Addr} {m c : Nat} {xs : List Value} {l : Str} {m1 : Nat} {xs1 : List Value} {M' : Option Addr -> Nat -> List (List FE)} (i : Nat) (hM : Mem w0 w R M) (hi : M[i]? = some [⟨.slice A m c, e, 1, m, xs⟩]) (hg : gok ops σ g = true) (ht : P.underlying t = some (.slice e)) (hu : P.underlying u = some .string)
  (hI : (P.info? e).map (λ i => (i.zero, i.size, i.bytes)) = some (some (.int .u8 0), 1, 1)) (hx : ev σ x = .slice A m c) (hy : ev σ y = S l) (hd : Nat.blt d n = true)
  (hn : m + l.length <= 140737488355328) (hm1 : m + l.length = m1) (hxs : xs ++ l.map byteV = xs1) (hM' : ∀ A' c', M.set i [⟨.slice A' m1 c', e, 1, m1, xs1⟩] = M' A' c')
  (h : ∀ w' A' c', m1 <= c' -> Mem w0 w' R (M' A' c') -> O P n ops rest Q (upd σ d (.slice A' m1 c')) w') :
  O P n ops (⟨some d, .call ⟨.builtin .append, #[x, y], #[t, u]⟩, T', pos, after, g⟩ :: rest) Q σ w := by
 subst hm1 hxs
 obtain ⟨ii, hii, hI2⟩ := Option.map_eq_some_iff.1 hI
 simp only [Prod.mk.injEq] at hI2
 obtain ⟨hz', hs, hb⟩ := hI2
 have ho := hM.get hi (j := 0) rfl
 have hsz := uV l
 have hcs := aIl l
 obtain ⟨v', w', h1, h2, h3, h4⟩ := Lib.run_append_own_string (P := P) w 0 t u T' e ii ht hu hii hz' hs hb (.slice A m c) m xs ho ⟨l.toArray⟩ (by rw [hsz]; simp only [maxLen]; omega) (by rw [hsz]; exact hn) (bI _)
 rw [hsz, hcs] at h2
 have h5 : v'.ownBlock = (Value.slice A m c).ownBlock \/ v'.ownBlock = some w.heap.size := by
  obtain ⟨_, ⟨hv, hm0⟩ | ⟨g', cap, cur, hv, hbg, hgg, hnc, hcm, hcs', htake⟩⟩ := ho
  ·cases hv
   by_cases h0 : l.length = 0
   ·left; rw [h4.2 ⟨rfl, by rw [hsz]; exact h0⟩]
   right
   have hr := run_append_nil_string (P := P) w t u T' e ii (.int .u8 0) ht hu hii hz' ⟨l.toArray⟩ (by rw [hsz]; omega) (by rw [hsz]; omega) (by rw [hb, hsz]; omega)
   have := h1.symm.trans hr
   cases this; rfl
  cases hv
  by_cases hroom : m + l.length <= c
  ·left
   have hr := Lib.run_append_room_string (P := P) w t u T' e ii ht hu hii hs g' m c cur hgg ⟨l.toArray⟩ (by rw [hsz]; exact hroom) (by rw [hsz]; simp at hcs'; omega)
   have := h1.symm.trans hr
   cases this; rfl
  right
  have holds : ∀ j u, xs[j]? = some u -> w.cell? ((⟨g', 0, none⟩ : Addr).add j) = some u := (World.ownsRow.cells (w := w) (base := 0) (e := e) (size := 1) (n := m) (xs := xs) (g := g') (hM.get hi (j := 0) rfl) rfl)
  have hxl : xs.length = m * 1 := (hM.get hi (j := 0) rfl).1
  have hr := Lib.run_append_grow_string (P := P) w t u T' e ii (.int .u8 0) ht hu hii hz' ⟨g', 0, none⟩ m c xs (by rw [hs]; simpa using hxl) holds ⟨l.toArray⟩ (by rw [hsz]; omega) (by rw [hsz]; omega) (by rw [hb, hsz]; exact growslice_fits t1 t1)
  have := h1.symm.trans hr
  cases this; rfl
 refine O.valW hg (v := v') (w' := w') ?_ hd ?_
 ·simp [Rw, execOp, resolve, invoke, builtin, hx, hy, S, h1]
 obtain ⟨A', c', rfl, hc, _, _, _, _⟩ := nH h2
 exact h w' A' c' hc (hM' A' c' ▸ Mem.upd hM hi (j := 0) rfl h3 h2 (h5.elim .inl (λ h => .inr (.inl h))))
end
end Go.Px
end
section
namespace Go.Px
open Go.RowKit
section
variable {P : Program} {w0 w : World} {L : List FE} {nm : String} {k : IntKind} {zs : List Int} {R : List (Option Nat)} {M : List (List FE)}
def kM (P : Program) (nm : String) (R : List (Option Nat)) : Prop := ∀ g, P.globalNamed nm = some g -> some g ∉ R
theorem uK (h : Lib.TabIs P w0 nm k zs) (hM : iS w0 w R L) (ho : kM P nm R) : Lib.TabIs P w nm k zs := by
 unfold Lib.TabIs World.var? at *
 cases hg : P.globalNamed nm with
 | none => rw [hg] at h; simp at h
 | some g =>
  rw [hg] at h
  simp only [Option.bind_some] at h ⊢
  have hlt : g < w0.heap.size := by
   rcases fB g w0.heap.size with h1 | h1
   ·exact h1
   rw [Array.getElem?_eq_none h1] at h; simp at h
  rw [hM.block g hlt (ho g hg)]; exact h
theorem kM.nil : kM P nm [] := λ _ _ => by simp
theorem kM.cons {r : Option Nat} (h : kM P nm [r]) (h2 : kM P nm R) : kM P nm (r :: R) := λ g hg => by
 have a := h g hg
 have b := h2 g hg
 simp only [aU] at a
 simp [a, b]
theorem kM.old (h : Lib.TabIs P w0 nm k zs) (hM : Mem w0 w [] M) (i : Nat) {m sz : Nat} {v' : Value} {e' : TypeId} {xs : List Value} {g : List FE} (hi : M[i]? = some (⟨v', e', sz, m, xs⟩ :: g)) : kM P nm [v'.ownBlock] := λ j hj hm => by
 have hlt : j < w0.heap.size := by
  unfold Lib.TabIs World.var? at h
  rw [hj] at h
  simp only [Option.bind_some] at h
  rcases fB j w0.heap.size with h1 | h1
  ·exact h1
  rw [Array.getElem?_eq_none h1] at h; simp at h
 have := hM.born _ (dM.2 ⟨_, cE hi, dG⟩) j (aU.1 hm).symm
 simp at this
 omega
theorem kM.own (h : Lib.TabIs P w0 nm k zs) (hM : Mem w0 w R M) (ho : kM P nm R) (i : Nat) {m sz : Nat} {v' : Value} {e' : TypeId} {xs : List Value} {g : List FE} (hi : M[i]? = some (⟨v', e', sz, m, xs⟩ :: g)) : kM P nm [v'.ownBlock] := λ j hj hm => by
 have hlt : j < w0.heap.size := by
  unfold Lib.TabIs World.var? at h
  rw [hj] at h
  simp only [Option.bind_some] at h
  rcases fB j w0.heap.size with h1 | h1
  ·exact h1
  rw [Array.getElem?_eq_none h1] at h; simp at h
 rcases hM.born _ (dM.2 ⟨_, cE hi, dG⟩) j (aU.1 hm).symm with h1 | h1
 ·omega
 exact ho j hj h1
theorem Off.own {A : Option Addr} {l : List Value} (h : Mem w0 w R M) (hA : Rd w0 A l) (ho : Off A l R) (i : Nat) {m sz : Nat} {v' : Value} {e : TypeId} {xs : List Value} {g : List FE} (hi : M[i]? = some (⟨v', e, sz, m, xs⟩ :: g)) : Off A l [v'.ownBlock] := by
 rcases hA with h0 | ⟨b, o, rfl, hb, _⟩
 ·exact .inl h0
 rcases ho with ho | ho
 ·exact .inl ho
 refine .inr (λ a ha hm => ?_)
 cases ha
 rcases h.born _ (dM.2 ⟨_, cE hi, dG⟩) b (aU.1 hm).symm with h1 | h1
 ·omega
 exact ho _ rfl h1
theorem TrO.own {T : bN} (h : Mem w0 w R M) (hT : TrN w0 T) (ho : TrO T R) (i : Nat) {m sz : Nat} {v' : Value} {e' : TypeId} {xs : List Value} {g : List FE} (hi : M[i]? = some (⟨v', e', sz, m, xs⟩ :: g)) : TrO T [v'.ownBlock] :=
 ⟨Off.own h hT.1 ho.1 i hi, λ x hx => ⟨Off.own h (hT.2 x hx).1 (ho.2 x hx).1 i hi, Off.own h (hT.2 x hx).2.1 (ho.2 x hx).2.1 i hi, Off.own h (hT.2 x hx).2.2 (ho.2 x hx).2.2 i hi⟩⟩
end
theorem eL {p : PgT} : (aV p).length = p.keys.length := by simp [aV]
@[simp] theorem dF {x : PgL} : (aV x.t).length = x.k.l.length := eL
theorem uE {p : PgT} {k : Nat} (h : k < p.keys.length) (h2 : k < p.vals.length) : (aV p)[k]'(by rw [eL]; exact h) = ⟨p.keys[k], p.vals[k]⟩ := by
 simp only [aV, cI, gX]
 rw [aD, aL h, aD, aL h2]; rfl
theorem aFq {x : PgL} {k : Nat} (h : k < x.k.l.length) (h2 : k < x.v.l.length) : (aV x.t).take k ++ [⟨x.k.l[k], x.v.l[k]⟩] = (aV x.t).take (k + 1) := by
 rw [dO (by rw [eL]; exact h), uE h h2]; rfl
theorem prs_set {x : PgL} {k : Nat} {z : PairT} (h : k < x.k.l.length) (h2 : k < x.v.l.length) : ((aV x.t).take k ++ List.replicate (x.k.l.length - k) z).set k ⟨x.k.l[k], x.v.l[k]⟩ = (aV x.t).take (k + 1) ++ List.replicate (x.k.l.length - (k + 1)) z := by
 have hl : (aV x.t).length = x.k.l.length := eL
 have := aLb (l := aV x.t) (z := z) (k := k) (by rw [hl]; exact h)
 rw [uE h h2, hl] at this
 exact this
theorem yX {x : PgL} {k : Nat} (h : x.k.l.length <= k) : (aV x.t).take k = aV x.t := aE (by rw [eL]; exact h)
theorem iZ {p : PgT} : bG (aV p) = p.keys := by
 apply List.ext_getElem?
 intro i
 simp only [bG, aV, nR, List.getElem?_map]
 by_cases h : i < p.keys.length
 ·rw [List.getElem?_range h, aL h]
  simp only [lC, Function.comp]
  rw [bF h]
 rw [List.getElem?_eq_none (by simpa using h), List.getElem?_eq_none t1]; rfl
theorem gI {T : TrT} {i : Int} (h : frB T i = true) (hk : (gP T i).kids = []) : bW (aV (gP T i)) = true := by
 have h1 := iA h
 have h2 := kI h
 have h3 := jS h hk
 refine eM.2 ⟨by rw [eL]; omega, λ p hp => ?_, by rw [iZ]; exact h2⟩
 obtain ⟨k, hk2, rfl⟩ := aJ hp
 rw [eL] at hk2
 rw [uE hk2 t1]
 exact oV.1 (dV.1 h3.2 _ (aC _))
theorem vH {f : Int -> Str} {ks : List Int} {B : Nat} (hk : ∀ x ∈ ks, 0 <= x /\ x <= 99) : ∀ {l : List Int} {k : Nat}, (∀ x ∈ l, (f x).length <= B) -> (eO f ks k l).length <= l.length * (B + 23)
 | [], _, _ => by simp [eO]
 | x :: l, k, h => by
  have h1 := h x t11
  have h2 := vH hk (l := l) (k := k + 1) λ y hy => h y (by simp [hy])
  have h3 : (bS (ks.getD (k - 1) 0)).length <= 21 := by
   have : 0 <= ks.getD (k - 1) 0 /\ ks.getD (k - 1) 0 <= 99 := by
    rw [aD]
    cases hq : ks[k - 1]? with
    | none => simp
    | some y => exact hk y (cE hq)
   exact cL t1 t1
  have h4 : (if k = 0 then ([] : Str) else 32 :: (bS (ks.getD (k - 1) 0) ++ [32])).length <= 23 := by
   split
   ·simp
   simp only [aG, aA, bA]; omega
  simp only [eO, aA, aG, bM, Nat.one_mul] at h2 ⊢
  omega
theorem rJ {T : TrT} : ∀ {d : Nat} {i low high : Int}, okB T d i low high = true -> (cW T d i).length <= 200 * 8 ^ d
 | 0, _, _, _, h => by simp [okB] at h
 | d + 1, i, low, high, h => by
  have h1 := dL.1 h
  have hp : 1 <= 8 ^ d := Nat.pow_pos t1
  simp only [cW]
  rcases h1.2.2.2 with ⟨_, h2⟩ | ⟨h0, h2, h3⟩
  ·rw [if_pos h2]
   have hv := gI h1.2.1 h2
   have := oR (l := aV (gP T i)) _ (lK hv) (dD _)
   rw [List.take_length, eL] at this
   have := iA h1.2.1
   rw [kU]; omega
  rw [if_neg h2]
  have hkl := lQ h1.2.1 h2
  have hl := iA h1.2.1
  have h4 := vH (f := cW T d) (ks := (gP T i).keys) (B := 200 * 8 ^ d) (bQ.1 (kI h1.2.1)).1 (l := (gP T i).kids) (k := 0) (λ x hx => by
   obtain ⟨k, hk, rfl⟩ := aJ hx
   exact rJ (iC h hk))
  have h5 : (gP T i).kids.length * (200 * 8 ^ d + 23) <= 5 * (200 * 8 ^ d + 23) := bK _ t1
  simp only [aG, aA, bA]
  rw [kU]; omega
theorem aAp {T : TrT} {d : Nat} {i low high : Int} (h : okB T (d + 1) i low high = true) {k j : Nat} (hk : k <= j) : (eO (cW T d) (gP T i).keys 0 ((gP T i).kids.take k)).length <= j * (200 * 8 ^ d + 23) := by
 have h1 := dL.1 h
 have h4 := vH (f := cW T d) (ks := (gP T i).keys) (B := 200 * 8 ^ d) (bQ.1 (kI h1.2.1)).1 (l := (gP T i).kids.take k) (k := 0) (λ x hx => by
  obtain ⟨k, hk, rfl⟩ := aJ (cN hx)
  exact rJ (iC h hk))
 have h5 : ((gP T i).kids.take k).length * (200 * 8 ^ d + 23) <= j * (200 * 8 ^ d + 23) := bK _ (by rw [aB]; omega)
 omega
theorem pow3 {d : Nat} (h : d <= 3) : 8 ^ d <= 512 := by
 have : 8 ^ d <= 8 ^ 3 := Nat.pow_le_pow_right t1 h
 omega
theorem eF {T : TrT} (h : aN T = true) : bH T <= 3 /\ okB T (bH T) T.root 0 100 = true /\ (aS T (bH T) T.root).Nodup /\ (aS T (bH T) T.root).length = T.pages.length := by
 rw [aBi] at h
 simp only [aW, decide_eq_true_eq] at h
 obtain ⟨⟨⟨⟨⟨⟨_, _⟩, h2⟩, h3⟩, h4⟩, h5⟩, h6⟩ := h
 exact ⟨h3, (vC (d := bH T) (low := 0) (hi := 99) h2).symm.trans h4, h5, h6⟩
theorem aPi {T : TrT} {x : Int} : ∀ {d : Nat} {i low high : Int}, okB T d i low high = true -> x ∈ aS T d i -> ∃ e lo hi, e + 1 <= d /\ okB T (e + 1) x lo hi = true
 | 0, _, _, _, h, _ => by simp [okB] at h
 | d + 1, i, low, high, h, hx => by
  simp only [aS] at hx
  rcases bV.1 hx with rfl | hx
  ·exact ⟨d, low, high, t1, h⟩
  obtain ⟨y, hy, hx⟩ := aZ.1 hx
  obtain ⟨k, hk, rfl⟩ := aJ hy
  obtain ⟨e, lo, hi, h1, h2⟩ := aPi (iC h hk) hx
  exact ⟨e, lo, hi, t1, h2⟩
theorem sQ {T : TrT} (h : aN T = true) {i : Int} (hi : inT T i = true) : ∃ e lo hi, e + 1 <= 3 /\ okB T (e + 1) i lo hi = true := by
 obtain ⟨h1, h2, h3, h4⟩ := eF h
 have hc := (aEa h3 (λ x hx => aX.1 (vR h2 x hx))).2 h4
 have hi2 := aX.1 hi
 have := hc i.toNat t1
 rw [show ((i.toNat : Nat) : Int) = i by omega] at this
 obtain ⟨e, lo, hi, a, b⟩ := aPi h2 this
 exact ⟨e, lo, hi, t1, b⟩
theorem fN {T : TrT} (h : aN T = true) : 1 <= T.pages.length /\ T.pages.length <= 16 := (lJ.1 h).1
def frX (T : TrT) : Str := if aN T then cW T (bH T) T.root else []
theorem aNv {T : TrT} (h : aN T = false) : frX T = [] := by simp [frX, h]
theorem aCc {T : TrT} (h : aN T = true) : frX T = cW T (bH T) T.root := by simp [frX, h]
theorem yQ {T : TrT} {d : Nat} {i low high : Int} (h : okB T (d + 1) i low high = true) : ∀ x ∈ (gP T i).kids, 0 <= x /\ x < (T.pages.length : Int) := λ x hx => by
 obtain ⟨k, hk, rfl⟩ := aJ hx
 exact aX.1 (iX (iC h hk))
theorem aDg {L l : List PgL} {k : Nat} (h : tsG L = (tsG l).take k) (hk : k <= l.length) : L.length = k := by
 have := congrArg List.length h
 simp at this; omega
theorem pA {L l : List PgL} {k : Nat} {X : PgL} (h : tsG L = (tsG l).take k) (hk : k < l.length) (hX : X.t = l[k].t) : tsG (L ++ [X]) = (tsG l).take (k + 1) := by
 rw [dO (by simpa using hk), <- h]; simp [tsG, hX]
theorem nM {L l : List PgL} (h : tsG L = tsG l) : L.length = l.length := by
 have := congrArg List.length h; simpa using this
theorem aEj {L : List PgL} {k n : Nat} {z X : PgL} (h : L.length = k) (hk : k < n) : (L ++ List.replicate (n - k) z).set k X = L ++ [X] ++ List.replicate (n - (k + 1)) z := by
 rw [lM _ _ t1, h, nS, show n - k = (n - (k + 1)) + 1 by omega, kF, List.set_cons_zero]
 simp
end Go.Px
end
section
namespace Go.Px
open Go.RowKit
section
variable {w0 w : World} {R : List (Option Nat)} {M : List (List FE)} {L L2 : List FE} {l : List PgL} {e : TypeId} {x : PgL}
theorem iS.left (h : iS w0 w R (L ++ L2)) : iS w0 w R L :=
 ⟨h.os, h.tape, h.output, h.size, h.block, λ y hy => h.own y (dZ _ hy), (cO.1 h.apart).1, λ y hy => h.born y (dZ _ hy)⟩
theorem kL {α : Type} {L : List α} {j : Nat} (hj : j < L.length) : L = L.take j ++ L[j] :: L.drop (j + 1) := by
 rw [<- cB hj, bT]
theorem Mem.gset {k c v : SlL} (j : Nat) (h : Mem w0 w R (l.flatMap (pgF e) :: [slF e k] :: [slF e c] :: [slF e v] :: M)) : Mem w0 w R ((l.set j (⟨k, c, v⟩ : PgL)).flatMap (pgF e) :: M) := by
 by_cases hj : j < l.length
 ·have h2 : iS w0 w R (((l.set j (⟨k, c, v⟩ : PgL)).flatMap (pgF e) ++ M.flatten) ++ pgF e l[j]) := by
   have p : ((l.flatMap (pgF e) :: [slF e k] :: [slF e c] :: [slF e v] :: M).flatten).Perm (((l.set j (⟨k, c, v⟩ : PgL)).flatMap (pgF e) ++ M.flatten) ++ pgF e l[j]) := by
    have e1 : l.flatMap (pgF e) = (l.take j).flatMap (pgF e) ++ (pgF e l[j] ++ (l.drop (j + 1)).flatMap (pgF e)) := by
     conv => lhs; rw [kL hj]
     rw [bD, aK]
    have e2 : (l.set j (⟨k, c, v⟩ : PgL)).flatMap (pgF e) = (l.take j).flatMap (pgF e) ++ ([slF e k, slF e c, slF e v] ++ (l.drop (j + 1)).flatMap (pgF e)) := by
     rw [bY, if_pos hj, bD, aK]; rfl
    have e3 : (l.flatMap (pgF e) :: [slF e k] :: [slF e c] :: [slF e v] :: M).flatten = l.flatMap (pgF e) ++ ([slF e k, slF e c, slF e v] ++ M.flatten) := by simp
    rw [e3, e1, e2]
    generalize (l.take j).flatMap (pgF e) = a
    generalize (l.drop (j + 1)).flatMap (pgF e) = b
    generalize pgF e l[j] = q
    generalize [slF e k, slF e c, slF e v] = n
    generalize M.flatten = m
    simp only [bO]
    refine List.Perm.append_left a ?_
    have s1 : (q ++ (b ++ (n ++ m))).Perm ((b ++ (n ++ m)) ++ q) := jC
    refine s1.trans ?_
    rw [<- bO n b, <- bO (n ++ b), <- bO b n]
    exact List.Perm.append_right q (List.Perm.append_right m jC)
   exact Mem.permg (M' := [((l.set j (⟨k, c, v⟩ : PgL)).flatMap (pgF e) ++ M.flatten) ++ pgF e l[j]]) h (by simpa using p) |> λ h => by simpa [Mem] using h
  have h3 := h2.left
  simpa [Mem] using h3
 rw [List.set_eq_of_length_le t1]
 have : iS w0 w R ((l.flatMap (pgF e) :: M).flatten ++ [slF e k, slF e c, slF e v]) := by
  have p : ((l.flatMap (pgF e) :: [slF e k] :: [slF e c] :: [slF e v] :: M).flatten).Perm ((l.flatMap (pgF e) :: M).flatten ++ [slF e k, slF e c, slF e v]) := by
   have e3 : (l.flatMap (pgF e) :: [slF e k] :: [slF e c] :: [slF e v] :: M).flatten = l.flatMap (pgF e) ++ ([slF e k, slF e c, slF e v] ++ M.flatten) := by simp
   rw [e3, cZ, bO]
   exact List.Perm.append_left _ jC
  exact Mem.permg (M' := [(l.flatMap (pgF e) :: M).flatten ++ [slF e k, slF e c, slF e v]]) h (by simpa using p) |> λ h => by simpa [Mem] using h
 exact this.left
theorem aHz : ∀ (l : List PgL), (l.flatMap (pgF e)).length = 3 * l.length
 | [] => rfl
 | x :: l => by simp only [aK, aA, aHz l, aG]; simp [pgF]; omega
theorem pg_get {j : Nat} (hj : j < l.length) {r : Nat} (hr : r < 3) : (l.flatMap (pgF e))[3 * j + r]? = (pgF e l[j])[r]? := by
 have e1 : l.flatMap (pgF e) = (l.take j).flatMap (pgF e) ++ (pgF e l[j] ++ (l.drop (j + 1)).flatMap (pgF e)) := by
  conv => lhs; rw [kL hj]
  rw [bD, aK]
 have hl : ((l.take j).flatMap (pgF e)).length = 3 * j := by rw [aHz, aB]; omega
 rw [e1, gE t1, hl, show 3 * j + r - 3 * j = r by omega, gO (by simpa [pgF] using hr)]
theorem pg_setk {j : Nat} (hj : j < l.length) {s : SlL} : (l.flatMap (pgF e)).set (3 * j) (slF e s) = (l.set j (⟨s, l[j].c, l[j].v⟩ : PgL)).flatMap (pgF e) := by
 have e1 : l.flatMap (pgF e) = (l.take j).flatMap (pgF e) ++ (pgF e l[j] ++ (l.drop (j + 1)).flatMap (pgF e)) := by
  conv => lhs; rw [kL hj]
  rw [bD, aK]
 have hl : ((l.take j).flatMap (pgF e)).length = 3 * j := by rw [aHz, aB]; omega
 rw [e1, lM _ _ t1, hl, nS, List.set_append_left _ _ (by simp [pgF]), bY (l := l), if_pos hj, bD, aK]
 rfl
theorem aNn {j : Nat} (hj : j < l.length) {s : SlL} (h1 : s.A = l[j].k.A) (h2 : s.l.length = l[j].k.l.length) (h3 : s.cp = l[j].k.cp) : l.flatMap encPg = (l.set j (⟨s, l[j].c, l[j].v⟩ : PgL)).flatMap encPg := by
 conv => lhs; rw [kL hj]
 rw [bY, if_pos hj, bD, bD, aK, aK]
 have : encPg l[j] = encPg (⟨s, l[j].c, l[j].v⟩ : PgL) := by unfold encPg; simp only [h1, h2, h3]
 rw [this]
theorem cV {j : Nat} {X : PgL} : tsG (l.set j X) = (tsG l).set j X.t := by simp [tsG, List.map_set]
theorem gJ {X : PgL} : tsG (l ++ [X]) = tsG l ++ [X.t] := by simp [tsG]
end
def dE (l : List Int) (n : Int) : Int := if n ∈ l then (l.idxOf n : Int) else -1
theorem aCu {l : List Int} {n : Int} {k : Nat} (hk : k < l.length) (he : l[k] = n) (hn : ∀ x ∈ l.take k, x ≠ n) : dE l n = (k : Int) := by
 have hm : n ∈ l := he ▸ aC hk
 unfold dE
 rw [if_pos hm]
 have h1 : l = l.take k ++ l[k] :: l.drop (k + 1) := by rw [<- cB hk, bT]
 have h2 : n ∉ l.take k := λ h => hn n h rfl
 have h3 : l.idxOf n = k := by
  rw [h1, List.idxOf_append, if_neg h2, he, List.idxOf_cons_self, aB]; omega
 rw [h3]
theorem aJt {l : List Int} {n : Int} (hn : ∀ x ∈ l, x ≠ n) : dE l n = -1 := by
 unfold dE; rw [if_neg (λ h => hn n h rfl)]
theorem plcI_in {l : List Int} {n : Int} (h : n ∈ l) : 0 <= dE l n /\ dE l n < (l.length : Int) := by
 unfold dE; rw [if_pos h]; have := jT.2 h; omega
def cF (T : TrT) (i : Int) (p : PgT) : TrT := ⟨T.root, T.pages.set i.toNat p⟩
def iV (T : TrT) (p : PgT) : TrT := ⟨T.root, T.pages ++ [p]⟩
def eA (r : List PairT) : PgT := ⟨bG r, [], r.map PairT.val⟩
def dP (ks cs : List Int) : PgT := ⟨ks, cs, []⟩
end Go.Px
end
section
namespace Go.Px
open Go.RowKit
def iY (T : TrT) (key : Int) : Nat -> Int -> List Int
 | 0, _ => []
 | d + 1, i => i :: (if (gP T i).kids = [] then [] else iY T key d ((gP T i).kids.getD (gW (gP T i).keys key) 0))
def aY (T : TrT) (key : Int) : List Int := iY T key (bH T) T.root
structure iQ (T : TrT) (P : List Int) : Prop where
 pos : 1 <= P.length
 le : P.length <= 3
 root : P.getD 0 0 = T.root
 inn : ∀ j, j < P.length -> inT T (P.getD j 0) = true
 fr : ∀ j, j < P.length -> frB T (P.getD j 0) = true
 nd : ∀ i j, i < j -> j < P.length -> P.getD i 0 ≠ P.getD j 0
 kid : ∀ j, j + 1 < P.length -> P.getD (j + 1) 0 ∈ (gP T (P.getD j 0)).kids
 leaf : (gP T (P.getD (P.length - 1) 0)).kids = []
section
variable {T : TrT} {key : Int}
theorem nL {d : Nat} {i low high : Int} (h : okB T (d + 1) i low high = true) (hk : (gP T i).kids ≠ []) : gW (gP T i).keys key < (gP T i).kids.length := by
 have := (lQ (dL.1 h).2.1 hk).2
 have := rK (gP T i).keys key
 omega
theorem nI {d : Nat} {i : Int} (hk : (gP T i).kids = []) : iY T key (d + 1) i = [i] := by simp [iY, hk]
theorem qM {d : Nat} {i low high : Int} (h : okB T (d + 1) i low high = true) (hk : (gP T i).kids ≠ []) : iY T key (d + 1) i = i :: iY T key d ((gP T i).kids[gW (gP T i).keys key]'(nL h hk)) := by
 simp only [iY]; rw [if_neg hk, bF (nL h hk)]
theorem yV : ∀ {d : Nat} {i low high : Int}, okB T d i low high = true -> (aS T d i).Nodup ->
  (∀ x ∈ iY T key d i, x ∈ aS T d i /\ inT T x = true /\ frB T x = true) /\ (iY T key d i).Nodup /\ (iY T key d i).length <= d /\ 1 <= (iY T key d i).length /\ (iY T key d i).getD 0 0 = i /\
  (∀ j, j + 1 < (iY T key d i).length -> (iY T key d i).getD (j + 1) 0 ∈ (gP T ((iY T key d i).getD j 0)).kids) /\ (gP T ((iY T key d i).getD ((iY T key d i).length - 1) 0)).kids = []
 | 0, _, _, _, h, _ => by simp [okB] at h
 | d + 1, i, low, high, h, hn => by
  by_cases hk : (gP T i).kids = []
  ·rw [nI hk]
   refine ⟨?_, t11, t11, t11, t11, ?_, by simpa using hk⟩
   ·intro x hx
    rw [aU] at hx
    subst hx
    exact ⟨by simp [aS], iX h, (dL.1 h).2.1⟩
   intro j hj; simp at hj
  have hlt := nL (key := key) h hk
  have hok := iC h hlt
  rw [qM h hk]
  simp only [aS] at hn
  have hn2 := cK.1 hn
  have hsub : ∀ x ∈ aS T d ((gP T i).kids[gW (gP T i).keys key]), x ∈ (gP T i).kids.flatMap (aS T d) := λ x hx => aZ.2 ⟨_, aC hlt, hx⟩
  have hsn : (aS T d ((gP T i).kids[gW (gP T i).keys key])).Nodup := by
   have e := bT (gW (gP T i).keys key) (gP T i).kids
   have e2 := cB hlt
   have h3 := hn2.2
   rw [<- e, e2, bD, aK] at h3
   exact (bP.1 (bP.1 h3).2.1).1
  obtain ⟨a1, a2, a3, a4, a5, a6, a7⟩ := yV hok hsn
  generalize hP : iY T key d ((gP T i).kids[gW (gP T i).keys key]) = P at a1 a2 a3 a4 a5 a6 a7 ⊢
  refine ⟨?_, ?_, by simpa using a3, t11, t11, ?_, ?_⟩
  ·intro x hx
   rcases bV.1 hx with rfl | hx
   ·exact ⟨by simp [aS], iX h, (dL.1 h).2.1⟩
   exact ⟨by simp only [aS]; exact bJ _ (hsub x (a1 x hx).1), (a1 x hx).2⟩
  ·exact cK.2 ⟨λ hm => hn2.1 (hsub i (a1 i hm).1), a2⟩
  ·intro j hj
   simp only [aG] at hj
   cases j with
   | zero =>
    simp only [List.getD_cons_zero, mH, jP]
    rw [a5]; exact aC hlt
   | succ j => simp only [mH]; exact a6 j t1
  rw [aG, eU]
  cases hl : P.length with
  | zero => omega
  | succ n => rw [mH]; rw [hl, eU] at a7; exact a7
theorem kK (h : aN T = true) : iQ T (aY T key) := by
 obtain ⟨h1, h2, h3, _⟩ := eF h
 obtain ⟨a1, a2, a3, a4, a5, a6, a7⟩ := yV (key := key) h2 h3
 rw [show iY T key (bH T) T.root = aY T key from rfl] at a1 a2 a3 a4 a5 a6 a7
 have hm : ∀ j, j < (aY T key).length -> (aY T key).getD j 0 ∈ aY T key := λ j hj => by rw [bF hj]; exact aC hj
 refine ⟨a4, cR a3 h1, a5, λ j hj => (a1 _ (hm j hj)).2.1, λ j hj => (a1 _ (hm j hj)).2.2, λ i j hij hj => ?_, a6, a7⟩
 rw [bF hj, bF (show i < (aY T key).length from Nat.lt_trans hij hj)]
 exact λ e => absurd ((dT.1 a2) i j t1 hj hij) (by simpa using e)
end
def dY (p : PgT) : PgT × Int × PgT :=
 if p.kids = [] then (eA ((aV p).take (((aV p).length + 1) / 2)), (((aV p).drop (((aV p).length + 1) / 2)).getD 0 ⟨0, 0⟩).key, eA ((aV p).drop (((aV p).length + 1) / 2)))
 else (dP (p.keys.take (p.keys.length / 2)) (p.kids.take (p.keys.length / 2 + 1)), p.keys.getD (p.keys.length / 2) 0, dP (p.keys.drop (p.keys.length / 2 + 1)) (p.kids.drop (p.keys.length / 2 + 1)))
def kN (p : PgT) (pl : Int) (key kid : Int) : PgT := dP (p.keys.take pl.toNat ++ [key] ++ p.keys.drop pl.toNat) (p.kids.take (pl.toNat + 1) ++ [kid] ++ p.kids.drop (pl.toNat + 1))
def nC (P : List Int) : Nat -> TrT -> TrT
 | 0, T => T
 | a + 1, T =>
  if (gP T (P.getD a 0)).keys.length <= 4 then T else
  let s := dY (gP T (P.getD a 0))
  let T1 := iV (cF T (P.getD a 0) s.1) s.2.2
  if a = 0 then ⟨(T.pages.length : Int) + 1, T1.pages ++ [dP [s.2.1] [P.getD 0 0, (T.pages.length : Int)]]⟩
  else nC P a (cF T1 (P.getD (a - 1) 0) (kN (gP T1 (P.getD (a - 1) 0)) (dE (gP T1 (P.getD (a - 1) 0)).kids (P.getD a 0)) s.2.1 (T.pages.length : Int)))
def gM (P : List Int) : Int := P.getD (P.length - 1) 0
def kP (T : TrT) (P : List Int) (x : PairT) : TrT := cF T (gM P) (eA (hH (aV (gP T (gM P))) x))
def iO (T : TrT) (x : PairT) : TrT := nC (aY T x.key) (aY T x.key).length (kP T (aY T x.key) x)
section
variable {T T0 R : TrT} {P : List Int} {a : Nat} {i j : Int} {p : PgT}
theorem fH (h : inT T i = true) : gP (cF T i p) i = p := by
 have := aX.1 h
 unfold gP cF
 rw [aD, kS t1]; rfl
theorem eB (h : 0 <= i) (h2 : 0 <= j) (hn : i ≠ j) : gP (cF T i p) j = gP T j := by
 unfold gP cF
 rw [aD, List.getElem?_set_ne t1, <- aD]
theorem aNy (h : inT T j = true) : gP (iV T p) j = gP T j := by
 have := aX.1 h
 unfold gP iV
 rw [aD, gO t1, <- aD]
theorem gT : inT (cF T i p) j = inT T j := by simp [inT, cF]
theorem inT_add (h : inT T j = true) : inT (iV T p) j = true := by
 have := aX.1 h
 refine aX.2 ⟨this.1, ?_⟩
 simp only [iV, aA, aG, bA]; omega
theorem aAx {r : List PairT} : aV (eA r) = r := by
 unfold aV eA
 apply iU
 ·simp
 intro k h1 h2
 simp only [bC, List.length_range] at h1
 have h3 : k < r.length := by simpa using h1
 simp [h3]
theorem aAy {l : List PairT} (h : bW l = true) {x : PairT} (hl : l.length <= 23) (hx : bW [x] = true) : bW (hH l x) = true := by
 obtain ⟨_, h2, h3⟩ := eM.1 h
 obtain ⟨_, g2, g3⟩ := eM.1 hx
 obtain ⟨h4, h5⟩ := bQ.1 h3
 have g4 := (bQ.1 g3).1 x.key t11
 have hpl : (hH l x).length <= l.length + 1 := wT
 refine eM.2 ⟨t1, λ p hp => ?_, bQ.2 ⟨λ k hk => ?_, rX h5 x⟩⟩
 ·rcases (aCv h5 x p).1 hp with rfl | ⟨hp, _⟩
  ·exact g2 p t11
  exact h2 p hp
 obtain ⟨p, hp, rfl⟩ := bU.1 hk
 rcases (aCv h5 x p).1 hp with rfl | ⟨hp, _⟩
 ·exact g4
 exact h4 _ (bU.2 ⟨p, hp, rfl⟩)
def aEb (p : PgT) : Prop := p.keys.length <= 5 /\ ((p.kids = [] /\ p.vals.length = p.keys.length /\ bW (aV p) = true) \/ (p.kids.length = p.keys.length + 1 /\ 1 <= p.keys.length))
def eP (p : PgT) : Prop := p.keys.length <= 5 /\ p.kids.length <= 6 /\ p.vals.length <= 5
structure GI (T0 : TrT) (P : List Int) (a : Nat) (R : TrT) : Prop where
 a1 : 1 <= a /\ a <= P.length
 len : T0.pages.length <= R.pages.length /\ R.pages.length + a <= T0.pages.length + P.length
 up : ∀ j, j + 1 < a -> gP R (P.getD j 0) = gP T0 (P.getD j 0)
 root : R.root = T0.root
 cur : aEb (gP R (P.getD (a - 1) 0))
 small : ∀ p ∈ R.pages, eP p
theorem aNw (h : frB T i = true) : eP (gP T i) := by
 have h4 := iA h
 by_cases hk : (gP T i).kids = []
 ·have := (jS h hk).1
  exact ⟨t1, by simp [hk], t1⟩
 have h5 := (lQ h hk).2
 have h6 : (gP T i).vals = [] := by
  unfold frB at h
  rw [if_neg hk] at h
  simp only [aW, decide_eq_true_eq] at h
  first | exact h.2.1.1 | exact h.1.2.1 | exact h.2.1 | (rcases h with ⟨_, h⟩; rcases h with ⟨h, _⟩; first | exact h | exact h.1)
 exact ⟨t1, t1, by simp [h6]⟩
theorem iK (h : aN T = true) : ∀ p ∈ T.pages, eP p := by
 intro p hp
 obtain ⟨k, hk, rfl⟩ := aJ hp
 have hin : inT T (k : Int) = true := aX.2 ⟨t1, t1⟩
 obtain ⟨e, lo, hi, _, h2⟩ := sQ h hin
 have := aNw (dL.1 h2).2.1
 rwa [show gP T (k : Int) = T.pages[k] by unfold gP; rw [aD, eS, aL hk]; rfl] at this
theorem rI (h : ∀ p ∈ T.pages, eP p) (hp : eP p) : ∀ q ∈ (cF T i p).pages, eP q := by
 intro q hq
 rcases List.mem_or_eq_of_mem_set hq with hq | rfl
 ·exact h q hq
 exact hp
theorem vO (h : ∀ p ∈ T.pages, eP p) (hp : eP p) : ∀ q ∈ (iV T p).pages, eP q := by
 intro q hq
 rcases bE.1 hq with hq | hq
 ·exact h q hq
 rw [aU] at hq; subst hq; exact hp
theorem GI.start (h : aN T = true) (hP : iQ T P) {x : PairT} (hx : bW [x] = true) : GI T P P.length (kP T P x) := by
 have hpos := hP.pos
 have hin := hP.inn (P.length - 1) t1
 have hfr := hP.fr (P.length - 1) t1
 have hv := gI hfr hP.leaf
 have h4 := iA hfr
 have hvl := (jS hfr hP.leaf).1
 have hl : (aV (gP T (gM P))).length <= 4 := by rw [eL]; exact h4
 have hput := aAy hv (by rw [eL]; omega) hx
 have hpl : (hH (aV (gP T (gM P))) x).length <= 5 := by have := wT (l := aV (gP T (gM P))) (x := x); omega
 refine ⟨⟨t1, t1⟩, by simp [kP, cF], λ j hj => ?_, rfl, ?_, ?_⟩
 ·refine eB (aX.1 hin).1 (aX.1 (hP.inn j t1)).1 ?_
  exact λ e => hP.nd j (P.length - 1) t1 t1 e.symm
 ·rw [show gP (kP T P x) (P.getD (P.length - 1) 0) = eA (hH (aV (gP T (gM P))) x) from fH hin]
  refine ⟨by simpa [eA] using hpl, .inl ⟨rfl, by simp [eA], by rw [aAx]; exact hput⟩⟩
 exact rI (iK h) ⟨by simpa [eA] using hpl, by simp [eA], by simpa [eA] using hpl⟩
theorem uD {l : List Int} {n : Int} {m : Nat} (h : n ∈ l) (hl : l.length = m + 1) : 0 <= dE l n /\ dE l n <= (m : Int) := by
 have := plcI_in h; omega
theorem GI.curIn (h : GI T0 P a R) (hP : iQ T0 P) {k : Nat} (hk : k < P.length) : inT R (P.getD k 0) = true := by
 have := aX.1 (hP.inn k hk)
 exact aX.2 ⟨this.1, by have := h.len.1; omega⟩
theorem GI.above (h : GI T0 P a R) (hP : iQ T0 P) (h2 : 2 <= a) {q r : PgT} : gP (iV (cF R (P.getD (a - 1) 0) q) r) (P.getD (a - 2) 0) = gP T0 (P.getD (a - 2) 0) := by
 have h1 := h.a1
 have i1 := h.curIn hP (k := a - 1) t1
 have i2 := h.curIn hP (k := a - 2) t1
 rw [aNy (by rw [gT]; exact i2), eB (aX.1 i1).1 (aX.1 i2).1 (λ e => hP.nd (a - 2) (a - 1) t1 t1 e.symm)]
 exact h.up (a - 2) t1
theorem tC (hP : iQ T0 P) (h2 : 2 <= a) (ha : a <= P.length) : P.getD (a - 1) 0 ∈ (gP T0 (P.getD (a - 2) 0)).kids /\ (gP T0 (P.getD (a - 2) 0)).kids.length = (gP T0 (P.getD (a - 2) 0)).keys.length + 1 /\ (gP T0 (P.getD (a - 2) 0)).keys.length <= 4 /\ 1 <= (gP T0 (P.getD (a - 2) 0)).keys.length := by
 have hk := hP.kid (a - 2) t1
 rw [show a - 2 + 1 = a - 1 by omega] at hk
 have hf := hP.fr (a - 2) t1
 have hne : (gP T0 (P.getD (a - 2) 0)).kids ≠ [] := λ e => by rw [e] at hk; simp at hk
 exact ⟨hk, (lQ hf hne).2, iA hf, (lQ hf hne).1⟩
theorem aMu {p : PgT} {pl key kid : Int} (h : p.kids.length = p.keys.length + 1) (h0 : 0 <= pl /\ pl <= (p.keys.length : Int)) : (kN p pl key kid).keys.length = p.keys.length + 1 /\ (kN p pl key kid).kids.length = p.keys.length + 2 /\ (kN p pl key kid).vals = [] := by
 simp only [kN, dP, aA, aB, aI, aG, bA]
 refine ⟨t1, t1, trivial⟩
theorem wA (h : aEb p) : eP (dY p).1 /\ eP (dY p).2.2 := by
 obtain ⟨h5, h | h⟩ := h
 ·unfold dY
  rw [if_pos h.1]
  simp only [eP, eA, bC, aB, aI, eL, bA]
  refine ⟨⟨t1, t1, t1⟩, t1, t1, t1⟩
 unfold dY
 rw [if_neg (by intro e; rw [e] at h; simp at h)]
 simp only [eP, dP, aB, aI, bA]
 refine ⟨⟨t1, t1, t1⟩, t1, t1, t1⟩
theorem GI.next (h : GI T0 P a R) (hP : iQ T0 P) (h2 : 2 <= a) {q : PgT} (hq : q = kN (gP T0 (P.getD (a - 2) 0)) (dE (gP T0 (P.getD (a - 2) 0)).kids (P.getD (a - 1) 0)) (dY (gP R (P.getD (a - 1) 0))).2.1 (R.pages.length : Int)) :
  GI T0 P (a - 1) (cF (iV (cF R (P.getD (a - 1) 0) (dY (gP R (P.getD (a - 1) 0))).1) (dY (gP R (P.getD (a - 1) 0))).2.2) (P.getD (a - 2) 0) q) := by
 have h1 := h.a1
 have i1 := h.curIn hP (k := a - 1) t1
 have i2 := h.curIn hP (k := a - 2) t1
 obtain ⟨b1, b2, b3, b4⟩ := tC hP h2 h1.2
 have hpl := uD b1 b2
 have hl := aMu (key := (dY (gP R (P.getD (a - 1) 0))).2.1) (kid := (R.pages.length : Int)) b2 hpl
 rw [<- hq] at hl
 have hs := wA h.cur
 refine ⟨⟨t1, t1⟩, ?_, λ j hj => ?_, h.root, ?_, ?_⟩
 ·have := h.len
  simp only [cF, iV, eW, aA, aG, bA]
  omega
 ·have i3 := h.curIn hP (k := j) t1
  rw [eB (aX.1 i2).1 (aX.1 i3).1 (λ e => hP.nd j (a - 2) t1 t1 e.symm), aNy (by rw [gT]; exact i3), eB (aX.1 i1).1 (aX.1 i3).1 (λ e => hP.nd j (a - 1) t1 t1 e.symm)]
  exact h.up j t1
 ·rw [show a - 1 - 1 = a - 2 by omega, fH (inT_add (by rw [gT]; exact i2))]
  exact ⟨t1, .inr ⟨t1, t1⟩⟩
 exact rI (vO (rI h.small hs.1) hs.2) ⟨t1, t1, by simp [hl.2.2]⟩
theorem vG (ha : 1 <= a) (h : (gP R (P.getD (a - 1) 0)).keys.length <= 4) : nC P a R = R := by
 obtain ⟨a, rfl⟩ : ∃ b, a = b + 1 := ⟨a - 1, t1⟩
 simp only [nC]; rw [eU] at h; rw [if_pos h]
theorem vF (h : ¬ (gP R (P.getD 0 0)).keys.length <= 4) : nC P 1 R = ⟨(R.pages.length : Int) + 1, (iV (cF R (P.getD 0 0) (dY (gP R (P.getD 0 0))).1) (dY (gP R (P.getD 0 0))).2.2).pages ++ [dP [(dY (gP R (P.getD 0 0))).2.1] [P.getD 0 0, (R.pages.length : Int)]]⟩ := by
 simp only [nC]; rw [if_neg h, if_pos trivial]
theorem aCd (h2 : 2 <= a) (hG : GI T0 P a R) (hP : iQ T0 P) (h : ¬ (gP R (P.getD (a - 1) 0)).keys.length <= 4) {q : PgT} (hq : q = kN (gP T0 (P.getD (a - 2) 0)) (dE (gP T0 (P.getD (a - 2) 0)).kids (P.getD (a - 1) 0)) (dY (gP R (P.getD (a - 1) 0))).2.1 (R.pages.length : Int)) :
  nC P a R = nC P (a - 1) (cF (iV (cF R (P.getD (a - 1) 0) (dY (gP R (P.getD (a - 1) 0))).1) (dY (gP R (P.getD (a - 1) 0))).2.2) (P.getD (a - 2) 0) q) := by
 have hab := hG.above hP h2 (q := (dY (gP R (P.getD (a - 1) 0))).1) (r := (dY (gP R (P.getD (a - 1) 0))).2.2)
 obtain ⟨a, rfl⟩ : ∃ b, a = b + 1 := ⟨a - 1, t1⟩
 simp only [eU] at *
 simp only [nC]; rw [if_neg h, if_neg t1]
 rw [show a + 1 - 2 = a - 1 by omega] at hab hq ⊢
 rw [hab, <- hq]
theorem Mem.gcap {w0 w : World} {R : List (Option Nat)} {M : List (List FE)} {l : List PgL} {e : TypeId} (h : Mem w0 w R M) (i : Nat) (hi : M[i]? = some (l.flatMap (pgF e))) {j : Nat} (hj : j < l.length) : l[j].k.l.length <= l[j].k.cp /\ l[j].c.l.length <= l[j].c.cp /\ l[j].v.l.length <= l[j].v.cp := by
 have hm : ∀ y ∈ pgF e l[j], y.own w := λ y hy => h.own _ (dM.2 ⟨_, cE hi, aZ.2 ⟨_, aC hj, hy⟩⟩)
 refine ⟨?_, ?_, ?_⟩
 ·obtain ⟨A', c', he, h1, _⟩ := nH (hm (slF e l[j].k) (by simp [pgF])); cases he; exact h1
 ·obtain ⟨A', c', he, h1, _⟩ := nH (hm (slF e l[j].c) (by simp [pgF])); cases he; exact h1
 obtain ⟨A', c', he, h1, _⟩ := nH (hm (slF e l[j].v) (by simp [pgF])); cases he; exact h1
end
end Go.Px
end
section
namespace Go.Px
open Go.RowKit
def wkB (T : TrT) : Nat -> Int -> Prop
 | 0, _ => False
 | d + 1, i => inT T i = true /\ ((gP T i).kids = [] -> (gP T i).vals.length = (gP T i).keys.length) /\ ∀ x ∈ (gP T i).kids, wkB T d x
def WK (T : TrT) : Prop := wkB T 3 T.root /\ (1 <= T.pages.length /\ T.pages.length <= 64) /\ ∀ p ∈ T.pages, eP p
section
variable {T T0 R : TrT}
theorem ok_wk : ∀ {d e : Nat} {i low high : Int}, okB T d i low high = true -> d <= e -> wkB T e i
 | 0, _, _, _, _, h, _ => by simp [okB] at h
 | d + 1, 0, _, _, _, _, h => by omega
 | d + 1, e + 1, i, low, high, h, he => by
  refine ⟨iX h, λ hk => (jS (dL.1 h).2.1 hk).1, λ x hx => ?_⟩
  obtain ⟨k, hk, rfl⟩ := aJ hx
  exact ok_wk (iC h hk) t1
theorem qQ (h : aN T = true) : WK T := by
 obtain ⟨h1, h2, _, _⟩ := eF h
 have := fN h
 exact ⟨ok_wk h2 h1, t1, iK h⟩
theorem iP (hs : ∀ p ∈ T.pages, eP p) {i : Int} (hi : inT T i = true) : eP (gP T i) := by
 have h := aX.1 hi
 unfold gP
 rw [aD, aL t1]
 exact hs _ (aC _)
theorem aAl {f : Int -> List Int} {B : Nat} : ∀ {l : List Int}, (∀ x ∈ l, (f x).length <= B) -> (l.flatMap f).length <= l.length * B
 | [], _ => by simp
 | x :: l, h => by
  have h1 := h x t11
  have h2 := aAl (l := l) (λ y hy => h y (bJ _ hy))
  simp only [aK, aA, aG, Nat.succ_mul]
  omega
theorem aPt (hs : ∀ p ∈ T.pages, eP p) : ∀ {d : Nat} {i : Int}, wkB T d i -> (aS T d i).length <= 7 ^ d
 | 0, _, h => by cases h
 | d + 1, i, h => by
  have h1 := (iP hs h.1).2.1
  have h2 := aAl (l := (gP T i).kids) (f := aS T d) (B := 7 ^ d) (λ x hx => aPt hs (h.2.2 x hx))
  have h3 : (gP T i).kids.length * 7 ^ d <= 6 * 7 ^ d := bK _ h1
  have h4 : 1 <= 7 ^ d := Nat.pow_pos t1
  simp only [aS, aG]
  rw [kU]; omega
theorem oC (hs : ∀ p ∈ T.pages, eP p) {d : Nat} {i : Int} (h : wkB T d i) (hd : d <= 3) : (aS T d i).length <= 343 := by
 have := aPt hs h
 have h2 : d = 0 \/ d = 1 \/ d = 2 \/ d = 3 := by omega
 rcases h2 with rfl | rfl | rfl | rfl <;> simp at this <;> omega
theorem qS : ∀ {d : Nat} {i x : Int}, wkB T d i -> x ∈ aS T d i -> inT T x = true /\ ((gP T x).kids = [] -> (gP T x).vals.length = (gP T x).keys.length)
 | 0, _, _, h, _ => by cases h
 | d + 1, i, x, h, hx => by
  simp only [aS] at hx
  rcases bV.1 hx with rfl | hx
  ·exact ⟨h.1, h.2.1⟩
  obtain ⟨y, hy, hx⟩ := aZ.1 hx
  exact qS (h.2.2 y hy) hx
theorem aKj {d : Nat} {i : Int} (h : wkB T (d + 1) i) {k : Nat} (hk : k < (gP T i).kids.length) : wkB T d (gP T i).kids[k] := h.2.2 _ (aC hk)
end
def kO (p : PgT) (pl : Nat) : PgT := dP (p.keys.take (pl - 1) ++ p.keys.drop pl) (p.kids.take pl ++ p.kids.drop (pl + 1))
def mD (p : PgT) (k : Nat) (v : Int) : PgT := ⟨p.keys.set k v, p.kids, p.vals⟩
def yN (R : TrT) (up a b : Int) (f : Nat) : TrT × Int :=
 if (aV (gP R a) ++ aV (gP R b)).length <= 4 then (cF (cF R a (eA (aV (gP R a) ++ aV (gP R b)))) up (kO (gP R up) (f + 1)), b)
 else (cF (cF (cF R a (eA ((aV (gP R a) ++ aV (gP R b)).take (((aV (gP R a) ++ aV (gP R b)).length + 1) / 2)))) b (eA ((aV (gP R a) ++ aV (gP R b)).drop (((aV (gP R a) ++ aV (gP R b)).length + 1) / 2)))) up
  (mD (gP R up) f ((aV (gP R a) ++ aV (gP R b)).getD (((aV (gP R a) ++ aV (gP R b)).length + 1) / 2) ⟨0, 0⟩).key), -1)
def iW (R : TrT) (up a b : Int) (f : Nat) : List Int := (gP R a).keys ++ [(gP R up).keys.getD f 0] ++ (gP R b).keys
def mI (R : TrT) (a b : Int) : List Int := (gP R a).kids ++ (gP R b).kids
def yM (R : TrT) (up a b : Int) (f : Nat) : TrT × Int :=
 if (iW R up a b f).length <= 4 then (cF (cF R a (dP (iW R up a b f) (mI R a b))) up (kO (gP R up) (f + 1)), b)
 else (cF (cF (cF R a (dP ((iW R up a b f).take ((iW R up a b f).length / 2)) ((mI R a b).take ((iW R up a b f).length / 2 + 1)))) b (dP ((iW R up a b f).drop ((iW R up a b f).length / 2 + 1)) ((mI R a b).drop ((iW R up a b f).length / 2 + 1)))) up
  (mD (gP R up) f ((iW R up a b f).getD ((iW R up a b f).length / 2) 0)), -1)
def eE (R : TrT) (up : Int) (f : Nat) : TrT × Int :=
 if (gP R ((gP R up).kids.getD f 0)).kids = [] then yN R up ((gP R up).kids.getD f 0) ((gP R up).kids.getD (f + 1) 0) f
 else yM R up ((gP R up).kids.getD f 0) ((gP R up).kids.getD (f + 1) 0) f
def dR (g : List Int) (b : Int) : List Int := if 0 <= b then g ++ [b] else g
def mK (P : List Int) : Nat -> TrT × List Int -> TrT × List Int
 | 0, s => s
 | a + 1, s => if a = 0 \/ 2 <= (gP s.1 (P.getD a 0)).keys.length then s else
  mK P a ((eE s.1 (P.getD (a - 1) 0) (dE (gP s.1 (P.getD (a - 1) 0)).kids (P.getD a 0) - 1).toNat).1, dR s.2 (eE s.1 (P.getD (a - 1) 0) (dE (gP s.1 (P.getD (a - 1) 0)).kids (P.getD a 0) - 1).toNat).2)
def shI (g k : Int) : Int := k - (if k > g then 1 else 0)
def cutP (g : Int) (p : PgT) : PgT := ⟨p.keys, p.kids.map (shI g), p.vals⟩
def lV (R : TrT) (g : Int) : TrT := ⟨shI g R.root, (R.pages.eraseIdx g.toNat).map (cutP g)⟩
def pX : Nat -> TrT -> List Int -> TrT
 | n + 1, R, g :: l => pX n (lV R g) (l.map (shI g))
 | _, R, _ => R
def kZ (s : TrT × List Int) : TrT × List Int :=
 if (gP s.1 s.1.root).kids.length = 1 then (⟨(gP s.1 s.1.root).kids.getD 0 0, s.1.pages⟩, s.2 ++ [s.1.root]) else s
def eY (r : List PairT) (k : Int) : List PairT := if cT r k then nW r k else []
def fP (T : TrT) (P : List Int) (key : Int) : TrT := cF T (gM P) (eA (eY (aV (gP T (gM P))) key))
def lH (T : TrT) (key : Int) : TrT :=
 pX 4 (kZ (mK (aY T key) (aY T key).length (fP T (aY T key) key, []))).1 (kZ (mK (aY T key) (aY T key).length (fP T (aY T key) key, []))).2
structure sB (lv : Int -> Nat) (n : Nat) (p : PgT) (l : Nat) : Prop where
 k4 : p.keys.length <= 4
 c : (l = 1 /\ p.kids = [] /\ p.vals.length = p.keys.length) \/ (2 <= l /\ p.kids.length = p.keys.length + 1 /\ p.vals = [] /\ ∀ x ∈ p.kids, (0 <= x /\ x < (n : Int)) /\ lv x + 1 = l)
structure FV (lv : Int -> Nat) (R : TrT) (g : List Int) : Prop where
 sh : ∀ i, inT R i = true -> sB lv R.pages.length (gP R i) (lv i)
 nog : ∀ i, inT R i = true -> ∀ x ∈ (gP R i).kids, x ∉ g
 gin : ∀ x ∈ g, inT R x = true
 nd : g.Nodup
 root : inT R R.root = true /\ R.root ∉ g
section
variable {T T0 R : TrT} {lv : Int -> Nat} {g : List Int} {g0 : Int}
def unI (g k : Int) : Int := if k < g then k else k + 1
theorem vZ {k : Int} (h : k ≠ g0) : unI g0 (shI g0 k) = k := by
 unfold unI shI
 by_cases h1 : k > g0
 ·rw [if_pos h1, if_neg t1]; omega
 rw [if_neg h1, if_pos t1]; omega
theorem un_sh {k : Int} : shI g0 (unI g0 k) = k /\ unI g0 k ≠ g0 := by
 unfold unI shI
 by_cases h1 : k < g0
 ·rw [if_pos h1, if_neg t1]; omega
 rw [if_neg h1, if_pos t1]; omega
theorem aDa {a b : Int} (ha : a ≠ g0) (hb : b ≠ g0) (h : shI g0 a = shI g0 b) : a = b := by
 rw [<- vZ ha, <- vZ hb, h]
theorem pD (h : inT R g0 = true) : (lV R g0).pages.length + 1 = R.pages.length := by
 have := aX.1 h
 simp only [lV, bC, List.length_eraseIdx]
 rw [if_pos t1]; omega
theorem uY (h : inT R g0 = true) {i : Int} : inT (lV R g0) i = true ↔ 0 <= i /\ inT R (unI g0 i) = true := by
 have h1 := aX.1 h
 have h2 := pD h
 rw [aX, aX]
 unfold unI
 split <;> omega
theorem aBt (h : inT R g0 = true) {i : Int} (hi : inT (lV R g0) i = true) : gP (lV R g0) i = cutP g0 (gP R (unI g0 i)) := by
 have h1 := aX.1 h
 have h2 := aX.1 hi
 have h3 := aX.1 ((uY h).1 hi).2
 have h4 := pD h
 unfold gP
 have hl : i.toNat < (R.pages.eraseIdx g0.toNat).length := by
  rw [List.length_eraseIdx, if_pos t1]; omega
 simp only [lV]
 rw [aD, aD, aL (by simpa using hl), aL t1, fC, fC, cI, List.getElem_eraseIdx]
 unfold unI
 by_cases hc : i < g0
 ·rw [dif_pos t1]; simp only [if_pos hc]
 rw [dif_neg t1]
 congr 1
 simp only [if_neg hc]
 congr 1
 omega
theorem FV.cut {l : List Int} (h : FV lv R (g0 :: l)) : FV (λ i => lv (unI g0 i)) (lV R g0) (l.map (shI g0)) := by
 have hg := h.gin g0 t11
 have hn := cK.1 h.nd
 have hne : ∀ x ∈ l, x ≠ g0 := λ x hx e => hn.1 (e ▸ hx)
 have hrt : R.root ≠ g0 := λ e => h.root.2 (by simp [e])
 have hg1 := aX.1 hg
 have hin : ∀ x, x ≠ g0 -> inT R x = true -> inT (lV R g0) (shI g0 x) = true := λ x hx hi => by
  refine (uY hg).2 ⟨?_, by rw [vZ hx]; exact hi⟩
  have := aX.1 hi
  unfold shI
  split <;> omega
 refine ⟨λ i hi => ?_, λ i hi x hx => ?_, λ x hx => ?_, ?_, hin _ hrt h.root.1, λ hm => ?_⟩
 ·have h1 := ((uY hg).1 hi).2
  have h2 := h.sh _ h1
  rw [aBt hg hi]
  refine ⟨h2.k4, ?_⟩
  rcases h2.c with ⟨a, b, c⟩ | ⟨a, b, c, d⟩
  ·exact .inl ⟨a, by simp [cutP, b], c⟩
  refine .inr ⟨a, by simpa [cutP] using b, c, λ x hx => ?_⟩
  obtain ⟨y, hy, rfl⟩ := bU.1 hx
  obtain ⟨d1, d2⟩ := d y hy
  have hy0 : y ≠ g0 := λ e => h.nog _ h1 y hy (by simp [e])
  have := aX.1 (hin y hy0 (aX.2 d1))
  exact ⟨this, by rw [vZ hy0]; exact d2⟩
 ·have h1 := ((uY hg).1 hi).2
  rw [aBt hg hi] at hx
  obtain ⟨y, hy, rfl⟩ := bU.1 hx
  have hy2 := h.nog _ h1 y hy
  intro hm
  obtain ⟨z, hz, e⟩ := bU.1 hm
  have := aDa (hne z hz) (λ e => hy2 (by simp [e])) e
  subst this
  exact hy2 (bJ _ hz)
 ·obtain ⟨y, hy, rfl⟩ := bU.1 hx
  exact hin y (hne y hy) (h.gin y (bJ _ hy))
 ·refine List.pairwise_map.2 (hn.2.imp_of_mem λ ha hb hab e => hab (aDa (hne _ ha) (hne _ hb) e))
 obtain ⟨z, hz, e⟩ := bU.1 hm
 have := aDa (hne z hz) hrt e
 subst this
 exact h.root.2 (bJ _ hz)
end
end Go.Px
end
section
namespace Go.Px
open Go.RowKit
section
variable {T T0 R : TrT} {P : List Int} {a : Nat} {s : TrT × List Int}
def lvT (T : TrT) (i : Int) : Nat := 1 + hgt T 3 i
theorem aJi {e : Nat} {i lo hi : Int} (h : okB T (e + 1) i lo hi = true) (he : e <= 3) : lvT T i = e + 1 := by
 unfold lvT; rw [aHl h he]; omega
theorem pZ {f : Int -> List Int} : ∀ {l : List Int}, (l.flatMap f).Nodup -> ∀ {y z x : Int}, y ∈ l -> z ∈ l -> x ∈ f y -> x ∈ f z -> y = z
 | [], _, _, _, _, h, _, _, _ => by simp at h
 | u :: l, hn, y, z, x, hy, hz, h1, h2 => by
  rw [aK] at hn
  have hn2 := bP.1 hn
  rcases bV.1 hy with e1 | q1 <;> rcases bV.1 hz with e2 | q2
  ·rw [e1, e2]
  ·rw [e1] at h1; exact absurd rfl (hn2.2.2 x h1 x (aZ.2 ⟨z, q2, h2⟩))
  ·rw [e2] at h2; exact absurd rfl (hn2.2.2 x h2 x (aZ.2 ⟨y, q1, h1⟩))
  exact pZ hn2.2.1 q1 q2 h1 h2
theorem aCk {f : Int -> List Int} : ∀ {l : List Int}, (l.flatMap f).Nodup -> (∀ y ∈ l, y ∈ f y) -> l.Nodup
 | [], _, _ => List.nodup_nil
 | u :: l, hn, h => by
  rw [aK] at hn
  have hn2 := bP.1 hn
  refine cK.2 ⟨λ hm => ?_, aCk hn2.2.1 λ y hy => h y (bJ _ hy)⟩
  exact absurd rfl (hn2.2.2 u (h u t11) u (aZ.2 ⟨u, hm, h u t11⟩))
theorem rC {f : Int -> List Int} : ∀ {l : List Int}, (l.flatMap f).Nodup -> ∀ y ∈ l, (f y).Nodup
 | [], _, _, h => by simp at h
 | u :: l, hn, y, h => by
  rw [aK] at hn
  have hn2 := bP.1 hn
  rcases bV.1 h with rfl | h
  ·exact hn2.1
  exact rC hn2.2.1 y h
theorem aJs : ∀ {d : Nat} {r lo hi : Int}, okB T d r lo hi = true -> d <= 3 -> (aS T d r).Nodup ->
  (∀ i ∈ aS T d r, (gP T i).kids.Nodup /\ lvT T i <= d /\ ∀ x ∈ (gP T i).kids, x ∈ aS T d r /\ lvT T x + 1 = lvT T i) /\
  ∀ i j x, i ∈ aS T d r -> j ∈ aS T d r -> x ∈ (gP T i).kids -> x ∈ (gP T j).kids -> i = j
 | 0, _, _, _, h, _, _ => by simp [okB] at h
 | d + 1, r, lo, hi, h, hd, hn => by
  simp only [aS] at hn ⊢
  have hn2 := (cK.1 hn).2
  have ih : ∀ y ∈ (gP T r).kids, (∀ i ∈ aS T d y, (gP T i).kids.Nodup /\ lvT T i <= d /\ ∀ x ∈ (gP T i).kids, x ∈ aS T d y /\ lvT T x + 1 = lvT T i) /\
    ∀ i j x, i ∈ aS T d y -> j ∈ aS T d y -> x ∈ (gP T i).kids -> x ∈ (gP T j).kids -> i = j := λ y hy => by
   obtain ⟨k, hk, rfl⟩ := aJ hy
   exact aJs (iC h hk) t1 (rC hn2 _ hy)
  have hlr := aJi h t1
  have hky : ∀ y ∈ (gP T r).kids, y ∈ aS T d y /\ lvT T y = d := λ y hy => by
   obtain ⟨k, hk, rfl⟩ := aJ hy
   have hok := iC h hk
   cases d with
   | zero => simp [okB] at hok
   | succ d => exact ⟨by simp [aS], aJi hok t1⟩
  have A : ∀ i ∈ r :: (gP T r).kids.flatMap (aS T d), (gP T i).kids.Nodup /\ lvT T i <= d + 1 /\ ∀ x ∈ (gP T i).kids, x ∈ r :: (gP T r).kids.flatMap (aS T d) /\ lvT T x + 1 = lvT T i := by
   intro i hi
   rcases bV.1 hi with rfl | hi
   ·refine ⟨aCk hn2 λ y hy => (hky y hy).1, t1, λ x hx => ⟨bJ _ (aZ.2 ⟨x, hx, (hky x hx).1⟩), by rw [(hky x hx).2]; omega⟩⟩
   obtain ⟨y, hy, hi⟩ := aZ.1 hi
   obtain ⟨b1, b2, b3⟩ := (ih y hy).1 i hi
   exact ⟨b1, t1, λ x hx => ⟨bJ _ (aZ.2 ⟨y, hy, (b3 x hx).1⟩), (b3 x hx).2⟩⟩
  refine ⟨A, λ i j x hi hj hxi hxj => ?_⟩
  have l1 := ((A i hi).2.2 x hxi).2
  have l2 := ((A j hj).2.2 x hxj).2
  rcases bV.1 hi with rfl | hi <;> rcases bV.1 hj with rfl | hj
  ·rfl
  ·obtain ⟨y, hy, hj⟩ := aZ.1 hj
   have := ((ih y hy).1 j hj).2.1; omega
  ·obtain ⟨y, hy, hi⟩ := aZ.1 hi
   have := ((ih y hy).1 i hi).2.1; omega
  obtain ⟨y, hy, hi⟩ := aZ.1 hi
  obtain ⟨z, hz, hj⟩ := aZ.1 hj
  have e := pZ hn2 hy hz (((ih y hy).1 i hi).2.2 x hxi).1 (((ih z hz).1 j hj).2.2 x hxj).1
  subst e
  exact (ih y hy).2 i j x hi hj hxi hxj
structure LvV (T : TrT) : Prop where
 sh : ∀ i, inT T i = true -> sB (lvT T) T.pages.length (gP T i) (lvT T i)
 le : ∀ i, inT T i = true -> lvT T i <= lvT T T.root
 r3 : lvT T T.root <= 3 /\ inT T T.root = true
 nd : ∀ i, inT T i = true -> (gP T i).kids.Nodup
 par : ∀ i j x, inT T i = true -> inT T j = true -> x ∈ (gP T i).kids -> x ∈ (gP T j).kids -> i = j
theorem nO (h : aN T = true) : LvV T := by
 obtain ⟨h1, h2, h3, h4⟩ := eF h
 have hc := (aEa h3 (λ x hx => aX.1 (vR h2 x hx))).2 h4
 have hm : ∀ i, inT T i = true -> i ∈ aS T (bH T) T.root := λ i hi => by
  have hi2 := aX.1 hi
  have := hc i.toNat t1
  rwa [show ((i.toNat : Nat) : Int) = i by omega] at this
 obtain ⟨a1, a2⟩ := aJs h2 h1 h3
 have hr : lvT T T.root = bH T := by
  obtain ⟨n, hn⟩ : ∃ n, bH T = n + 1 := ⟨bH T - 1, by have := qE (T := T); omega⟩
  rw [hn] at h2 h1 ⊢
  exact aJi h2 t1
 refine ⟨λ i hi => ?_, λ i hi => by rw [hr]; exact (a1 i (hm i hi)).2.1, ⟨t1, iX h2⟩, λ i hi => (a1 i (hm i hi)).1, λ i j x hi hj => a2 i j x (hm i hi) (hm j hj)⟩
 obtain ⟨e, lo, hi2, he, hok⟩ := sQ h hi
 have hl := aJi hok t1
 have hf := (dL.1 hok).2.1
 refine ⟨iA hf, ?_⟩
 rcases (dL.1 hok).2.2.2 with ⟨b1, b2⟩ | ⟨b1, b2, b3⟩
 ·exact .inl ⟨t1, b2, (jS hf b2).1⟩
 refine .inr ⟨t1, (lQ hf b2).2, ?_, λ x hx => ⟨?_, ((a1 i (hm i hi)).2.2 x hx).2⟩⟩
 ·have := hf
  unfold frB at this
  rw [if_neg b2] at this
  simp only [aW, decide_eq_true_eq] at this
  first | exact this.2.1.1 | exact this.1.2.1 | exact this.2.1 | (rcases this with ⟨_, h⟩; rcases h with ⟨h, _⟩; first | exact h | exact h.1)
 have hk := jT.2 hx
 have := iC hok hk
 rw [List.getElem_idxOf] at this
 exact aX.1 (iX this)
structure DV (T0 : TrT) (P : List Int) (a : Nat) (s : TrT × List Int) : Prop where
 a1 : 1 <= a /\ a <= P.length
 len : s.1.pages.length = T0.pages.length
 root : s.1.root = T0.root
 sh : ∀ i, inT T0 i = true -> sB (lvT T0) T0.pages.length (gP s.1 i) (lvT T0 i)
 up : ∀ i, inT T0 i = true -> lvT T0 (P.getD (a - 1) 0) < lvT T0 i -> gP s.1 i = gP T0 i
 nog : ∀ i, inT T0 i = true -> ∀ x ∈ (gP s.1 i).kids, x ∉ s.2
 gin : ∀ x ∈ s.2, inT T0 x = true /\ lvT T0 x < lvT T0 (P.getD (a - 1) 0)
 nd : s.2.Nodup
 gl : s.2.length + a <= P.length
theorem rH {lv : Int -> Nat} {n l : Nat} {p : PgT} (h : sB lv n p l) (hk : p.kids = []) : l = 1 /\ p.vals.length = p.keys.length := by
 rcases h.c with ⟨a, _, c⟩ | ⟨_, b, _⟩
 ·exact ⟨a, c⟩
 rw [hk] at b; simp at b
theorem nZ {lv : Int -> Nat} {n l : Nat} {p : PgT} (h : sB lv n p l) (hk : p.kids ≠ []) : 2 <= l /\ p.kids.length = p.keys.length + 1 /\ p.vals = [] /\ ∀ x ∈ p.kids, (0 <= x /\ x < (n : Int)) /\ lv x + 1 = l := by
 rcases h.c with ⟨_, b, _⟩ | h
 ·exact absurd b hk
 exact h
theorem uI {lv : Int -> Nat} {n : Nat} {r : List PairT} (h : r.length <= 4) : sB lv n (eA r) 1 := ⟨by simpa [eA] using h, .inl ⟨rfl, rfl, by simp [eA]⟩⟩
theorem uZ {r : List PairT} {k : Int} : (eY r k).length <= r.length := by
 unfold eY
 split
 ·exact aNj
 simp
theorem DV.start (h : aN T0 = true) (hP : iQ T0 P) {key : Int} : DV T0 P P.length (fP T0 P key, []) := by
 have hL := nO h
 have hpos := hP.pos
 have hin := hP.inn (P.length - 1) t1
 have hs := hL.sh _ hin
 have hl := (rH hs hP.leaf).1
 have h4 := hs.k4
 have hlen : (eY (aV (gP T0 (gM P))) key).length <= 4 := by
  have := uZ (r := aV (gP T0 (gM P))) (k := key)
  rw [eL] at this
  exact cR this h4
 have hnn : ∀ i, inT T0 i = true -> i ≠ P.getD (P.length - 1) 0 -> gP (fP T0 P key) i = gP T0 i := λ i hi hne => eB (aX.1 hin).1 (aX.1 hi).1 (λ e => hne e.symm)
 refine ⟨t1, by simp [fP, cF], rfl, λ i hi => ?_, λ i hi hlt => hnn i hi (λ e => by subst e; omega), λ i hi x hx => by simp, λ x hx => by simp at hx, List.nodup_nil, t11⟩
 by_cases hne : i = P.getD (P.length - 1) 0
 ·subst hne
  rw [show gP (fP T0 P key) (P.getD (P.length - 1) 0) = eA (eY (aV (gP T0 (gM P))) key) from fH hin, hl]
  exact uI hlen
 rw [show gP (fP T0 P key, ([] : List Int)).1 i = gP T0 i from hnn i hi hne]
 exact hL.sh i hi
theorem aGf {i : Int} (h : inT T i = true) : cF T i (gP T i) = T := by
 have := aX.1 h
 have e : T.pages.set i.toNat (gP T i) = T.pages := by
  unfold gP
  rw [aD, aL t1, fC, jD]
 unfold cF; rw [e]
structure MK (T0 : TrT) (P : List Int) (a : Nat) (R : TrT) (f : Nat) : Prop where
 iu : inT T0 (P.getD (a - 2) 0) = true
 ku : gP R (P.getD (a - 2) 0) = gP T0 (P.getD (a - 2) 0)
 kl : (gP R (P.getD (a - 2) 0)).kids.length = (gP R (P.getD (a - 2) 0)).keys.length + 1
 f1 : f + 1 <= (gP R (P.getD (a - 2) 0)).keys.length
 k4 : (gP R (P.getD (a - 2) 0)).keys.length <= 4
 nd : (gP R (P.getD (a - 2) 0)).kids.Nodup
 lv : ∀ x ∈ (gP R (P.getD (a - 2) 0)).kids, inT T0 x = true /\ lvT T0 x = lvT T0 (P.getD (a - 1) 0)
 lu : lvT T0 (P.getD (a - 2) 0) = lvT T0 (P.getD (a - 1) 0) + 1
theorem DV.place (h : DV T0 P a s) (hv : aN T0 = true) (hP : iQ T0 P) (h2 : 2 <= a) : MK T0 P a s.1 (dE (gP s.1 (P.getD (a - 2) 0)).kids (P.getD (a - 1) 0) - 1).toNat := by
 have hL := nO hv
 have h1 := h.a1
 have iu := hP.inn (a - 2) t1
 obtain ⟨b1, b2, b3, b4⟩ := tC hP h2 h1.2
 have hsu := nZ (hL.sh _ iu) (λ e => by rw [e] at b1; simp at b1)
 have lc := (hsu.2.2.2 _ b1).2
 have ku := h.up _ iu t1
 have hpl := uD b1 b2
 refine ⟨iu, ku, by rw [ku]; exact b2, by rw [ku]; omega, by rw [ku]; exact b3, by rw [ku]; exact hL.nd _ iu, λ x hx => ?_, t1⟩
 rw [ku] at hx
 have := hsu.2.2.2 x hx
 exact ⟨aX.2 this.1, t1⟩
theorem DV.set3 (h : DV T0 P a s) (hv : aN T0 = true) (h2 : 2 <= a) {f : Nat} (hm : MK T0 P a s.1 f) {ia ib bb : Int} {pa pb pu : PgT}
  (ha : ia ∈ (gP s.1 (P.getD (a - 2) 0)).kids) (hb : ib ∈ (gP s.1 (P.getD (a - 2) 0)).kids)
  (sa : sB (lvT T0) T0.pages.length pa (lvT T0 (P.getD (a - 1) 0))) (sb : sB (lvT T0) T0.pages.length pb (lvT T0 (P.getD (a - 1) 0))) (su : sB (lvT T0) T0.pages.length pu (lvT T0 (P.getD (a - 2) 0)))
  (ka : ∀ x ∈ pa.kids, x ∈ (gP s.1 ia).kids \/ x ∈ (gP s.1 ib).kids) (kb : ∀ x ∈ pb.kids, x ∈ (gP s.1 ia).kids \/ x ∈ (gP s.1 ib).kids) (kp : ∀ x ∈ pu.kids, x ∈ (gP s.1 (P.getD (a - 2) 0)).kids)
  (hbb : bb = -1 \/ (bb = ib /\ ib ∉ pu.kids)) : DV T0 P (a - 1) (cF (cF (cF s.1 ia pa) ib pb) (P.getD (a - 2) 0) pu, dR s.2 bb) := by
 have hL := nO hv
 have h1 := h.a1
 obtain ⟨ina, la⟩ := hm.lv _ ha
 obtain ⟨inb, lb⟩ := hm.lv _ hb
 have iu := hm.iu
 have lu := hm.lu
 have toR : ∀ i, inT T0 i = true -> inT s.1 i = true := λ i hi => by have := aX.1 hi; exact aX.2 (by rw [h.len]; exact this)
 have e2 : a - 1 - 1 = a - 2 := by omega
 have hg : ∀ i, inT T0 i = true -> gP (cF (cF (cF s.1 ia pa) ib pb) (P.getD (a - 2) 0) pu) i = if i = P.getD (a - 2) 0 then pu else if i = ib then pb else if i = ia then pa else gP s.1 i := by
  intro i hi
  have hi0 := (aX.1 hi).1
  by_cases c1 : i = P.getD (a - 2) 0
  ·rw [if_pos c1, c1]; exact fH (by rw [gT, gT]; exact toR _ iu)
  rw [if_neg c1, eB (aX.1 iu).1 hi0 (λ e => c1 e.symm)]
  by_cases c2 : i = ib
  ·rw [if_pos c2, c2]; exact fH (by rw [gT]; exact toR _ inb)
  rw [if_neg c2, eB (aX.1 inb).1 hi0 (λ e => c2 e.symm)]
  by_cases c3 : i = ia
  ·rw [if_pos c3, c3]; exact fH (toR _ ina)
  rw [if_neg c3, eB (aX.1 ina).1 hi0 (λ e => c3 e.symm)]
 have hbn : bb = ib -> 0 <= bb := λ e => by rw [e]; exact (aX.1 inb).1
 have hgo : ∀ x, x ∈ dR s.2 bb ↔ x ∈ s.2 \/ (bb = ib /\ x = ib) := λ x => by
  rcases hbb with e | ⟨e, _⟩
  ·rw [e]; unfold dR; rw [if_neg t1]
   have : (0 : Int) <= ib := (aX.1 inb).1
   constructor
   ·exact .inl
   rintro (h | ⟨h, _⟩)
   ·exact h
   omega
  have := hbn e
  unfold dR; rw [if_pos this, e]; simp
 refine ⟨t1, by simp [cF, h.len], h.root, λ i hi => ?_, λ i hi hlt => ?_, λ i hi x hx hxg => ?_, λ x hx => ?_, ?_, ?_⟩
 ·show sB _ _ (gP (cF (cF (cF s.1 ia pa) ib pb) (P.getD (a - 2) 0) pu) i) _
  rw [hg i hi]
  split
  ·rename_i e; rw [e]; exact su
  split
  ·rename_i e; rw [e, lb]; exact sb
  split
  ·rename_i e; rw [e, la]; exact sa
  exact h.sh i hi
 ·show gP (cF (cF (cF s.1 ia pa) ib pb) (P.getD (a - 2) 0) pu) i = _
  rw [e2] at hlt
  rw [hg i hi, if_neg (λ e => by rw [e] at hlt; omega), if_neg (λ e => by rw [e] at hlt; omega), if_neg (λ e => by rw [e] at hlt; omega)]
  exact h.up i hi t1
 ·have hx' : x ∈ (if i = P.getD (a - 2) 0 then pu else if i = ib then pb else if i = ia then pa else gP s.1 i).kids := by
   rw [<- hg i hi]; exact hx
  have lev : ∀ j, inT T0 j = true -> lvT T0 j = lvT T0 (P.getD (a - 1) 0) -> x ∈ (gP s.1 j).kids -> x ∉ dR s.2 bb := λ j hj hlj hxj hxg => by
   rcases (hgo x).1 hxg with hxg | ⟨_, e⟩
   ·exact h.nog j hj x hxj hxg
   have := (nZ (h.sh j hj) (λ e => by rw [e] at hxj; simp at hxj)).2.2.2 x hxj
   rw [e] at this; omega
  split at hx'
  ·rcases (hgo x).1 hxg with hxg | ⟨e1, e⟩
   ·exact h.nog _ iu x (kp x hx') hxg
   rcases hbb with hbb | hbb
   ·have := hbn e1; omega
   exact hbb.2 (e ▸ hx')
  rename_i c1
  split at hx'
  ·rcases kb x hx' with q | q
   ·exact lev _ ina la q hxg
   exact lev _ inb lb q hxg
  split at hx'
  ·rcases ka x hx' with q | q
   ·exact lev _ ina la q hxg
   exact lev _ inb lb q hxg
  rcases (hgo x).1 hxg with hxg | ⟨e1, e⟩
  ·exact h.nog i hi x hx' hxg
  have hl := ((nZ (h.sh i hi) (λ e => by rw [e] at hx'; simp at hx')).2.2.2 x hx').2
  have e3 := h.up i hi (by rw [e] at hl; omega)
  rw [e3] at hx'
  rw [hm.ku] at hb
  exact c1 (hL.par i _ x hi iu hx' (by rw [e]; exact hb))
 ·rw [e2]
  rcases (hgo x).1 hx with hx | ⟨_, e⟩
  ·have := h.gin x hx; exact ⟨this.1, t1⟩
  rw [e]; exact ⟨inb, t1⟩
 ·show (dR s.2 bb).Nodup
  rcases hbb with e | ⟨e, _⟩
  ·rw [e]; unfold dR; rw [if_neg t1]; exact h.nd
  have := hbn e
  unfold dR; rw [if_pos this, e]
  refine bP.2 ⟨h.nd, t11, λ x hx y hy => ?_⟩
  rw [aU] at hy
  intro e4
  have := (h.gin x hx).2
  rw [e4, hy] at this; omega
 have := h.gl
 show (dR s.2 bb).length + (a - 1) <= P.length
 unfold dR
 split
 ·simp only [aA, aG, bA]; omega
 omega
theorem cutK_ok {lv : Int -> Nat} {n l f : Nat} {p : PgT} (h : sB lv n p l) (hl : p.kids.length = p.keys.length + 1) (hf : f + 1 <= p.keys.length) : sB lv n (kO p (f + 1)) l /\ (∀ x ∈ (kO p (f + 1)).kids, x ∈ p.kids) /\ (p.kids.Nodup -> p.kids.getD (f + 1) 0 ∉ (kO p (f + 1)).kids) := by
 obtain ⟨a, b, c, d⟩ := nZ h (λ e => by rw [e] at hl; simp at hl)
 have hsub : ∀ x ∈ (kO p (f + 1)).kids, x ∈ p.kids := λ x hx => by
  rcases bE.1 hx with hx | hx
  ·exact cN hx
  exact dC hx
 have h4 := h.k4
 refine ⟨⟨?_, .inr ⟨a, ?_, rfl, λ x hx => d x (hsub x hx)⟩⟩, hsub, λ hn hm => ?_⟩
 ·simp only [kO, dP, aA, aB, aI]; omega
 ·simp only [kO, dP, aA, aB, aI]; omega
 have hlt : f + 1 < p.kids.length := by omega
 rw [bF hlt] at hm
 have e : p.kids = p.kids.take (f + 1) ++ p.kids[f + 1] :: p.kids.drop (f + 2) := kL hlt
 have hn2 : (p.kids.take (f + 1) ++ p.kids[f + 1] :: p.kids.drop (f + 2)).Nodup := e ▸ hn
 have hn3 := bP.1 hn2
 rcases bE.1 hm with hm | hm
 ·exact absurd rfl (hn3.2.2 _ hm _ dG)
 exact (cK.1 hn3.2.1).1 hm
theorem aJz {lv : Int -> Nat} {n l f : Nat} {v : Int} {p : PgT} (h : sB lv n p l) : sB lv n (mD p f v) l := by
 refine ⟨by simpa [mD] using h.k4, ?_⟩
 rcases h.c with ⟨a, b, c⟩ | ⟨a, b, c, d⟩
 ·exact .inl ⟨a, b, by simpa [mD] using c⟩
 exact .inr ⟨a, by simpa [mD] using b, c, d⟩
theorem DV.next (h : DV T0 P a s) (hv : aN T0 = true) (h2 : 2 <= a) {f : Nat} (hm : MK T0 P a s.1 f) :
  DV T0 P (a - 1) ((eE s.1 (P.getD (a - 2) 0) f).1, dR s.2 (eE s.1 (P.getD (a - 2) 0) f).2) := by
 have hkl := hm.kl
 have hf := hm.f1
 have k1 : f < (gP s.1 (P.getD (a - 2) 0)).kids.length := by omega
 have k2 : f + 1 < (gP s.1 (P.getD (a - 2) 0)).kids.length := by omega
 have ha : (gP s.1 (P.getD (a - 2) 0)).kids.getD f 0 ∈ (gP s.1 (P.getD (a - 2) 0)).kids := by rw [bF k1]; exact aC k1
 have hb : (gP s.1 (P.getD (a - 2) 0)).kids.getD (f + 1) 0 ∈ (gP s.1 (P.getD (a - 2) 0)).kids := by rw [bF k2]; exact aC k2
 have hsu := h.sh _ hm.iu
 obtain ⟨c1, c2, c3⟩ := cutK_ok hsu hkl hf
 have c3 := c3 hm.nd
 obtain ⟨ina, la⟩ := hm.lv _ ha
 obtain ⟨inb, lb⟩ := hm.lv _ hb
 have hsa := h.sh _ ina
 have hsb := h.sh _ inb
 rw [la] at hsa
 rw [lb] at hsb
 have toR : ∀ i, inT T0 i = true -> inT s.1 i = true := λ i hi => by have := aX.1 hi; exact aX.2 (by rw [h.len]; exact this)
 have hne : (gP s.1 (P.getD (a - 2) 0)).kids.getD f 0 ≠ (gP s.1 (P.getD (a - 2) 0)).kids.getD (f + 1) 0 := by
  rw [bF k1, bF k2]
  exact λ e => absurd ((dT.1 hm.nd) f (f + 1) k1 k2 t1) (by simpa using e)
 generalize hia : (gP s.1 (P.getD (a - 2) 0)).kids.getD f 0 = ia at *
 generalize hib : (gP s.1 (P.getD (a - 2) 0)).kids.getD (f + 1) 0 = ib at *
 have four : ∀ {r : List PairT}, ¬ r.length <= 4 -> r.length <= 8 -> (r.take ((r.length + 1) / 2)).length <= 4 /\ (r.drop ((r.length + 1) / 2)).length <= 4 := λ h1 h2 => by
  simp only [aB, aI]; omega
 unfold eE
 rw [hia, hib]
 split
 ·rename_i hk
  obtain ⟨l1, va⟩ := rH hsa hk
  have kb0 : (gP s.1 ib).kids = [] := by
   rcases hsb.c with ⟨_, q, _⟩ | ⟨q, _⟩
   ·exact q
   omega
  have r8 : (aV (gP s.1 ia) ++ aV (gP s.1 ib)).length <= 8 := by
   have := hsa.k4; have := hsb.k4
   rw [aA, eL, eL]; omega
  unfold yN
  split
  ·rename_i h4
   have := h.set3 hv h2 hm ha hb (pa := eA (aV (gP s.1 ia) ++ aV (gP s.1 ib))) (pb := gP s.1 ib) (by rw [l1]; exact uI h4) hsb c1 (λ x hx => by simp [eA] at hx) (λ x hx => .inr hx) c2 (.inr ⟨rfl, c3⟩)
   have e : cF (cF s.1 ia (eA (aV (gP s.1 ia) ++ aV (gP s.1 ib)))) ib (gP s.1 ib) = cF s.1 ia (eA (aV (gP s.1 ia) ++ aV (gP s.1 ib))) := by
    have e2 : gP (cF s.1 ia (eA (aV (gP s.1 ia) ++ aV (gP s.1 ib)))) ib = gP s.1 ib := eB (aX.1 ina).1 (aX.1 inb).1 hne
    have e3 := aGf (T := cF s.1 ia (eA (aV (gP s.1 ia) ++ aV (gP s.1 ib)))) (i := ib) (by rw [gT]; exact toR _ inb)
    rwa [e2] at e3
   rwa [e] at this
  rename_i h4
  have q := four h4 r8
  exact h.set3 hv h2 hm ha hb (by rw [l1]; exact uI q.1) (by rw [l1]; exact uI q.2) (aJz hsu) (λ x hx => by simp [eA] at hx) (λ x hx => by simp [eA] at hx) (λ x hx => hx) (.inl rfl)
 rename_i hk
 obtain ⟨l2, ca, va, da⟩ := nZ hsa hk
 obtain ⟨_, cb, vb, db⟩ := nZ hsb (λ e => by
  have := (rH hsb e).1; omega)
 have hK : (iW s.1 (P.getD (a - 2) 0) ia ib f).length = (gP s.1 ia).keys.length + 1 + (gP s.1 ib).keys.length := by simp [iW]; omega
 have hC : (mI s.1 ia ib).length = (iW s.1 (P.getD (a - 2) 0) ia ib f).length + 1 := by rw [hK]; simp [mI]; omega
 have k9 : (iW s.1 (P.getD (a - 2) 0) ia ib f).length <= 9 := by have := hsa.k4; have := hsb.k4; omega
 have hmem : ∀ x ∈ mI s.1 ia ib, x ∈ (gP s.1 ia).kids \/ x ∈ (gP s.1 ib).kids := λ x hx => bE.1 hx
 have hlev : ∀ x ∈ mI s.1 ia ib, (0 <= x /\ x < (T0.pages.length : Int)) /\ lvT T0 x + 1 = lvT T0 (P.getD (a - 1) 0) := λ x hx => by
  rcases hmem x hx with hx | hx
  ·exact da x hx
  exact db x hx
 unfold yM
 generalize iW s.1 (P.getD (a - 2) 0) ia ib f = ks at *
 generalize mI s.1 ia ib = cs at *
 split
 ·rename_i h4
  have := h.set3 hv h2 hm ha hb (pa := dP ks cs) (pb := gP s.1 ib) ⟨h4, .inr ⟨l2, hC, rfl, hlev⟩⟩ hsb c1 (λ x hx => hmem x hx) (λ x hx => .inr hx) c2 (.inr ⟨rfl, c3⟩)
  have e : cF (cF s.1 ia (dP ks cs)) ib (gP s.1 ib) = cF s.1 ia (dP ks cs) := by
   have e2 : gP (cF s.1 ia (dP ks cs)) ib = gP s.1 ib := eB (aX.1 ina).1 (aX.1 inb).1 hne
   have e3 := aGf (T := cF s.1 ia (dP ks cs)) (i := ib) (by rw [gT]; exact toR _ inb)
   rwa [e2] at e3
  rwa [e] at this
 rename_i h4
 refine h.set3 hv h2 hm ha hb ⟨?_, .inr ⟨l2, ?_, rfl, λ x hx => hlev x (cN hx)⟩⟩ ⟨?_, .inr ⟨l2, ?_, rfl, λ x hx => hlev x (dC hx)⟩⟩ (aJz hsu) (λ x hx => hmem x (cN hx)) (λ x hx => hmem x (dC hx)) (λ x hx => hx) (.inl rfl)
 ·simp only [dP, aB]; omega
 ·simp only [dP, aB]; omega
 ·simp only [dP, aI]; omega
 simp only [dP, aI]; omega
theorem DV.fin (h : DV T0 P a s) (hv : aN T0 = true) (hP : iQ T0 P) : FV (lvT T0) (kZ s).1 (kZ s).2 /\ lvT T0 (kZ s).1.root <= 3 /\ (kZ s).1.pages.length = T0.pages.length /\ (kZ s).2.length <= P.length := by
 have hL := nO hv
 have h1 := h.a1
 have hle : ∀ x ∈ s.2, lvT T0 x < lvT T0 T0.root := λ x hx => fS (h.gin x hx).2 (hL.le _ (hP.inn (a - 1) t1))
 have hrg : T0.root ∉ s.2 := λ hm => by have := hle _ hm; omega
 have fromR : ∀ {n : Nat} {i : Int} {Q : TrT}, Q.pages.length = n -> (inT Q i = true ↔ (0 <= i /\ i < (n : Int))) := λ e => by rw [aX, e]
 have inE : ∀ {i : Int} {Q : TrT}, Q.pages.length = T0.pages.length -> inT Q i = true -> inT T0 i = true := λ e hi => aX.2 (by rw [<- e]; exact aX.1 hi)
 have inE2 : ∀ {i : Int} {Q : TrT}, Q.pages.length = T0.pages.length -> inT T0 i = true -> inT Q i = true := λ e hi => aX.2 (by rw [e]; exact aX.1 hi)
 have hgl := h.gl
 have hlen := h.len
 unfold kZ
 split
 ·rename_i hk
  have k0 : (gP s.1 s.1.root).kids.getD 0 0 ∈ (gP s.1 s.1.root).kids := by rw [bF t1]; exact aC _
  have hir : inT T0 s.1.root = true := by rw [h.root]; exact hL.r3.2
  have hs := (nZ (h.sh _ hir) (λ e => by rw [e] at hk; simp at hk)).2.2.2 _ k0
  have hlr : lvT T0 s.1.root <= 3 := by rw [h.root]; exact hL.r3.1
  generalize (gP s.1 s.1.root).kids.getD 0 0 = r0 at *
  refine ⟨⟨λ i hi => ?_, λ i hi x hx hxg => ?_, λ x hx => ?_, ?_, inE2 hlen (aX.2 hs.1), λ hm => ?_⟩, ?_, hlen, ?_⟩
  ·have := h.sh i (inE hlen hi)
   show sB _ s.1.pages.length (gP s.1 i) _
   rw [hlen]; exact this
  ·have hx' : x ∈ (gP s.1 i).kids := hx
   have hi' := inE hlen hi
   have := (nZ (h.sh i hi') (λ e => by rw [e] at hx'; simp at hx')).2.2.2 x hx'
   have l2 := hL.le i hi'
   rcases bE.1 hxg with hxg | hxg
   ·exact h.nog i hi' x hx' hxg
   rw [aU] at hxg
   rw [hxg, h.root] at this; omega
  ·rcases bE.1 hx with hx | hx
   ·exact inE2 hlen (h.gin x hx).1
   rw [aU] at hx; rw [hx]; exact inE2 hlen hir
  ·refine bP.2 ⟨h.nd, t11, λ x hx y hy e => ?_⟩
   rw [aU] at hy
   rw [e, hy, h.root] at hx
   exact hrg hx
  ·have hm' : r0 ∈ s.2 ++ [s.1.root] := hm
   rcases bE.1 hm' with hm | hm
   ·exact h.nog _ hir r0 k0 hm
   rw [aU] at hm; rw [hm] at hs; omega
  ·show lvT T0 r0 <= 3
   omega
  show (s.2 ++ [s.1.root]).length <= P.length
  simp only [aA, aG, bA]; omega
 refine ⟨⟨λ i hi => ?_, λ i hi => h.nog i (inE hlen hi), λ x hx => inE2 hlen (h.gin x hx).1, h.nd, ?_⟩, by rw [h.root]; exact hL.r3.1, hlen, t1⟩
 ·rw [hlen]; exact h.sh i (inE hlen hi)
 rw [h.root]; exact ⟨inE2 hlen hL.r3.2, hrg⟩
theorem FV.done {lv : Int -> Nat} (h : FV lv R []) (hr : lv R.root <= 3) (hl : R.pages.length <= 64) : WK R := by
 have hw : ∀ d i, inT R i = true -> lv i <= d -> wkB R d i := by
  intro d
  induction d with
  | zero =>
   intro i hi hd
   rcases (h.sh i hi).c with ⟨a, _⟩ | ⟨a, _⟩ <;> omega
  | succ d ih =>
   intro i hi hd
   refine ⟨hi, λ hk => (rH (h.sh i hi) hk).2, λ x hx => ?_⟩
   have := (nZ (h.sh i hi) (λ e => by rw [e] at hx; simp at hx)).2.2.2 x hx
   exact ih x (aX.2 this.1) t1
 have hrt := aX.1 h.root.1
 refine ⟨hw 3 _ h.root.1 hr, t1, λ p hp => ?_⟩
 obtain ⟨k, hk, rfl⟩ := aJ hp
 have hs := h.sh (k : Int) (aX.2 t1)
 have e : gP R (k : Int) = R.pages[k] := by unfold gP; rw [aD, eS, aL hk]; rfl
 rw [e] at hs
 have h4 := hs.k4
 rcases hs.c with ⟨_, b, c⟩ | ⟨_, b, c, _⟩
 ·exact ⟨t1, by simp [b], t1⟩
 exact ⟨t1, t1, by simp [c]⟩
theorem FV.all : ∀ {n : Nat} {lv : Int -> Nat} {R : TrT} {g : List Int}, FV lv R g -> g.length <= n -> lv R.root <= 3 -> R.pages.length <= 64 -> WK (pX n R g)
 | 0, lv, R, [], h, _, hr, hl => by rw [pX]; exact h.done hr hl; simp
 | 0, lv, R, g0 :: l, h, hn, _, _ => by simp at hn
 | n + 1, lv, R, [], h, _, hr, hl => by rw [pX]; exact h.done hr hl; simp
 | n + 1, lv, R, g0 :: l, h, hn, hr, hl => by
  rw [pX]
  have hc := pD (h.gin g0 t11)
  refine FV.all h.cut (by simpa using hn) ?_ t1
  show lv (unI g0 (shI g0 R.root)) <= 3
  rw [vZ (λ e => h.root.2 (by simp [e]))]
  exact hr
end
end Go.Px
end
section
namespace Go.Px
open Go.RowKit
def oF (T : TrT) (i : Int) : Bool := decide ((gP T i).kids = [])
def dA (T : TrT) (d : Nat) (i : Int) : List Int := (aS T d i).filter (oF T)
def dN (T : TrT) : List Int := dA T 3 T.root
def cU (T : TrT) (l : List Int) : List PairT := l.flatMap λ i => aV (gP T i)
def bZ (T : TrT) : List PairT := cU T (dN T)
section
variable {T : TrT}
theorem aPh : ∀ {d e : Nat} {i : Int}, wkB T d i -> d <= e -> aS T e i = aS T d i
 | 0, _, _, h, _ => by cases h
 | d + 1, 0, _, _, h => by omega
 | d + 1, e + 1, i, h, he => by
  simp only [aS]
  congr 1
  have : ∀ l : List Int, (∀ x ∈ l, wkB T d x) -> l.flatMap (aS T e) = l.flatMap (aS T d) := by
   intro l
   induction l with
   | nil => intro _; rfl
   | cons x l ih =>
    intro hl
    rw [aK, aK, aPh (hl x t11) t1, ih λ y hy => hl y (bJ _ hy)]
  exact this _ h.2.2
theorem pJ {d : Nat} {i : Int} (h : (gP T i).kids = []) : dA T (d + 1) i = [i] := by
 simp [dA, aS, h, oF]
theorem sI {d : Nat} {i : Int} (h : (gP T i).kids ≠ []) : dA T (d + 1) i = (gP T i).kids.flatMap (dA T d) := by
 unfold dA
 simp only [aS]
 rw [List.filter_cons, if_neg (by simp [oF, h]), List.filter_flatMap]
theorem tU (h : aN T = true) : dA T (bH T) T.root = dN T := by
 obtain ⟨h1, h2, _, _⟩ := eF h
 unfold dN dA
 rw [aPh (ok_wk h2 (dD _)) h1]
theorem aFn {a b : List Int} : cU T (a ++ b) = cU T a ++ cU T b := by simp [cU]
theorem uB {l : List Int} {k : Nat} (h : k < l.length) : cU T (l.take (k + 1)) = cU T (l.take k) ++ aV (gP T l[k]) := by
 rw [dO h, aFn]; simp [cU]
theorem mL (hs : ∀ p ∈ T.pages, eP p) : ∀ {l : List Int}, (∀ x ∈ l, inT T x = true) -> (cU T l).length <= l.length * 5
 | [], _ => by simp [cU]
 | x :: l, h => by
  have h1 := mL hs (l := l) λ y hy => h y (bJ _ hy)
  have h2 := (iP hs (h x t11)).1
  have h3 : (aV (gP T x)).length = (gP T x).keys.length := eL
  unfold cU at h1 ⊢
  simp only [aK, aA, aG] at h1 ⊢
  omega
theorem qH : ∀ {d : Nat} {i : Int}, (dA T d i).length <= (aS T d i).length := λ {d i} => List.length_filter_le _ _
theorem aEl {p : Int -> Bool} {l : List Int} {k : Nat} (h : k < l.length) : (l.take (k + 1)).filter p = (l.take k).filter p ++ if p l[k] then [l[k]] else [] := by
 rw [dO h, kR]
 congr 1
 rw [List.filter_cons]
 split <;> simp_all
theorem zT {p : Int -> Bool} {l : List Int} {k : Nat} : ((l.take k).filter p).length <= l.length := cR (List.length_filter_le _ _) (by rw [aB]; omega)
theorem pr_leaf {d : Nat} {i : Int} (h : (gP T i).kids = []) : cU T (dA T (d + 1) i) = aV (gP T i) := by
 rw [pJ h]; simp [cU]
end
end Go.Px
end
section
namespace Go.Px
open Go.RowKit
section
variable {L : List PgT} {r : Int}
theorem gP_mem {T : TrT} {i : Int} (h : inT T i = true) : gP T i ∈ T.pages := by
 have h1 := aX.1 h
 unfold gP
 rw [aD, aL t1]
 exact aC _
end
end Go.Px
end
section
namespace Go.Px
open Go.RowKit
section
variable {T T0 R : TrT} {P : List Int} {a : Nat}
theorem fF {r : Int} {A : Option Addr} {c : Nat} {L : List PgL} (h : ∀ p ∈ tsG L, eP p) (hl : L.length <= 1048576) : SzT ⟨r, A, c, L⟩ := by
 refine ⟨hl, λ x hx => ?_⟩
 have := h x.t (bU.2 ⟨x, hx, rfl⟩)
 have h1 : x.k.l.length <= 5 := this.1
 have h2 : x.c.l.length <= 6 := this.2.1
 have h3 : x.v.l.length <= 5 := this.2.2
 omega
theorem aHk (hP : iQ T0 P) : ∀ {a : Nat} {R : TrT}, GI T0 P a R -> (∀ p ∈ (nC P a R).pages, eP p) /\ (nC P a R).pages.length <= T0.pages.length + 4 := by
 intro a
 induction a with
 | zero => intro R h; have := h.a1; omega
 | succ a ih =>
  intro R h
  have h1 := h.a1
  have hl := h.len
  have hp3 := hP.le
  by_cases h4 : (gP R (P.getD a 0)).keys.length <= 4
  ·rw [vG t1 h4]; exact ⟨h.small, t1⟩
  by_cases h0 : a = 0
  ·subst h0
   rw [vF h4]
   have hs := wA h.cur
   refine ⟨?_, by simp [iV, cF]; omega⟩
   show ∀ p ∈ (iV (iV (cF R (P.getD 0 0) (dY (gP R (P.getD 0 0))).1) (dY (gP R (P.getD 0 0))).2.2) (dP [(dY (gP R (P.getD 0 0))).2.1] [P.getD 0 0, (R.pages.length : Int)])).pages, eP p
   exact vO (vO (rI h.small hs.1) hs.2) ⟨by simp [dP], by simp [dP], by simp [dP]⟩
  have := h.next hP t1 (q := _) rfl
  rw [aCd t1 h hP h4 rfl]
  exact ih this
theorem aMb (h : aN T = true) {x : PairT} (hx : bW [x] = true) : (∀ p ∈ (iO T x).pages, eP p) /\ (iO T x).pages.length <= T.pages.length + 4 := aHk (kK h) (GI.start h (kK h) hx)
theorem aCw {x : PairT} {r : Int} {A : Option Addr} {c : Nat} {L : List PgL} (h : aN T = true) (hx : bW [x] = true) (he : (⟨r, tsG L⟩ : TrT) = iO T x) : SzT ⟨r, A, c, L⟩ /\ L.length <= 20 := by
 have h1 := aMb h hx
 rw [<- he] at h1
 have h2 : (tsG L).length = L.length := by simp
 have h3 := (fN h).2
 have h4 : L.length <= 20 := by have := h1.2; simp only [bC] at this; omega
 exact ⟨fF h1.1 t1, h4⟩
theorem aGm {p : PgT} (h : p.kids = []) : dY p = (eA ((aV p).take (((aV p).length + 1) / 2)), (((aV p).drop (((aV p).length + 1) / 2)).getD 0 ⟨0, 0⟩).key, eA ((aV p).drop (((aV p).length + 1) / 2))) := by unfold dY; rw [if_pos h]
theorem aGl {p : PgT} (h : p.kids ≠ []) : dY p = (dP (p.keys.take (p.keys.length / 2)) (p.kids.take (p.keys.length / 2 + 1)), p.keys.getD (p.keys.length / 2) 0, dP (p.keys.drop (p.keys.length / 2 + 1)) (p.kids.drop (p.keys.length / 2 + 1))) := by unfold dY; rw [if_neg h]
theorem jW {r : Int} {L : List PgL} {i : Int} (h : i.toNat < L.length) : gP ⟨r, tsG L⟩ i = (L[i.toNat]'h).t := jH (T := ⟨r, none, 0, L⟩) rfl h
theorem qB {l : List PairT} {k : Nat} (h : k < l.length) : (l.getD k ⟨0, 0⟩).key = (l[k]'h).key := by rw [aD, aL h]; rfl
end
end Go.Px
end
section
namespace Go.Px
open Go.RowKit
theorem aCb {α β : Type} {f : α -> List β} : ∀ {l : List α}, (l.flatMap f).Nodup -> ∀ a ∈ l, (f a).Nodup
 | [], _, a, h => by simp at h
 | b :: l, hn, a, h => by
  rw [aK] at hn
  rcases bV.1 h with rfl | h
  ·exact (bP.1 hn).1
  exact aCb (bP.1 hn).2.1 a h
theorem aEo {α : Type} {f : α -> List α} : ∀ {l : List α}, (l.flatMap f).Nodup -> (∀ a ∈ l, a ∈ f a) -> l.Nodup
 | [], _, _ => by simp
 | b :: l, hn, h => by
  rw [aK] at hn
  obtain ⟨h1, h2, h3⟩ := bP.1 hn
  refine cK.2 ⟨λ hb => ?_, aEo h2 λ a ha => h a (by simp [ha])⟩
  exact h3 b (h b t11) b (aZ.2 ⟨b, hb, h b (by simp [hb])⟩) rfl
section
variable {T R : TrT} {P : List Int} {key : Int}
theorem qN : ∀ {d : Nat} {i low high : Int}, okB T d i low high = true -> (aS T d i).Nodup -> ∀ x ∈ aS T d i, (gP T x).kids.Nodup
 | 0, _, _, _, h, _, _, _ => by simp [okB] at h
 | d + 1, i, low, high, h, hn, x, hx => by
  simp only [aS] at hn hx
  have hn2 := (cK.1 hn).2
  rcases bV.1 hx with rfl | hx
  ·refine aEo hn2 λ a ha => ?_
   obtain ⟨k, hk, rfl⟩ := aJ ha
   have := iC h hk
   cases d with
   | zero => simp [okB] at this
   | succ d => simp [aS]
  obtain ⟨y, hy, hx⟩ := aZ.1 hx
  have hny := aCb hn2 y hy
  obtain ⟨k, hk, rfl⟩ := aJ hy
  exact qN (iC h hk) hny x hx
structure Rg (T : TrT) (key : Int) (P : List Int) (lo hi : Nat -> Int) : Prop where
 ok : ∀ j, j < P.length -> ∃ e, okB T (e + 1) (P.getD j 0) (lo j) (hi j) = true
 inr : ∀ j, j < P.length -> lo j <= key /\ key < hi j
 nd : ∀ j, j < P.length -> (gP T (P.getD j 0)).kids.Nodup
 nx : ∀ j, j + 1 < P.length -> ∃ i, ∃ h : i < (gP T (P.getD j 0)).kids.length, (gP T (P.getD j 0)).kids[i] = P.getD (j + 1) 0 /\ lo (j + 1) = dQ (gP T (P.getD j 0)) (lo j) i /\ hi (j + 1) = cH (gP T (P.getD j 0)) (hi j) i
theorem aOz : ∀ {d : Nat} {i low high : Int}, okB T d i low high = true -> (aS T d i).Nodup -> low <= key -> key < high -> ∃ lo hi, Rg T key (iY T key d i) lo hi /\ lo 0 = low /\ hi 0 = high
 | 0, _, _, _, h, _, _, _ => by simp [okB] at h
 | d + 1, i, low, high, h, hn, h1, h2 => by
  have hnd := qN h hn i (by simp [aS])
  by_cases hk : (gP T i).kids = []
  ·rw [nI hk]
   refine ⟨λ _ => low, λ _ => high, ⟨λ j hj => ?_, λ _ _ => ⟨h1, h2⟩, λ j hj => ?_, λ j hj => ?_⟩, rfl, rfl⟩
   ·simp only [List.length_singleton] at hj
    obtain rfl : j = 0 := by omega
    exact ⟨d, h⟩
   ·simp only [List.length_singleton] at hj
    obtain rfl : j = 0 := by omega
    exact hnd
   simp at hj
  have hlt := nL (key := key) h hk
  have hok := iC h hlt
  have hu := rK (gP T i).keys key
  have hin := (lQ (dL.1 h).2.1 hk).2
  have hsn : (aS T d ((gP T i).kids[gW (gP T i).keys key])).Nodup := by
   simp only [aS] at hn
   exact aCb (cK.1 hn).2 _ (aC hlt)
  have ha : dQ (gP T i) low (gW (gP T i).keys key) <= key := by
   by_cases h0 : gW (gP T i).keys key = 0
   ·rw [gH h0]; exact h1
   rw [gB h0 t1]; exact aDi t1
  have hb : key < cH (gP T i) high (gW (gP T i).keys key) := by
   by_cases h0 : gW (gP T i).keys key < (gP T i).keys.length
   ·rw [fU h0]; exact vS h0
   rw [gZ h0]; exact h2
  obtain ⟨lo, hi, hr, hl0, hh0⟩ := aOz hok hsn ha hb
  have hp0 := (yV (key := key) hok hsn).2.2.2.2.1
  rw [qM h hk]
  refine ⟨λ j => match j with | 0 => low | j + 1 => lo j, λ j => match j with | 0 => high | j + 1 => hi j, ⟨λ j hj => ?_, λ j hj => ?_, λ j hj => ?_, λ j hj => ?_⟩, rfl, rfl⟩
  ·cases j with
   | zero => exact ⟨d, h⟩
   | succ j => simp only [aG] at hj; exact hr.ok j t1
  ·cases j with
   | zero => exact ⟨h1, h2⟩
   | succ j => simp only [aG] at hj; exact hr.inr j t1
  ·cases j with
   | zero => exact hnd
   | succ j => simp only [aG] at hj; exact hr.nd j t1
  cases j with
  | zero => exact ⟨_, hlt, by simp only [mH]; rw [hp0]; rfl, hl0, hh0⟩
  | succ j => simp only [aG] at hj; exact hr.nx j t1
theorem path_rg (h : aN T = true) (h1 : 0 <= key) (h2 : key < 100) : ∃ lo hi, Rg T key (aY T key) lo hi := by
 obtain ⟨_, h3, h4, _⟩ := eF h
 obtain ⟨lo, hi, h5, _⟩ := aOz (key := key) h3 h4 h1 h2
 exact ⟨lo, hi, h5⟩
theorem mid_in {p : PgT} (hc : aEb p) (h5 : ¬ p.keys.length <= 4) (hv : bR p.keys = true) : (dY p).2.1 ∈ p.keys /\ ∀ lo, (∀ k ∈ p.keys, lo <= k) -> lo < (dY p).2.1 := by
 have hasc := (bQ.1 hv).2
 have key : ∀ n, ∀ h : n < p.keys.length, 0 < n -> p.keys[n] ∈ p.keys /\ ∀ lo, (∀ k ∈ p.keys, lo <= k) -> lo < p.keys[n] := λ n h h0 =>
  ⟨aC h, λ lo hlo => by
   have h1 := hlo _ (aC (show 0 < p.keys.length by omega))
   have h2 := iG hasc 0 n h0 h
   omega⟩
 rcases hc.2 with ⟨hk, hvl, _⟩ | ⟨hk, _⟩
 ·have hl : (aV p).length = p.keys.length := eL
  have hn : (aV p).length / 2 < p.keys.length /\ ((aV p).length + 1) / 2 < p.keys.length /\ 0 < ((aV p).length + 1) / 2 := by omega
  have he : (dY p).2.1 = p.keys[((aV p).length + 1) / 2]'hn.2.1 := by
   unfold dY
   rw [if_pos hk]
   have hd : 0 < ((aV p).drop (((aV p).length + 1) / 2)).length := by rw [aI]; omega
   show (((aV p).drop (((aV p).length + 1) / 2)).getD 0 ⟨0, 0⟩).key = _
   rw [aD, aL hd]
   simp only [fC, lN, Nat.add_zero]
   rw [uE hn.2.1 t1]
  rw [he]; exact key _ hn.2.1 hn.2.2
 have hne : p.kids ≠ [] := λ e => by rw [e] at hk; simp at hk
 have hn : p.keys.length / 2 < p.keys.length /\ 0 < p.keys.length / 2 := by omega
 have he : (dY p).2.1 = p.keys[p.keys.length / 2]'hn.1 := by
  unfold dY
  rw [if_neg hne]
  show p.keys.getD (p.keys.length / 2) 0 = _
  rw [bF hn.1]
 rw [he]; exact key _ hn.1 hn.2
structure OI (P : List Int) (lo hi : Nat -> Int) (a : Nat) (R : TrT) : Prop where
 vk : bR (gP R (P.getD (a - 1) 0)).keys = true
 rg : ∀ k ∈ (gP R (P.getD (a - 1) 0)).keys, lo (a - 1) <= k /\ k < hi (a - 1)
theorem lF {p : PgT} {low high : Int} : lE p low high = true ↔ ∀ k ∈ p.keys, low <= k /\ k < high := by
 simp [lE, dV]
theorem OI.start {lo hi : Nat -> Int} (h : aN T = true) (hP : iQ T P) {x : PairT} (hx : bW [x] = true) (hr : Rg T x.key P lo hi) : OI P lo hi P.length (kP T P x) := by
 have hpos := hP.pos
 have hin := hP.inn (P.length - 1) t1
 have hfr := hP.fr (P.length - 1) t1
 have hv := gI hfr hP.leaf
 have h4 := iA hfr
 obtain ⟨e, hok⟩ := hr.ok (P.length - 1) t1
 have hki := lF.1 (dL.1 hok).2.2.1
 have hkr := hr.inr (P.length - 1) t1
 have hput := aAy hv (by rw [eL]; omega) hx
 have hg : gP (kP T P x) (P.getD (P.length - 1) 0) = eA (hH (aV (gP T (gM P))) x) := fH hin
 have hk : (eA (hH (aV (gP T (gM P))) x)).keys = bG (hH (aV (gP T (gM P))) x) := by rw [<- iZ, aAx]
 refine ⟨by rw [hg, hk]; exact (eM.1 hput).2.2, ?_⟩
 rw [hg, hk]
 intro k hkm
 obtain ⟨p, hp, rfl⟩ := bU.1 hkm
 have h5 := (bQ.1 (eM.1 hv).2.2).2
 rcases (aCv h5 x p).1 hp with rfl | ⟨hp, _⟩
 ·exact hkr
 refine hki _ ?_
 rw [<- iZ (p := gP T (P.getD (P.length - 1) 0))]
 exact bU.2 ⟨p, hp, rfl⟩
theorem aJe {l : List Int} {i : Nat} {m : Int} (h : asc l = true) (hi : i <= l.length) (h1 : ∀ h0 : i ≠ 0, l[i - 1]'t1 < m) (h2 : ∀ h0 : i < l.length, m < l[i]) : asc (l.take i ++ [m] ++ l.drop i) = true := by
 rw [fD] at h ⊢
 have hl := bT i l
 rw [<- hl] at h
 obtain ⟨a1, a2, a3⟩ := cO.1 h
 have hlt : ∀ x ∈ l.take i, x < m := by
  intro x hx
  obtain ⟨k, hk, rfl⟩ := aJ hx
  simp only [aB] at hk
  rw [iJ]
  have h3 := h1 t1
  by_cases hki : k = i - 1
  ·subst hki; exact h3
  have := iG ((fD.2 (by rw [hl] at h; exact h))) k (i - 1) t1 t1; omega
 have hgt : ∀ x ∈ l.drop i, m < x := by
  intro x hx
  obtain ⟨k, hk, rfl⟩ := aJ hx
  simp only [aI] at hk
  rw [lN]
  have h3 := h2 t1
  by_cases hk0 : k = 0
  ·subst hk0; simpa using h3
  have := iG ((fD.2 (by rw [hl] at h; exact h))) i (i + k) t1 t1; omega
 refine cO.2 ⟨cO.2 ⟨a1, t11, λ x hx y hy => ?_⟩, a2, λ x hx y hy => ?_⟩
 ·rw [aU] at hy; subst hy; exact hlt x hx
 rcases bE.1 hx with hx | hx
 ·exact a3 x hx y hy
 rw [aU] at hx; subst hx; exact hgt y hy
theorem aAb {lo hi : Nat -> Int} {a : Nat} {q : PgT} (h2 : 2 <= a) (ha : a <= P.length) (hP : iQ T P) (hr : Rg T key P lo hi) (hc : aEb (gP R (P.getD (a - 1) 0))) (hO : OI P lo hi a R) (h5 : ¬ (gP R (P.getD (a - 1) 0)).keys.length <= 4) (n : Int)
  (hq : q = kN (gP T (P.getD (a - 2) 0)) (dE (gP T (P.getD (a - 2) 0)).kids (P.getD (a - 1) 0)) (dY (gP R (P.getD (a - 1) 0))).2.1 n) :
  bR q.keys = true /\ (∀ k ∈ q.keys, lo (a - 2) <= k /\ k < hi (a - 2)) /\ (n ∉ (gP T (P.getD (a - 2) 0)).kids -> q.kids.Nodup) /\ ∀ x ∈ q.kids, x = n \/ x ∈ (gP T (P.getD (a - 2) 0)).kids := by
 have hnx := hr.nx (a - 2) t1
 rw [show a - 2 + 1 = a - 1 by omega] at hnx
 obtain ⟨i, hi1, hi2, hi3, hi4⟩ := hnx
 have hnd := hr.nd (a - 2) t1
 have hpl : dE (gP T (P.getD (a - 2) 0)).kids (P.getD (a - 1) 0) = (i : Int) := by
  refine aCu hi1 hi2 λ x hx => ?_
  obtain ⟨k, hk, rfl⟩ := aJ hx
  simp only [aB] at hk
  rw [iJ, <- hi2]
  exact (dT.1 hnd) k i t1 hi1 t1
 rw [hpl] at hq
 obtain ⟨e, hok⟩ := hr.ok (a - 2) t1
 have hki := lF.1 (dL.1 hok).2.2.1
 have hvk := kI (dL.1 hok).2.1
 have hne : (gP T (P.getD (a - 2) 0)).kids ≠ [] := λ e => by rw [e] at hi1; simp at hi1
 have hln := (lQ (dL.1 hok).2.1 hne).2
 obtain ⟨hm1, hm2⟩ := mid_in hc h5 hO.vk
 have hmr := hO.rg _ hm1
 have hml := hm2 _ (λ k hk => (hO.rg k hk).1)
 obtain ⟨hv1, hv2⟩ := bQ.1 hvk
 generalize (dY (gP R (P.getD (a - 1) 0))).2.1 = m at hq hm1 hmr hml
 rw [hi3] at hml
 rw [hi4] at hmr
 have b1 : ∀ h0 : i ≠ 0, (gP T (P.getD (a - 2) 0)).keys[i - 1]'t1 < m := λ h0 => by rwa [gB h0 t1] at hml
 have b2 : ∀ h0 : i < (gP T (P.getD (a - 2) 0)).keys.length, m < (gP T (P.getD (a - 2) 0)).keys[i] := λ h0 => by have := hmr.2; rwa [fU h0] at this
 have hmid : lo (a - 2) <= m /\ m < hi (a - 2) := by
  constructor
  ·by_cases h0 : i = 0
   ·rw [gH h0] at hml; omega
   have := hki _ (aC (show i - 1 < (gP T (P.getD (a - 2) 0)).keys.length by omega)); have := b1 h0; omega
  by_cases h0 : i < (gP T (P.getD (a - 2) 0)).keys.length
  ·have := hki _ (aC h0); have := b2 h0; omega
  have := hmr.2; rwa [gZ h0] at this
 have hqk : q.keys = (gP T (P.getD (a - 2) 0)).keys.take i ++ [m] ++ (gP T (P.getD (a - 2) 0)).keys.drop i := by rw [hq]; simp [kN, dP]
 have hqc : q.kids = (gP T (P.getD (a - 2) 0)).kids.take (i + 1) ++ [n] ++ (gP T (P.getD (a - 2) 0)).kids.drop (i + 1) := by rw [hq]; simp [kN, dP]
 have hmem : ∀ k ∈ q.keys, k = m \/ k ∈ (gP T (P.getD (a - 2) 0)).keys := by
  rw [hqk]; intro k hk
  simp only [bE, aU] at hk
  rcases hk with (hk | hk) | hk
  ·exact .inr (cN hk)
  ·exact .inl hk
  exact .inr (dC hk)
 have hmv := (bQ.1 hO.vk).1 m hm1
 refine ⟨bQ.2 ⟨λ k hk => ?_, by rw [hqk]; exact aJe hv2 t1 b1 b2⟩, λ k hk => ?_, λ hn => ?_, λ x hx => ?_⟩
 ·rcases hmem k hk with rfl | hk
  ·exact hmv
  exact hv1 k hk
 ·rcases hmem k hk with rfl | hk
  ·exact hmid
  exact hki k hk
 ·rw [hqc]
  have hl := bT (i + 1) (gP T (P.getD (a - 2) 0)).kids
  have hnd2 := hnd
  rw [<- hl] at hnd2
  obtain ⟨c1, c2, c3⟩ := bP.1 hnd2
  refine bP.2 ⟨bP.2 ⟨c1, t11, λ x hx y hy e => ?_⟩, c2, λ x hx y hy e => ?_⟩
  ·rw [aU] at hy; subst hy e; exact hn (cN hx)
  rcases bE.1 hx with hx | hx
  ·exact c3 x hx y hy e
  rw [aU] at hx; subst hx e; exact hn (dC hy)
 rw [hqc] at hx
 simp only [bE, aU] at hx
 rcases hx with (hx | hx) | hx
 ·exact .inr (cN hx)
 ·exact .inl hx
 exact .inr (dC hx)
theorem aEr (P : List Int) : ∀ (a : Nat) (R : TrT), R.pages.length <= (nC P a R).pages.length
 | 0, R => dD _
 | a + 1, R => by
  simp only [nC]
  split
  ·exact dD _
  split
  ·simp [iV, cF]
  refine cR ?_ (aEr P a _)
  simp [iV, cF]
theorem aPk {T : TrT} (h : 16 < T.pages.length) : aN T = false := by
 cases hv : aN T with
 | false => rfl
 | true => have := (fN hv).2; omega
end
end Go.Px
end
section
namespace Go.Px
open Go.RowKit
def okM (m : Int -> Nat) (R : TrT) : Nat -> Int -> Int -> Int -> Prop
 | 0, _, _, _ => False
 | d + 1, i, lo, hi => inT R i = true /\ ((gP R i).keys.length <= 4 /\ m i <= (gP R i).keys.length) /\ bR (gP R i).keys = true /\ (∀ k ∈ (gP R i).keys, lo <= k /\ k < hi) /\
  ((d = 0 /\ (gP R i).kids = [] /\ (gP R i).vals.length = (gP R i).keys.length /\ (gP R i).vals.all fA = true) \/
   (d ≠ 0 /\ (gP R i).vals = [] /\ (gP R i).kids.length = (gP R i).keys.length + 1 /\ ∀ k, k < (gP R i).kids.length -> okM m R d ((gP R i).kids.getD k 0) (dQ (gP R i) lo k) (cH (gP R i) hi k)))
def mT (r : Int) (i : Int) : Nat := if i = r then 0 else 2
def mC (r c : Int) (i : Int) : Nat := if i = r then 0 else if i = c then 1 else 2
section
variable {m m' : Int -> Nat} {T R R' U : TrT} {d D : Nat} {i u lo hi : Int}
theorem pK (h : okM m R d i lo hi) : ∃ e, d = e + 1 := by
 cases d with
 | zero => exact h.elim
 | succ d => exact ⟨d, rfl⟩
theorem gU (h : okM m R d i lo hi) : i ∈ aS R d i := by
 obtain ⟨e, rfl⟩ := pK h
 simp [aS]
theorem okB_M : ∀ {d : Nat} {i lo hi : Int}, okB T d i lo hi = true -> okM (mT T.root) T d i lo hi
 | 0, _, _, _, h => by simp [okB] at h
 | d + 1, i, lo, hi, h => by
  obtain ⟨h1, h2, h3, h4⟩ := dL.1 h
  have h5 := iA h2
  have h6 : i = T.root \/ 2 <= (gP T i).keys.length := by
   have := h2
   simp only [frB, aW, Bool.or_eq_true, decide_eq_true_eq] at this
   exact this.1.2
  refine ⟨h1, ⟨h5, ?_⟩, kI h2, lF.1 h3, ?_⟩
  ·unfold mT; split <;> omega
  rcases h4 with ⟨a, b⟩ | ⟨a, b, c⟩
  ·exact .inl ⟨a, b, jS h2 b⟩
  refine .inr ⟨a, ?_, (lQ h2 b).2, λ k hk => okB_M (c k hk)⟩
  have := h2
  unfold frB at this
  rw [if_neg b] at this
  simp only [aW, decide_eq_true_eq] at this
  first | exact this.2.1.1 | exact this.1.2.1 | exact this.2.1
theorem okM_B : ∀ {d : Nat} {i lo hi : Int}, okM (mT T.root) T d i lo hi -> (aS T d i).Nodup -> (i = T.root \/ T.root ∉ aS T d i) -> (i = T.root -> (gP T i).kids ≠ [] -> 1 <= (gP T i).keys.length) -> okB T d i lo hi = true
 | 0, _, _, _, h, _, _, _ => h.elim
 | d + 1, i, lo, hi, h, hn, hr, h1k => by
  obtain ⟨h1, ⟨h2, h3⟩, h4, h5, h6⟩ := h
  simp only [aS] at hn hr
  have hn2 := cK.1 hn
  have hm : i = T.root \/ 2 <= (gP T i).keys.length := by
   by_cases he : i = T.root
   ·exact .inl he
   right; unfold mT at h3; rw [if_neg he] at h3; exact h3
  refine dL.2 ⟨h1, ?_, lF.2 h5, ?_⟩
  ·unfold frB
   simp only [aW, Bool.or_eq_true, decide_eq_true_eq]
   refine ⟨⟨⟨h2, h4⟩, hm⟩, ?_⟩
   rcases h6 with ⟨_, b, c, e⟩ | ⟨_, b, c, _⟩
   ·rw [if_pos b]; simp only [aW, decide_eq_true_eq]; exact ⟨c, e⟩
   have hk : (gP T i).kids ≠ [] := λ e9 => by rw [e9] at c; simp at c
   rw [if_neg hk]
   simp only [aW, decide_eq_true_eq]
   refine ⟨⟨b, ?_⟩, c⟩
   rcases hm with hm | hm
   ·exact h1k hm hk
   omega
  rcases h6 with ⟨a, b, _⟩ | ⟨a, b, c, e⟩
  ·exact .inl ⟨a, b⟩
  refine .inr ⟨a, λ e9 => by rw [e9] at c; simp at c, λ k hk => ?_⟩
  have hkm : (gP T i).kids.getD k 0 ∈ (gP T i).kids := by rw [bF hk]; exact aC hk
  have hok := e k hk
  have hown := gU hok
  have hne : T.root ∉ aS T d ((gP T i).kids.getD k 0) := λ hin => by
   have hf : T.root ∈ (gP T i).kids.flatMap (aS T d) := aZ.2 ⟨_, hkm, hin⟩
   rcases hr with hr | hr
   ·exact hn2.1 (hr ▸ hf)
   exact hr (bJ _ hf)
  exact okM_B hok (rC hn2.2 _ hkm) (.inr hne) (λ e9 => absurd (e9 ▸ hown) hne)
theorem sJ : ∀ {d : Nat} {i lo hi : Int}, okM m R d i lo hi -> (∀ x, inT R x = true -> inT R' x = true) -> (∀ x ∈ aS R d i, gP R' x = gP R x /\ m' x <= (gP R x).keys.length) -> okM m' R' d i lo hi /\ aS R' d i = aS R d i
 | 0, _, _, _, h, _, _ => h.elim
 | d + 1, i, lo, hi, h, hin, hs => by
  obtain ⟨h1, ⟨h2, h3⟩, h4, h5, h6⟩ := h
  obtain ⟨g1, g2⟩ := hs i (by simp [aS])
  have hk : ∀ k, (hk : k < (gP R i).kids.length) -> ∀ x ∈ aS R d ((gP R i).kids.getD k 0), gP R' x = gP R x /\ m' x <= (gP R x).keys.length := λ k hk x hx => by
   refine hs x ?_
   simp only [aS]
   rw [bF hk] at hx
   exact bJ _ (aZ.2 ⟨_, aC hk, hx⟩)
  refine ⟨?_, ?_⟩
  ·rw [show okM m' R' (d + 1) i lo hi = _ from rfl]
   simp only [okM, g1]
   refine ⟨hin _ h1, ⟨h2, g2⟩, h4, h5, ?_⟩
   rcases h6 with h6 | ⟨a, b, c, e⟩
   ·exact .inl h6
   exact .inr ⟨a, b, c, λ k hk2 => (sJ (e k hk2) hin (hk k hk2)).1⟩
  simp only [aS, g1]
  congr 1
  rcases h6 with ⟨_, b, _⟩ | ⟨a, b, c, e⟩
  ·rw [b]; rfl
  have hall : ∀ x ∈ (gP R i).kids, aS R' d x = aS R d x := λ x hx => by
   obtain ⟨k, hk2, rfl⟩ := aJ hx
   have := (sJ (e k hk2) hin (hk k hk2)).2
   rwa [bF hk2] at this
  generalize (gP R i).kids = l at hall
  induction l with
  | nil => rfl
  | cons x l ih =>
   rw [aK, aK, hall x t11, ih λ y hy => hall y (bJ _ hy)]
theorem nF : ∀ {d : Nat} {i lo hi : Int}, okM m R d i lo hi -> ∀ x ∈ aS R d i, inT R x = true /\ m x <= (gP R x).keys.length
 | 0, _, _, _, h, _, _ => h.elim
 | d + 1, i, lo, hi, h, x, hx => by
  obtain ⟨h1, ⟨h2, h3⟩, h4, h5, h6⟩ := h
  simp only [aS] at hx
  rcases bV.1 hx with rfl | hx
  ·exact ⟨h1, h3⟩
  obtain ⟨y, hy, hx⟩ := aZ.1 hx
  rcases h6 with ⟨_, b, _⟩ | ⟨a, b, c, e⟩
  ·rw [b] at hy; simp at hy
  obtain ⟨k, hk, rfl⟩ := aJ hy
  have := e k hk
  rw [bF hk] at this
  exact nF this x hx
theorem aDc : ∀ {d : Nat} {i lo hi : Int}, okM m R d i lo hi -> ∀ {x y : Int}, x ∈ aS R d i -> y ∈ (gP R x).kids -> y ∈ aS R d i
 | 0, _, _, _, h, _, _, _, _ => h.elim
 | d + 1, i, lo, hi, h, x, y, hx, hy => by
  obtain ⟨h1, ⟨h2, h3⟩, h4, h5, h6⟩ := h
  simp only [aS] at hx ⊢
  rcases h6 with ⟨_, b, _⟩ | ⟨a, b, c, e⟩
  ·rw [b] at hx
   simp only [List.flatMap_nil, aU] at hx
   rw [hx, b] at hy; simp at hy
  rcases bV.1 hx with rfl | hx
  ·obtain ⟨k, hk, rfl⟩ := aJ hy
   have := e k hk
   rw [bF hk] at this
   exact bJ _ (aZ.2 ⟨_, aC hk, gU this⟩)
  obtain ⟨z, hz, hx⟩ := aZ.1 hx
  refine bJ _ (aZ.2 ⟨z, hz, ?_⟩)
  obtain ⟨k, hk, rfl⟩ := aJ hz
  have := e k hk
  rw [bF hk] at this
  exact aDc this hx hy
theorem wS : ∀ {D : Nat} {i LO HI : Int}, okM m R D i LO HI -> (aS R D i).Nodup -> u ∈ aS R D i -> ∃ d lo hi rest, okM m R (d + 1) u lo hi /\ d + 1 <= D /\ (aS R D i).Perm (aS R (d + 1) u ++ rest) /\ (i = u \/ i ∈ rest) /\
  ∀ (m' : Int -> Nat) (R' : TrT), (∀ x, inT R x = true -> inT R' x = true) -> (∀ x ∈ rest, gP R' x = gP R x /\ m' x <= (gP R x).keys.length) -> okM m' R' (d + 1) u lo hi -> okM m' R' D i LO HI /\ (aS R' D i).Perm (aS R' (d + 1) u ++ rest)
 | 0, _, _, _, h, _, _ => h.elim
 | D + 1, i, LO, HI, h, hn, hu => by
  by_cases hiu : i = u
  ·subst hiu
   exact ⟨D, LO, HI, [], h, dD _, t11, .inl rfl, λ m' R' _ _ h' => ⟨h', t11⟩⟩
  have h0 := h
  obtain ⟨h1, ⟨h2, h3⟩, h4, h5, h6⟩ := h
  simp only [aS] at hn hu
  have hn2 := cK.1 hn
  rcases bV.1 hu with hu | hu
  ·exact absurd hu.symm hiu
  obtain ⟨c, hc, hu⟩ := aZ.1 hu
  rcases h6 with ⟨_, b, _⟩ | ⟨a, b, cl, e⟩
  ·rw [b] at hc; simp at hc
  obtain ⟨k, hk, rfl⟩ := aJ hc
  have ek := e k hk
  rw [bF hk] at ek
  obtain ⟨d, lo, hi, rest, q1, q2, q3, q4, q5⟩ := wS ek (rC hn2.2 _ (aC hk)) hu
  have hsp := kL hk
  have hfl : ∀ Q : TrT, (gP R i).kids.flatMap (aS Q D) = ((gP R i).kids.take k).flatMap (aS Q D) ++ (aS Q D (gP R i).kids[k] ++ ((gP R i).kids.drop (k + 1)).flatMap (aS Q D)) := λ Q => by
   conv => lhs; rw [hsp]
   rw [bD, aK]
  have perm3 : ∀ (A B C S : List Int), C.Perm (S ++ rest) -> (i :: (A ++ (C ++ B))).Perm (S ++ (i :: (A ++ B ++ rest))) := λ A B C S hp => dJ.2 λ z => by
   have := dJ.1 hp z
   simp only [jN, mQ] at *
   omega
  refine ⟨d, lo, hi, i :: (((gP R i).kids.take k).flatMap (aS R D) ++ ((gP R i).kids.drop (k + 1)).flatMap (aS R D) ++ rest), q1, t1, ?_, .inr t11, λ m' R' hin hre hok => ?_⟩
  ·simp only [aS]
   rw [hfl R]
   exact perm3 _ _ _ _ q3
  obtain ⟨g1, g2⟩ := hre i t11
  obtain ⟨q6, q7⟩ := q5 m' R' hin (λ x hx => hre x (by simp [hx])) hok
  have hoth : ∀ j, (hj : j < (gP R i).kids.length) -> j ≠ k -> okM m' R' D (gP R i).kids[j] (dQ (gP R i) LO j) (cH (gP R i) HI j) /\ aS R' D (gP R i).kids[j] = aS R D (gP R i).kids[j] := λ j hj hjk => by
   have ej := e j hj
   rw [bF hj] at ej
   refine sJ ej hin λ x hx => hre x ?_
   refine bJ _ (dZ _ ?_)
   rcases fB j k with hlt | hge
   ·exact dZ _ (aZ.2 ⟨_, dH.2 ⟨j, t1, rfl⟩, hx⟩)
   exact eQ _ (aZ.2 ⟨_, dS.2 ⟨j - (k + 1), t1, by congr 1; omega⟩, hx⟩)
  have hfe : ∀ l : List Int, (∀ x ∈ l, aS R' D x = aS R D x) -> l.flatMap (aS R' D) = l.flatMap (aS R D) := by
   intro l
   induction l with
   | nil => intro _; rfl
   | cons x l ih => intro hl; rw [aK, aK, hl x t11, ih λ y hy => hl y (bJ _ hy)]
  refine ⟨?_, ?_⟩
  ·simp only [okM, g1]
   refine ⟨hin _ h1, ⟨h2, g2⟩, h4, h5, .inr ⟨a, b, cl, λ j hj => ?_⟩⟩
   rw [bF hj]
   by_cases hjk : j = k
   ·subst hjk; exact q6
   exact (hoth j hj hjk).1
  simp only [aS, g1]
  rw [hfl R', hfe _ (λ x hx => by
   obtain ⟨j, hj, rfl⟩ := dH.1 hx
   exact (hoth j t1 t1).2), hfe ((gP R i).kids.drop (k + 1)) (λ x hx => by
   obtain ⟨j, hj, rfl⟩ := dS.1 hx
   have := (hoth (k + 1 + j) t1 t1).2
   exact this)]
  exact perm3 _ _ _ _ q7
def rT (f : Int -> Int) (p : PgT) : PgT := ⟨p.keys, p.kids.map f, p.vals⟩
theorem aCp {f : Int -> Int} : ∀ {d : Nat} {i lo hi : Int}, okM m R d i lo hi -> (∀ x ∈ aS R d i, inT U (f x) = true /\ gP U (f x) = rT f (gP R x) /\ m' (f x) <= (gP R x).keys.length) ->
  okM m' U d (f i) lo hi /\ aS U d (f i) = (aS R d i).map f
 | 0, _, _, _, h, _ => h.elim
 | d + 1, i, lo, hi, h, hs => by
  obtain ⟨h1, ⟨h2, h3⟩, h4, h5, h6⟩ := h
  obtain ⟨g0, g1, g2⟩ := hs i (by simp [aS])
  have hk : ∀ k, (hk : k < (gP R i).kids.length) -> ∀ x ∈ aS R d ((gP R i).kids.getD k 0), inT U (f x) = true /\ gP U (f x) = rT f (gP R x) /\ m' (f x) <= (gP R x).keys.length := λ k hk x hx => by
   refine hs x ?_
   simp only [aS]
   rw [bF hk] at hx
   exact bJ _ (aZ.2 ⟨_, aC hk, hx⟩)
  refine ⟨?_, ?_⟩
  ·simp only [okM, g1]
   refine ⟨g0, ⟨h2, g2⟩, h4, h5, ?_⟩
   rcases h6 with ⟨a, b, c, e⟩ | ⟨a, b, c, e⟩
   ·exact .inl ⟨a, by simp [rT, b], c, e⟩
   refine .inr ⟨a, b, by simpa [rT] using c, λ k hk2 => ?_⟩
   have hk3 : k < (gP R i).kids.length := by simpa [rT] using hk2
   have := (aCp (e k hk3) (hk k hk3)).1
   rw [bF hk3] at this
   rw [bF hk2]
   simp only [rT, cI]
   exact this
  simp only [aS, g1, mN]
  congr 1
  rcases h6 with ⟨_, b, _⟩ | ⟨a, b, c, e⟩
  ·simp [rT, b]
  have hall : ∀ x ∈ (gP R i).kids, aS U d (f x) = (aS R d x).map f := λ x hx => by
   obtain ⟨k, hk2, rfl⟩ := aJ hx
   have := (aCp (e k hk2) (hk k hk2)).2
   rwa [bF hk2] at this
  simp only [rT]
  generalize (gP R i).kids = l at hall
  induction l with
  | nil => rfl
  | cons x l ih =>
   simp only [mN, aK, dW]
   rw [hall x t11, ih λ y hy => hall y (bJ _ hy)]
end
end Go.Px
end
section
namespace Go.Px
open Go.RowKit
theorem wM {a b : List Int} {k : Nat} {z : Int} : (a ++ b).getD k z = if k < a.length then a.getD k z else b.getD (k - a.length) z := by
 rw [aD, List.getElem?_append]
 split <;> rw [<- aD]
theorem wY {l : List Int} {n k : Nat} {z : Int} (h : k < n) : (l.take n).getD k z = l.getD k z := by
 rw [aD, List.getElem?_take, if_pos h, <- aD]
theorem wP {l : List Int} {n k : Nat} {z : Int} : (l.drop n).getD k z = l.getD (n + k) z := by
 rw [aD, mV, <- aD]
theorem tL {l : List Int} {f k : Nat} {z : Int} (hf : f < l.length) : (l.take f ++ l.drop (f + 1)).getD k z = if k < f then l.getD k z else l.getD (k + 1) z := by
 have hl : (l.take f).length = f := by rw [aB]; omega
 rw [wM, hl]
 by_cases h : k < f
 ·rw [if_pos h, if_pos h, wY h]
 rw [if_neg h, if_neg h, wP]; congr 1; omega
theorem aKb {l : List Int} {f k : Nat} {v z : Int} (hf : f < l.length) : (l.set f v).getD k z = if k = f then v else l.getD k z := by
 rw [aD, List.getElem?_set]
 by_cases h : f = k
 ·subst h; rw [if_pos rfl, if_pos hf, if_pos rfl]; rfl
 rw [if_neg h, if_neg (λ e => h e.symm), <- aD]
theorem aMw {l : List Int} {f : Nat} (h : asc l = true) : asc (l.take f ++ l.drop (f + 1)) = true := by
 rw [fD] at h ⊢
 refine h.sublist ?_
 conv => rhs; rw [<- bT f l]
 refine List.Sublist.append (List.Sublist.refl _) ?_
 rw [<- List.drop_drop]
 exact nQ _ _
theorem asc_set {l : List Int} {f : Nat} {v : Int} (hf : f < l.length) (h : asc l = true) (h1 : f ≠ 0 -> l.getD (f - 1) 0 < v) (h2 : f + 1 < l.length -> v < l.getD (f + 1) 0) : asc (l.set f v) = true := by
 have e : l.set f v = (l.take f ++ l.drop (f + 1)).take f ++ [v] ++ (l.take f ++ l.drop (f + 1)).drop f := by
  have hl : (l.take f).length = f := by rw [aB]; omega
  rw [bY, if_pos hf, List.take_left' hl, List.drop_left' hl]
  simp
 have hle : (l.take f ++ l.drop (f + 1)).length = l.length - 1 := by simp only [aA, aB, aI]; omega
 rw [e]
 refine aJe (aMw h) t1 (λ h0 => ?_) (λ h0 => ?_)
 ·have := h1 h0
  rw [<- bF, tL hf, if_pos t1]; exact this
 have := h2 t1
 rw [<- bF, tL hf, if_neg t1]; exact this
theorem aOg {p : PgT} {f k : Nat} {lo : Int} (hf : f < p.keys.length) : dQ (kO p (f + 1)) lo k = dQ p lo (if k <= f then k else k + 1) := by
 have e2 : ∀ j, (kO p (f + 1)).keys.getD j 0 = if j < f then p.keys.getD j 0 else p.keys.getD (j + 1) 0 := λ j => by rw [show (kO p (f + 1)).keys = p.keys.take f ++ p.keys.drop (f + 1) from rfl, tL hf]
 unfold dQ
 rw [e2]
 by_cases h : k <= f
 ·rw [if_pos h]
  by_cases h0 : k = 0
  ·rw [if_pos h0, if_pos h0]
  rw [if_neg h0, if_neg h0, if_pos (show k - 1 < f by omega)]
 rw [if_neg h, if_neg (show ¬ k = 0 by omega), if_neg (show ¬ k + 1 = 0 by omega), if_neg (show ¬ k - 1 < f by omega)]
 congr 1; omega
theorem aLh {p : PgT} {f k : Nat} {hi : Int} (hf : f < p.keys.length) : cH (kO p (f + 1)) hi k = cH p hi (if k < f then k else k + 1) := by
 have e2 : ∀ j, (kO p (f + 1)).keys.getD j 0 = if j < f then p.keys.getD j 0 else p.keys.getD (j + 1) 0 := λ j => by rw [show (kO p (f + 1)).keys = p.keys.take f ++ p.keys.drop (f + 1) from rfl, tL hf]
 have e3 : (kO p (f + 1)).keys.length = p.keys.length - 1 := by
  rw [show (kO p (f + 1)).keys = p.keys.take f ++ p.keys.drop (f + 1) from rfl]; simp only [aA, aB, aI]; omega
 unfold cH
 rw [e2, e3]
 by_cases h : k < f
 ·rw [if_pos h, if_pos h, if_pos (show k < p.keys.length - 1 by omega), if_pos (show k < p.keys.length by omega)]
 rw [if_neg h, if_neg h]
 by_cases h9 : k + 1 < p.keys.length
 ·rw [if_pos h9, if_pos (show k < p.keys.length - 1 by omega)]
 rw [if_neg h9, if_neg (show ¬ k < p.keys.length - 1 by omega)]
theorem aOh {p : PgT} {f k : Nat} {lo v : Int} (hf : f < p.keys.length) : dQ (mD p f v) lo k = if k = f + 1 then v else dQ p lo k := by
 unfold dQ
 rw [show (mD p f v).keys = p.keys.set f v from rfl, aKb hf]
 by_cases h0 : k = 0
 ·rw [if_pos h0, if_pos h0, if_neg (show ¬ k = f + 1 by omega)]
 rw [if_neg h0, if_neg h0]
 by_cases h1 : k = f + 1
 ·rw [if_pos h1, if_pos (show k - 1 = f by omega)]
 rw [if_neg h1, if_neg (show ¬ k - 1 = f by omega)]
theorem aLi {p : PgT} {f k : Nat} {hi v : Int} (hf : f < p.keys.length) : cH (mD p f v) hi k = if k = f then v else cH p hi k := by
 unfold cH
 rw [show (mD p f v).keys = p.keys.set f v from rfl, aKb hf, eW]
 by_cases h1 : k = f
 ·rw [if_pos h1, if_pos h1, if_pos (show k < p.keys.length by omega)]
 rw [if_neg h1, if_neg h1]
section
variable {m m' : Int -> Nat} {T R R' U : TrT} {d D f : Nat} {i u lo hi v a b c : Int} {pa pb : PgT}
structure InM (m : Int -> Nat) (R : TrT) (d : Nat) (u lo hi : Int) : Prop where
 inn : inT R u = true
 k4 : (gP R u).keys.length <= 4 /\ m u <= (gP R u).keys.length
 vk : bR (gP R u).keys = true
 rg : ∀ k ∈ (gP R u).keys, lo <= k /\ k < hi
 d0 : d ≠ 0
 vs : (gP R u).vals = []
 kl : (gP R u).kids.length = (gP R u).keys.length + 1
 kd : ∀ k, (hk : k < (gP R u).kids.length) -> okM m R d (gP R u).kids[k] (dQ (gP R u) lo k) (cH (gP R u) hi k)
theorem rD (h : okM m R (d + 1) u lo hi) (hk : (gP R u).kids ≠ []) : InM m R d u lo hi := by
 obtain ⟨h1, h2, h4, h5, h6⟩ := h
 rcases h6 with ⟨_, b, _⟩ | ⟨a, b, c, e⟩
 ·exact absurd b hk
 exact ⟨h1, h2, h4, h5, a, b, c, λ k hk2 => by have := e k hk2; rwa [bF hk2] at this⟩
structure LfM (m : Int -> Nat) (R : TrT) (u lo hi : Int) : Prop where
 inn : inT R u = true
 k4 : (gP R u).keys.length <= 4 /\ m u <= (gP R u).keys.length
 vk : bR (gP R u).keys = true
 rg : ∀ k ∈ (gP R u).keys, lo <= k /\ k < hi
 c0 : (gP R u).kids = []
 vl : (gP R u).vals.length = (gP R u).keys.length
 va : (gP R u).vals.all fA = true
theorem aCo (h : okM m R d u lo hi) (hk : (gP R u).kids = []) : d = 1 /\ LfM m R u lo hi := by
 obtain ⟨e, rfl⟩ := pK h
 obtain ⟨h1, h2, h4, h5, h6⟩ := h
 rcases h6 with ⟨a, b, c, e⟩ | ⟨_, _, c, _⟩
 ·exact ⟨t1, h1, h2, h4, h5, b, c, e⟩
 rw [hk] at c; simp at c
theorem aFj (h : okM m R 1 u lo hi) : LfM m R u lo hi := by
 obtain ⟨h1, h2, h4, h5, h6⟩ := h
 rcases h6 with ⟨a, b, c, e⟩ | ⟨a, _⟩
 ·exact ⟨h1, h2, h4, h5, b, c, e⟩
 exact absurd rfl a
theorem rE {r : List PairT} (hi1 : inT R u = true) (hg : gP R u = eA r) (h4 : r.length <= 4) (hm : m u <= r.length) (hv : bR (bG r) = true) (hr : ∀ k ∈ bG r, lo <= k /\ k < hi) (hva : ∀ p ∈ r, fA p.val = true) : okM m R 1 u lo hi := by
 have hk : (eA r).keys = bG r := rfl
 have hl : (bG r).length = r.length := by simp [bG]
 refine ⟨hi1, ?_⟩
 rw [hg]
 refine ⟨⟨by rw [hk, hl]; exact h4, by rw [hk, hl]; exact hm⟩, hv, hr, .inl ⟨rfl, rfl, ?_, ?_⟩⟩
 ·rw [hk, hl]; simp [eA]
 simp only [eA, List.all_map, dV]
 exact λ p hp => hva p hp
theorem LfM.val (h : LfM m R u lo hi) : ∀ p ∈ aV (gP R u), fA p.val = true := by
 intro p hp
 obtain ⟨k, hk, rfl⟩ := aJ hp
 rw [eL] at hk
 have hvl := h.vl
 rw [uE hk t1]
 exact dV.1 h.va _ (aC _)
theorem InM.mem_nd (h : InM m R d u lo hi) (hn : (aS R (d + 1) u).Nodup) : u ∉ (gP R u).kids.flatMap (aS R d) /\ ((gP R u).kids.flatMap (aS R d)).Nodup /\ (gP R u).kids.Nodup := by
 simp only [aS] at hn
 have hn2 := cK.1 hn
 refine ⟨hn2.1, hn2.2, aCk hn2.2 λ y hy => ?_⟩
 obtain ⟨k, hk, rfl⟩ := aJ hy
 exact gU (h.kd k hk)
theorem InM.oth (h : InM m R d u lo hi) (hn : (aS R (d + 1) u).Nodup) (hf : f + 1 < (gP R u).kids.length) (hin : ∀ x, inT R x = true -> inT R' x = true)
  (hfr : ∀ x, inT R x = true -> x ≠ u -> x ∈ aS R (d + 1) u -> x ∉ aS R d ((gP R u).kids.getD f 0) -> x ∉ aS R d ((gP R u).kids.getD (f + 1) 0) -> gP R' x = gP R x /\ m' x <= (gP R x).keys.length) :
  ∀ j, (hj : j < (gP R u).kids.length) -> j ≠ f -> j ≠ f + 1 -> okM m' R' d (gP R u).kids[j] (dQ (gP R u) lo j) (cH (gP R u) hi j) /\ aS R' d (gP R u).kids[j] = aS R d (gP R u).kids[j] := by
 intro j hj h1 h2
 obtain ⟨n1, n2, n3⟩ := h.mem_nd hn
 have hne : ∀ k, (hk : k < (gP R u).kids.length) -> j ≠ k -> (gP R u).kids[j] ≠ (gP R u).kids[k] := λ k hk hjk e => by
  rcases Nat.lt_or_gt_of_ne hjk with h3 | h3
  ·exact (dT.1 n3) j k hj hk h3 e
  exact (dT.1 n3) k j hk hj h3 e.symm
 have ej := h.kd j hj
 refine sJ ej hin λ x hx => ?_
 have hfm : x ∈ (gP R u).kids.flatMap (aS R d) := aZ.2 ⟨_, aC hj, hx⟩
 refine hfr x (nF ej x hx).1 (λ e => n1 (e ▸ hfm)) (by simp only [aS]; exact bJ _ hfm) (λ hx2 => ?_) (λ hx2 => ?_)
 ·rw [bF t1] at hx2
  exact hne f t1 h1 (pZ n2 (aC hj) (aC (show f < _ by omega)) hx hx2)
 rw [bF hf] at hx2
 exact hne (f + 1) hf h2 (pZ n2 (aC hj) (aC hf) hx hx2)
theorem xY {g : Int -> List Int} {l : List Int} (hf : f + 1 < l.length) : l.flatMap g = (l.take f).flatMap g ++ (g l[f] ++ (g l[f + 1] ++ (l.drop (f + 2)).flatMap g)) := by
 conv => lhs; rw [kL (show f < l.length by omega), cB hf]
 rw [bD, aK, aK]
theorem qW {g g' : Int -> List Int} : ∀ {l : List Int}, (∀ x ∈ l, g' x = g x) -> l.flatMap g' = l.flatMap g
 | [], _ => rfl
 | x :: l, h => by rw [aK, aK, h x t11, qW λ y hy => h y (bJ _ hy)]
theorem InM.one (h : InM m R d u lo hi) (hn : (aS R (d + 1) u).Nodup) (hf : f + 1 < (gP R u).kids.length) (hin : ∀ x, inT R x = true -> inT R' x = true)
  (hfr : ∀ x, inT R x = true -> x ≠ u -> x ∈ aS R (d + 1) u -> x ∉ aS R d ((gP R u).kids.getD f 0) -> x ∉ aS R d ((gP R u).kids.getD (f + 1) 0) -> gP R' x = gP R x /\ m' x <= (gP R x).keys.length)
  (hu : gP R' u = kO (gP R u) (f + 1)) (hmu : m' u <= (gP R u).keys.length - 1)
  (ha : okM m' R' d ((gP R u).kids.getD f 0) (dQ (gP R u) lo f) (cH (gP R u) hi (f + 1)))
  (hs : (aS R' d ((gP R u).kids.getD f 0) ++ [(gP R u).kids.getD (f + 1) 0]).Perm (aS R d ((gP R u).kids.getD f 0) ++ aS R d ((gP R u).kids.getD (f + 1) 0))) :
  okM m' R' (d + 1) u lo hi /\ (aS R' (d + 1) u ++ [(gP R u).kids.getD (f + 1) 0]).Perm (aS R (d + 1) u) := by
 have ho := h.oth hn hf hin hfr
 have hkl := h.kl
 have hk4 := h.k4
 have hvk := bQ.1 h.vk
 have hfk : f < (gP R u).keys.length := by omega
 have hks : (kO (gP R u) (f + 1)).keys = (gP R u).keys.take f ++ (gP R u).keys.drop (f + 1) := rfl
 have hcs : (kO (gP R u) (f + 1)).kids = (gP R u).kids.take (f + 1) ++ (gP R u).kids.drop (f + 1 + 1) := rfl
 have hkse : (kO (gP R u) (f + 1)).keys.length = (gP R u).keys.length - 1 := by rw [hks]; simp only [aA, aB, aI]; omega
 have hcse : (kO (gP R u) (f + 1)).kids.length = (gP R u).kids.length - 1 := by rw [hcs]; simp only [aA, aB, aI]; omega
 have hkm : ∀ k ∈ (kO (gP R u) (f + 1)).keys, k ∈ (gP R u).keys := λ k hk => by
  rw [hks] at hk
  rcases bE.1 hk with hk | hk
  ·exact cN hk
  exact dC hk
 refine ⟨?_, ?_⟩
 ·simp only [okM, hu]
  refine ⟨hin _ h.inn, ⟨t1, t1⟩, bQ.2 ⟨λ k hk => hvk.1 k (hkm k hk), aMw hvk.2⟩, λ k hk => h.rg k (hkm k hk), .inr ⟨h.d0, rfl, t1, λ k hk => ?_⟩⟩
  have e1 : (kO (gP R u) (f + 1)).kids.getD k 0 = if k < f + 1 then (gP R u).kids.getD k 0 else (gP R u).kids.getD (k + 1) 0 := by rw [hcs, tL hf]
  rw [e1, aOg hfk, aLh hfk]
  rcases Nat.lt_trichotomy k f with hkf | hkf | hkf
  ·have hk2 : k < (gP R u).kids.length := by omega
   have := (ho k hk2 t1 t1).1
   rw [if_pos (show k < f + 1 by omega), if_pos (show k <= f by omega), if_pos hkf, bF hk2]; exact this
  ·subst hkf
   rw [if_pos (show k < k + 1 by omega), if_pos (dD k), if_neg (Nat.lt_irrefl k)]; exact ha
  have hk2 : k + 1 < (gP R u).kids.length := by omega
  have := (ho (k + 1) hk2 t1 t1).1
  rw [if_neg (show ¬ k < f + 1 by omega), if_neg (show ¬ k <= f by omega), if_neg (show ¬ k < f by omega), bF hk2]; exact this
 simp only [aS, hu]
 have e3 : (kO (gP R u) (f + 1)).kids = (gP R u).kids.take f ++ ((gP R u).kids[f] :: (gP R u).kids.drop (f + 2)) := by
  rw [hcs, dO (show f < (gP R u).kids.length by omega), bO]; rfl
 rw [e3, bD, aK, xY (g := aS R d) hf]
 rw [qW (g := aS R d) (g' := aS R' d) (l := (gP R u).kids.take f) (λ x hx => by
  obtain ⟨j, hj, rfl⟩ := dH.1 hx
  exact (ho j t1 t1 t1).2)]
 rw [qW (g := aS R d) (g' := aS R' d) (l := (gP R u).kids.drop (f + 2)) (λ x hx => by
  obtain ⟨j, hj, rfl⟩ := dS.1 hx
  exact (ho (f + 2 + j) t1 t1 t1).2)]
 rw [bF (show f < (gP R u).kids.length by omega), bF hf] at hs
 rw [bF hf]
 refine dJ.2 λ z => ?_
 have := dJ.1 hs z
 simp only [jN, mQ, List.count_nil] at *
 omega
theorem InM.two (h : InM m R d u lo hi) (hn : (aS R (d + 1) u).Nodup) (hf : f + 1 < (gP R u).kids.length) (hin : ∀ x, inT R x = true -> inT R' x = true)
  (hfr : ∀ x, inT R x = true -> x ≠ u -> x ∈ aS R (d + 1) u -> x ∉ aS R d ((gP R u).kids.getD f 0) -> x ∉ aS R d ((gP R u).kids.getD (f + 1) 0) -> gP R' x = gP R x /\ m' x <= (gP R x).keys.length)
  (hu : gP R' u = mD (gP R u) f v) (hmu : m' u <= (gP R u).keys.length) (hv : 0 <= v /\ v <= 99) (hvl : dQ (gP R u) lo f < v) (hvh : v < cH (gP R u) hi (f + 1))
  (ha : okM m' R' d ((gP R u).kids.getD f 0) (dQ (gP R u) lo f) v) (hb : okM m' R' d ((gP R u).kids.getD (f + 1) 0) v (cH (gP R u) hi (f + 1)))
  (hs : (aS R' d ((gP R u).kids.getD f 0) ++ aS R' d ((gP R u).kids.getD (f + 1) 0)).Perm (aS R d ((gP R u).kids.getD f 0) ++ aS R d ((gP R u).kids.getD (f + 1) 0))) :
  okM m' R' (d + 1) u lo hi /\ (aS R' (d + 1) u).Perm (aS R (d + 1) u) := by
 have ho := h.oth hn hf hin hfr
 have hkl := h.kl
 have hk4 := h.k4
 have hvk := bQ.1 h.vk
 have hfk : f < (gP R u).keys.length := by omega
 have hkm : ∀ k ∈ (gP R u).keys.set f v, k = v \/ k ∈ (gP R u).keys := λ k hk => (List.mem_or_eq_of_mem_set hk).symm
 have hr : lo <= v /\ v < hi := by
  constructor
  ·by_cases h0 : f = 0
   ·rw [gH h0] at hvl; omega
   rw [gB h0 t1] at hvl; have := h.rg _ (aC (show f - 1 < (gP R u).keys.length by omega)); omega
  by_cases h0 : f + 1 < (gP R u).keys.length
  ·rw [fU h0] at hvh; have := h.rg _ (aC h0); omega
  rwa [gZ h0] at hvh
 refine ⟨?_, ?_⟩
 ·simp only [okM, hu]
  have hks : (mD (gP R u) f v).keys = (gP R u).keys.set f v := rfl
  have hcs : (mD (gP R u) f v).kids = (gP R u).kids := rfl
  have hvs : (mD (gP R u) f v).vals = (gP R u).vals := rfl
  rw [hks, hcs, hvs]
  refine ⟨hin _ h.inn, ⟨by simp; omega, by simp; omega⟩, bQ.2 ⟨λ k hk => ?_, asc_set hfk hvk.2 (λ h0 => ?_) (λ h0 => ?_)⟩, λ k hk => ?_, .inr ⟨h.d0, h.vs, by simpa using hkl, λ k hk => ?_⟩⟩
  ·rcases hkm k hk with rfl | hk
   ·exact hv
   exact hvk.1 k hk
  ·rw [gB h0 t1] at hvl; rwa [bF t1]
  ·rw [fU h0] at hvh; rwa [bF h0]
  ·rcases hkm k hk with rfl | hk
   ·exact hr
   exact h.rg k hk
  rw [aOh hfk, aLi hfk]
  by_cases h1 : k = f
  ·subst h1
   rw [if_neg (show ¬ k = k + 1 by omega), if_pos rfl]; exact ha
  by_cases h2 : k = f + 1
  ·subst h2
   rw [if_pos rfl, if_neg h1]; exact hb
  rw [if_neg h2, if_neg h1, bF hk]; exact (ho k hk h1 h2).1
 simp only [aS, hu]
 rw [show (mD (gP R u) f v).kids = (gP R u).kids from rfl, xY (g := aS R d) hf, xY (g := aS R' d) hf]
 rw [qW (g := aS R d) (g' := aS R' d) (l := (gP R u).kids.take f) (λ x hx => by
  obtain ⟨j, hj, rfl⟩ := dH.1 hx
  exact (ho j t1 t1 t1).2)]
 rw [qW (g := aS R d) (g' := aS R' d) (l := (gP R u).kids.drop (f + 2)) (λ x hx => by
  obtain ⟨j, hj, rfl⟩ := dS.1 hx
  exact (ho (f + 2 + j) t1 t1 t1).2)]
 rw [bF (show f < (gP R u).kids.length by omega), bF hf] at hs
 refine dJ.2 λ z => ?_
 have := dJ.1 hs z
 simp only [jN, mQ] at *
 omega
end
end Go.Px
end
section
namespace Go.Px
open Go.RowKit
def xR (l : List PgT) (g : Int) (k : Nat) : List PgT := ((l.take k).eraseIdx g.toNat).map (cutP g)
theorem aIz {l : List PgT} {g : Int} {k : Nat} (hk : k < l.length) (hg : 0 <= g) (h : (k : Int) ≠ g) : xR l g (k + 1) = xR l g k ++ [cutP g l[k]] := by
 unfold xR
 rw [dO hk]
 by_cases h1 : g.toNat < k
 ·rw [List.eraseIdx_append_of_lt_length (by rw [aB]; omega), dW]; rfl
 rw [List.eraseIdx_of_length_le (by rw [aA, aB, List.length_singleton]; omega), List.eraseIdx_of_length_le (by rw [aB]; omega), dW]; rfl
theorem aIy {l : List PgT} {g : Int} {k : Nat} (hk : k < l.length) (h : (k : Int) = g) : xR l g (k + 1) = xR l g k := by
 unfold xR
 have hg : g.toNat = k := by omega
 rw [dO hk, hg, List.eraseIdx_append_of_length_le (by rw [aB]; omega), aB, dX t1, nS, List.eraseIdx_of_length_le (l := l.take k) (by rw [aB]; omega)]
 simp
theorem aNe {l : List PgT} {g : Int} {k : Nat} : (xR l g k).length <= l.length := by
 unfold xR
 rw [bC]
 exact cR (List.length_eraseIdx_le _ _) (by rw [aB]; omega)
theorem aNd {T : TrT} {g : Int} {k : Nat} {r : Int} (hk : T.pages.length <= k) (hr : r = shI g T.root) {L : List PgT} (h : L = xR T.pages g k) : (⟨r, L⟩ : TrT) = lV T g := by
 rw [hr, h]; unfold xR lV
 rw [aE hk]
theorem qZ {f : Int -> Int} {l : List Int} {k : Nat} (hk : k < l.length) (h : k < ((l.take k).map f ++ l.drop k).length) : ((l.take k).map f ++ l.drop k)[k] = l[k] := by
 rw [List.getElem_append_right t13]
 simp [dX (Nat.le_of_lt hk)]
theorem tX {f : Int -> Int} {l : List Int} {k : Nat} (hk : k < l.length) : ((l.take k).map f ++ l.drop k).set k (f l[k]) = (l.take (k + 1)).map f ++ l.drop (k + 1) := by
 have e : ((l.take k).map f).length = k := by rw [bC, aB]; omega
 rw [lM _ _ t1, e, nS, cB hk, List.set_cons_zero, dO hk, dW]
 simp
theorem rB {f : Int -> Int} {l : List Int} {k : Nat} : ((l.take k).map f ++ l.drop k).length = l.length := by
 rw [aA, bC, aB, aI]; omega
theorem aCj {f : Int -> Int} {l : List Int} {k : Nat} (hk : l.length <= k) : (l.take k).map f ++ l.drop k = l.map f := by
 rw [aE hk, List.drop_eq_nil_of_le hk, cS]
theorem xV {l : List PairT} {k : Int} (h : cT l k = true) : eY l k = l.take (plc l k) ++ l.drop (plc l k + 1) := by
 unfold eY nW; rw [if_pos h, if_pos h]
theorem tH {l : List PairT} {k : Int} (h : cT l k = false) : eY l k = [] := by unfold eY; rw [h]; rfl
section
variable {P : Program} {w0 w : World} {R : List (Option Nat)} {M : List (List FE)} {l : List PgL} {e : TypeId}
theorem aHy (l : List PgL) {j : Nat} (hj : j < l.length) : (l.flatMap (pgF e))[3 * j]? = some ⟨.slice l[j].k.A l[j].k.l.length l[j].k.cp, e, 1, l[j].k.l.length, l[j].k.l.map I⟩ := by
 have := pg_get (l := l) (e := e) hj (r := 0) t1
 rw [Nat.add_zero] at this
 rw [this]; rfl
theorem vL (l : List PgL) {j : Nat} (hj : j < l.length) {f : Nat} {v : Int} (hf : f < l[j].k.l.length) : (l.flatMap (pgF e)).set (3 * j) ⟨.slice l[j].k.A l[j].k.l.length l[j].k.cp, e, 1, l[j].k.l.length, (l[j].k.l.set f v).map I⟩ = (l.set j (⟨⟨l[j].k.A, l[j].k.cp, l[j].k.l.set f v⟩, l[j].c, l[j].v⟩ : PgL)).flatMap (pgF e) := by
 have := pg_setk (l := l) (e := e) hj (s := ⟨l[j].k.A, l[j].k.cp, l[j].k.l.set f v⟩)
 rw [<- this]
 unfold slF
 simp only [eW]
theorem sE (l : List PgL) {j : Nat} (hj : j < l.length) {f : Nat} {v : Int} : l.flatMap encPg = (l.set j (⟨⟨l[j].k.A, l[j].k.cp, l[j].k.l.set f v⟩, l[j].c, l[j].v⟩ : PgL)).flatMap encPg := aNn hj rfl t11 rfl
end
end Go.Px
end
section
namespace Go.Px
open Go.RowKit
theorem Ru.bmax {P : Program} {σ : Sig} {w : World} {dst : Option Tmp} {T : TypeId} {pos : String} {after : Array Edge} {g : Option (Nat × Bool)} {x y : Operand} {t t' : TypeId} {a b : Int} (hx : ev σ x = I a) (hy : ev σ y = I b) : Ru P σ ⟨dst, .call ⟨.builtin .max, #[x, y], #[t, t']⟩, T, pos, after, g⟩ w (I (max a b)) := by
 have e : max a b = if b > a then b else a := by split <;> omega
 rw [e]
 simp [Ru, execOp, resolve, invoke, builtin, hx, hy, Builtin.max_, Builtin.max2]
structure MD (T : TrT) (up : Int) (f : Nat) (a b : Int) : Prop where
 iu : inT T up = true
 ia : inT T a = true
 ib : inT T b = true
 ea : (gP T up).kids.getD f 0 = a
 eb : (gP T up).kids.getD (f + 1) 0 = b
 kl : (gP T up).kids.length = (gP T up).keys.length + 1
 f1 : f + 1 <= (gP T up).keys.length
 nab : a ≠ b
 nua : up ≠ a
 nub : up ≠ b
 sm : ∀ p ∈ T.pages, eP p
 lf : (gP T a).kids = [] -> (gP T a).vals.length = (gP T a).keys.length /\ (gP T b).vals.length = (gP T b).keys.length
 inn : (gP T a).kids ≠ [] -> (gP T a).kids.length = (gP T a).keys.length + 1 /\ (gP T b).kids.length = (gP T b).keys.length + 1
section
variable {T T0 : TrT} {P : List Int} {s : TrT × List Int} {up a b : Int} {f n : Nat} {L : List PgT}
theorem DV.small (h : DV T0 P n s) : ∀ p ∈ s.1.pages, eP p := λ p hp => by
 obtain ⟨k, hk, rfl⟩ := aJ hp
 have hs := h.sh (k : Int) (aX.2 ⟨t1, by rw [<- h.len]; omega⟩)
 have e : gP s.1 (k : Int) = s.1.pages[k] := by unfold gP; rw [aD, eS, aL hk]; rfl
 rw [e] at hs
 have h4 := hs.k4
 rcases hs.c with ⟨_, b, c⟩ | ⟨_, b, c, _⟩
 ·exact ⟨t1, by simp [b], t1⟩
 exact ⟨t1, t1, by simp [c]⟩
theorem DV.md (h : DV T0 P n s) (hm : MK T0 P n s.1 f) : MD s.1 (P.getD (n - 2) 0) f ((gP s.1 (P.getD (n - 2) 0)).kids.getD f 0) ((gP s.1 (P.getD (n - 2) 0)).kids.getD (f + 1) 0) := by
 have hkl := hm.kl
 have hf := hm.f1
 have k1 : f < (gP s.1 (P.getD (n - 2) 0)).kids.length := by omega
 have k2 : f + 1 < (gP s.1 (P.getD (n - 2) 0)).kids.length := by omega
 have ha : (gP s.1 (P.getD (n - 2) 0)).kids.getD f 0 ∈ (gP s.1 (P.getD (n - 2) 0)).kids := by rw [bF k1]; exact aC k1
 have hb : (gP s.1 (P.getD (n - 2) 0)).kids.getD (f + 1) 0 ∈ (gP s.1 (P.getD (n - 2) 0)).kids := by rw [bF k2]; exact aC k2
 obtain ⟨ina, la⟩ := hm.lv _ ha
 obtain ⟨inb, lb⟩ := hm.lv _ hb
 have lu := hm.lu
 have hsa := h.sh _ ina
 have hsb := h.sh _ inb
 rw [la] at hsa
 rw [lb] at hsb
 have toR : ∀ i, inT T0 i = true -> inT s.1 i = true := λ i hi => by have := aX.1 hi; exact aX.2 (by rw [h.len]; exact this)
 refine ⟨toR _ hm.iu, toR _ ina, toR _ inb, rfl, rfl, hkl, hf, ?_, λ e => by rw [<- e] at la; omega, λ e => by rw [<- e] at lb; omega, h.small, λ hk => ?_, λ hk => ?_⟩
 ·rw [bF k1, bF k2]
  exact λ e => absurd ((dT.1 hm.nd) f (f + 1) k1 k2 t1) (by simpa using e)
 ·obtain ⟨l1, va⟩ := rH hsa hk
  rcases hsb.c with ⟨_, _, q⟩ | ⟨q, _⟩
  ·exact ⟨va, q⟩
  omega
 obtain ⟨l2, ca, _⟩ := nZ hsa hk
 obtain ⟨_, cb, _⟩ := nZ hsb (λ e => by have := (rH hsb e).1; omega)
 exact ⟨ca, cb⟩
theorem aHr (h : MD T up f a b) (hk : (gP T a).kids = []) (h4 : (aV (gP T a) ++ aV (gP T b)).length <= 4) (hL : L = (T.pages.set a.toNat (eA (aV (gP T a) ++ aV (gP T b)))).set up.toNat (kO (gP T up) (f + 1))) : (⟨T.root, L⟩ : TrT) = (eE T up f).1 /\ (eE T up f).2 = b := by
 unfold eE
 rw [h.ea, h.eb, if_pos hk]
 unfold yN
 rw [if_pos h4, hL]
 exact ⟨rfl, rfl⟩
theorem aHs (h : MD T up f a b) (hk : (gP T a).kids = []) {r : List PairT} (hr : r = aV (gP T a) ++ aV (gP T b)) (h4 : ¬ r.length <= 4) (hL : L = ((T.pages.set a.toNat (eA (r.take ((r.length + 1) / 2)))).set b.toNat (eA (r.drop ((r.length + 1) / 2)))).set up.toNat (mD (gP T up) f (r.getD ((r.length + 1) / 2) ⟨0, 0⟩).key)) : (⟨T.root, L⟩ : TrT) = (eE T up f).1 /\ (eE T up f).2 = -1 := by
 unfold eE
 rw [h.ea, h.eb, if_pos hk]
 unfold yN
 rw [<- hr, if_neg h4, hL]
 exact ⟨rfl, rfl⟩
theorem aLs (h : MD T up f a b) (hk : (gP T a).kids ≠ []) (h4 : (iW T up a b f).length <= 4) (hL : L = (T.pages.set a.toNat (dP (iW T up a b f) (mI T a b))).set up.toNat (kO (gP T up) (f + 1))) : (⟨T.root, L⟩ : TrT) = (eE T up f).1 /\ (eE T up f).2 = b := by
 unfold eE
 rw [h.ea, h.eb, if_neg hk]
 unfold yM
 rw [if_pos h4, hL]
 exact ⟨rfl, rfl⟩
theorem aLt (h : MD T up f a b) (hk : (gP T a).kids ≠ []) {ks cs : List Int} (hks : ks = iW T up a b f) (hcs : cs = mI T a b) (h4 : ¬ ks.length <= 4) (hL : L = ((T.pages.set a.toNat (dP (ks.take (ks.length / 2)) (cs.take (ks.length / 2 + 1)))).set b.toNat (dP (ks.drop (ks.length / 2 + 1)) (cs.drop (ks.length / 2 + 1)))).set up.toNat (mD (gP T up) f (ks.getD (ks.length / 2) 0))) : (⟨T.root, L⟩ : TrT) = (eE T up f).1 /\ (eE T up f).2 = -1 := by
 unfold eE
 rw [h.ea, h.eb, if_neg hk]
 unfold yM
 rw [<- hks, <- hcs, if_neg h4, hL]
 exact ⟨rfl, rfl⟩
theorem aDh (h : MD T up f a b) {x y : PgT} : gP ⟨T.root, (T.pages.set a.toNat x).set b.toNat y⟩ up = gP T up := by
 have e : (⟨T.root, (T.pages.set a.toNat x).set b.toNat y⟩ : TrT) = cF (cF T a x) b y := rfl
 rw [e, eB (aX.1 h.ib).1 (aX.1 h.iu).1 h.nub.symm, eB (aX.1 h.ia).1 (aX.1 h.iu).1 h.nua.symm]
end
end Go.Px
end
section
namespace Go.Px
open Go.RowKit
section
variable {T T0 R : TrT} {P : List Int} {s : TrT × List Int} {a : Nat}
theorem mB (ha : 1 <= a) (h : a = 1 \/ 2 <= (gP s.1 (P.getD (a - 1) 0)).keys.length) : mK P a s = s := by
 obtain ⟨b, rfl⟩ : ∃ b, a = b + 1 := ⟨a - 1, t1⟩
 rw [eU] at h
 simp only [mK]; rw [if_pos (by rcases h with h | h; exact .inl t1; exact .inr h)]
theorem tW (ha : 2 <= a) (h : ¬ 2 <= (gP s.1 (P.getD (a - 1) 0)).keys.length) : mK P a s = mK P (a - 1) ((eE s.1 (P.getD (a - 2) 0) (dE (gP s.1 (P.getD (a - 2) 0)).kids (P.getD (a - 1) 0) - 1).toNat).1, dR s.2 (eE s.1 (P.getD (a - 2) 0) (dE (gP s.1 (P.getD (a - 2) 0)).kids (P.getD (a - 1) 0) - 1).toNat).2) := by
 obtain ⟨b, rfl⟩ : ∃ b, a = b + 2 := ⟨a - 2, t1⟩
 rw [show b + 2 - 1 = b + 1 by omega] at h ⊢
 rw [show b + 2 - 2 = b by omega]
 show (if b + 1 = 0 \/ 2 <= (gP s.1 (P.getD (b + 1) 0)).keys.length then s else _) = _
 rw [if_neg (by rintro (h1 | h1); omega; exact h h1)]
 rfl
theorem pY {n : Nat} : pX n R [] = R := by cases n <;> rfl
theorem cutA_go {g : List Int} {i : Nat} (hi : i < g.length) (h4 : g.length <= 4) : pX (4 - i) R (g.drop i) = pX (4 - (i + 1)) (lV R g[i]) ((g.drop (i + 1)).map (shI g[i])) := by
 rw [cB hi, show 4 - i = (4 - (i + 1)) + 1 by omega]
 rfl
theorem FV.kb {lv : Int -> Nat} {g : List Int} (h : FV lv R g) (hl : R.pages.length <= 64) {p : PgT} (hp : p ∈ R.pages) : ∀ x ∈ p.kids, 0 <= x /\ x <= 1000 := by
 intro x hx
 obtain ⟨k, hk, rfl⟩ := aJ hp
 have hs := h.sh (k : Int) (aX.2 t1)
 have e : gP R (k : Int) = R.pages[k] := by unfold gP; rw [aD, eS, aL hk]; rfl
 rw [e] at hs
 have := (nZ hs (λ e => by rw [e] at hx; simp at hx)).2.2.2 x hx
 omega
theorem FV.small {lv : Int -> Nat} {g : List Int} (h : FV lv R g) : ∀ p ∈ R.pages, eP p := λ p hp => by
 obtain ⟨k, hk, rfl⟩ := aJ hp
 have hs := h.sh (k : Int) (aX.2 ⟨t1, t1⟩)
 have e : gP R (k : Int) = R.pages[k] := by unfold gP; rw [aD, eS, aL hk]; rfl
 rw [e] at hs
 have h4 := hs.k4
 rcases hs.c with ⟨_, b, c⟩ | ⟨_, b, c, _⟩
 ·exact ⟨t1, by simp [b], t1⟩
 exact ⟨t1, t1, by simp [c]⟩
theorem FV.step {lv : Int -> Nat} {g : List Int} {i : Nat} (hi : i < g.length) (h : FV lv R (g.drop i)) : FV (λ x => lv (unI g[i] x)) (lV R g[i]) ((g.drop (i + 1)).map (shI g[i])) := by
 rw [cB hi] at h
 exact h.cut
theorem FV.at {lv : Int -> Nat} {g : List Int} {i : Nat} (hi : i < g.length) (h : FV lv R (g.drop i)) : 0 <= g[i] /\ g[i] < (R.pages.length : Int) := by
 rw [cB hi] at h
 exact aX.1 (h.gin _ dG)
def gmL (g : List Int) (i m : Nat) (gi : Int) : List Int := g.take (i + 1) ++ (((g.drop (i + 1)).take m).map (shI gi) ++ (g.drop (i + 1)).drop m)
variable {g : List Int} {i m : Nat} {gi : Int}
theorem gm_len (hi : i < g.length) : (gmL g i m gi).length = g.length := by
 unfold gmL; rw [aA, rB, aB, aI]; omega
theorem gm_zero : gmL g i 0 gi = g := by simp [gmL]
theorem tP (hi : i < g.length) (h : i < (gmL g i m gi).length) : (gmL g i m gi)[i] = g[i] := by
 have e : (gmL g i m gi)[i]? = g[i]? := by
  unfold gmL
  rw [gO (by rw [aB]; omega), List.getElem?_take_of_lt t1]
 rw [aL h, aL hi] at e
 exact Option.some.inj e
theorem mP (hi : i + 1 + m < g.length) (h : i + 1 + m < (gmL g i m gi).length) : (gmL g i m gi)[i + 1 + m] = g[i + 1 + m] := by
 have hr : m < (g.drop (i + 1)).length := by rw [aI]; omega
 have e : (gmL g i m gi)[i + 1 + m]? = g[i + 1 + m]? := by
  unfold gmL
  rw [gE (by rw [aB]; omega), aB, dX t1, show i + 1 + m - (i + 1) = m by omega]
  rw [gE (by rw [bC, aB]; omega), bC, aB, dX t1, nS, mV, mV]
  rfl
 rw [aL h, aL hi] at e
 exact Option.some.inj e
theorem qC (hi : i + 1 + m < g.length) : (gmL g i m gi).set (i + 1 + m) (shI gi g[i + 1 + m]) = gmL g i (m + 1) gi := by
 have hr : m < (g.drop (i + 1)).length := by rw [aI]; omega
 have e : g[i + 1 + m] = (g.drop (i + 1))[m] := by rw [lN]
 unfold gmL
 rw [lM _ _ (by rw [aB]; omega), aB, dX t1, show i + 1 + m - (i + 1) = m by omega, e, tX hr]
theorem gm_end (hm : g.length <= i + 1 + m) : gmL g i m gi = g.take (i + 1) ++ (g.drop (i + 1)).map (shI gi) := by
 unfold gmL
 rw [aCj (by rw [aI]; omega)]
theorem aJd (hi : i < g.length) : (g.take (i + 1) ++ (g.drop (i + 1)).map (shI gi)).drop (i + 1) = (g.drop (i + 1)).map (shI gi) := by
 rw [List.drop_append_of_le_length (by rw [aB]; omega), List.drop_eq_nil_of_le (by rw [aB]; omega), List.nil_append]
theorem zA (h : (gP s.1 s.1.root).kids.length = 1) : kZ s = (⟨(gP s.1 s.1.root).kids.getD 0 0, s.1.pages⟩, s.2 ++ [s.1.root]) := by unfold kZ; rw [if_pos h]
theorem wU (h : ¬ (gP s.1 s.1.root).kids.length = 1) : kZ s = s := by unfold kZ; rw [if_neg h]
theorem drop_WK (h : aN T = true) {key : Int} : WK (lH T key) := by
 have hP := kK (key := key) h
 have hl := (fN h).2
 have hd : ∀ {a : Nat} {s : TrT × List Int}, DV T (aY T key) a s -> ∃ b, DV T (aY T key) b (mK (aY T key) a s) := by
  intro a
  induction a with
  | zero => intro s hD; have := hD.a1; omega
  | succ a ih =>
   intro s hD
   by_cases hs : a + 1 = 1 \/ 2 <= (gP s.1 ((aY T key).getD (a + 1 - 1) 0)).keys.length
   ·rw [mB t1 hs]; exact ⟨_, hD⟩
   have h2 : 2 <= a + 1 := by have : ¬ a + 1 = 1 := λ e => hs (.inl e); omega
   rw [tW h2 (λ e => hs (.inr e))]
   have := hD.next h h2 (hD.place h hP h2)
   rw [eU] at this ⊢
   exact ih this
 obtain ⟨b, hb⟩ := hd (DV.start h hP (key := key))
 obtain ⟨h1, h2, h3, h4⟩ := hb.fin h hP
 have := hP.le
 exact h1.all t1 h2 t1
end
end Go.Px
end
section
namespace Go.Px
open Go.RowKit
section
variable {m m' : Int -> Nat} {T R R' U : TrT} {d D f e : Nat} {i u lo hi v a b c : Int} {pa pb pu : PgT}
theorem aCe {ks cs : List Int} (h1 : inT R' i = true) (hg : gP R' i = dP ks cs) (h4 : ks.length <= 4) (hm : m' i <= ks.length) (hv : bR ks = true) (hr : ∀ k ∈ ks, lo <= k /\ k < hi) (he : e ≠ 0) (hc : cs.length = ks.length + 1)
  (hk : ∀ j, j < cs.length -> okM m R e (cs.getD j 0) (dQ (dP ks cs) lo j) (cH (dP ks cs) hi j)) (hin : ∀ x, inT R x = true -> inT R' x = true) (hfr : ∀ y ∈ cs, ∀ x ∈ aS R e y, gP R' x = gP R x /\ m' x <= (gP R x).keys.length) :
  okM m' R' (e + 1) i lo hi /\ aS R' (e + 1) i = i :: cs.flatMap (aS R e) := by
 have hall : ∀ j, (hj : j < cs.length) -> okM m' R' e (cs.getD j 0) (dQ (dP ks cs) lo j) (cH (dP ks cs) hi j) /\ aS R' e cs[j] = aS R e cs[j] := λ j hj => by
  have := sJ (R' := R') (m' := m') (hk j hj) hin (λ x hx => by rw [bF hj] at hx; exact hfr _ (aC hj) x hx)
  exact ⟨this.1, by have h2 := this.2; rwa [bF hj] at h2⟩
 refine ⟨?_, ?_⟩
 ·simp only [okM, hg]
  exact ⟨h1, ⟨h4, hm⟩, hv, hr, .inr ⟨he, rfl, hc, λ j hj => (hall j hj).1⟩⟩
 simp only [aS, hg]
 congr 1
 exact qW λ x hx => by
  obtain ⟨j, hj, rfl⟩ := aJ hx
  exact (hall j hj).2
theorem mZ (hk : (gP R i).kids = []) : aS R 1 i = [i] := by simp [aS, hk]
theorem aJx (ha : inT R a = true) (hu : inT R u = true) (hne : u ≠ a) : gP (cF (cF R a pa) u pu) u = pu /\ gP (cF (cF R a pa) u pu) a = pa /\ (∀ x, inT R x = true -> x ≠ u -> x ≠ a -> gP (cF (cF R a pa) u pu) x = gP R x) /\ ∀ x, inT (cF (cF R a pa) u pu) x = inT R x := by
 have ia := aX.1 ha
 have iu := aX.1 hu
 refine ⟨fH (by rw [gT]; exact hu), ?_, λ x hx h1 h2 => ?_, λ x => by rw [gT, gT]⟩
 ·rw [eB iu.1 ia.1 hne]; exact fH ha
 have ix := aX.1 hx
 rw [eB iu.1 ix.1 (λ e => h1 e.symm), eB ia.1 ix.1 (λ e => h2 e.symm)]
theorem aJy (ha : inT R a = true) (hb : inT R b = true) (hu : inT R u = true) (hua : u ≠ a) (hub : u ≠ b) (hab : a ≠ b) : gP (cF (cF (cF R a pa) b pb) u pu) u = pu /\ gP (cF (cF (cF R a pa) b pb) u pu) a = pa /\ gP (cF (cF (cF R a pa) b pb) u pu) b = pb /\
  (∀ x, inT R x = true -> x ≠ u -> x ≠ a -> x ≠ b -> gP (cF (cF (cF R a pa) b pb) u pu) x = gP R x) /\ ∀ x, inT (cF (cF (cF R a pa) b pb) u pu) x = inT R x := by
 have ia := aX.1 ha
 have ib := aX.1 hb
 have iu := aX.1 hu
 refine ⟨fH (by rw [gT, gT]; exact hu), ?_, ?_, λ x hx h1 h2 h3 => ?_, λ x => by rw [gT, gT, gT]⟩
 ·rw [eB iu.1 ia.1 hua, eB ib.1 ia.1 (λ e => hab e.symm)]; exact fH ha
 ·rw [eB iu.1 ib.1 hub]; exact fH (by rw [gT]; exact hb)
 have ix := aX.1 hx
 rw [eB iu.1 ix.1 (λ e => h1 e.symm), eB ib.1 ix.1 (λ e => h3 e.symm), eB ia.1 ix.1 (λ e => h2 e.symm)]
theorem aAn {r s : List PairT} : bG (r ++ s) = bG r ++ bG s := by simp [bG]
theorem asc_sub {l l' : List Int} (h : asc l = true) (hs : l'.Sublist l) : asc l' = true := by
 rw [fD] at h ⊢; exact h.sublist hs
theorem nN {l l' : List Int} (h : bR l = true) (hs : l'.Sublist l) : bR l' = true := by
 have := bQ.1 h
 exact bQ.2 ⟨λ k hk => this.1 k (hs.subset hk), asc_sub this.2 hs⟩
structure Mended (m' : Int -> Nat) (R : TrT) (d : Nat) (u lo hi : Int) (q : TrT × Int) : Prop where
 ok : okM m' q.1 (d + 1) u lo hi
 sub : (aS q.1 (d + 1) u ++ dR [] q.2).Perm (aS R (d + 1) u)
 root : q.1.root = R.root
 len : q.1.pages.length = R.pages.length
 rest : ∀ x, inT R x = true -> x ∉ aS R (d + 1) u -> gP q.1 x = gP R x
theorem mendM (h : okM m R (d + 1) u lo hi) (hn : (aS R (d + 1) u).Nodup) (hmd : MD R u f a b) (hmb : ∀ x ∈ aS R (d + 1) u, x ≠ u -> m x = 2 \/ (x = c /\ m x = 1)) (hc : c = a \/ c = b) (hm2 : ∀ x ∈ aS R (d + 1) u, x ≠ u -> m' x = 2) (hmu : m' u <= (gP R u).keys.length - 1) :
  Mended m' R d u lo hi (eE R u f) := by
 have hkl := hmd.kl
 have hf1 := hmd.f1
 have ea := hmd.ea
 have eb := hmd.eb
 have hM := rD h (λ e9 => by rw [e9] at hkl; simp at hkl)
 obtain ⟨n1, n2, n3⟩ := hM.mem_nd hn
 have hf : f + 1 < (gP R u).kids.length := by omega
 have hfk : f < (gP R u).keys.length := by omega
 have hma : a ∈ (gP R u).kids := by rw [<- ea, bF (show f < (gP R u).kids.length by omega)]; exact aC _
 have hmb2 : b ∈ (gP R u).kids := by rw [<- eb, bF hf]; exact aC _
 have ha := hM.kd f t1
 have hb := hM.kd (f + 1) hf
 rw [<- bF, ea] at ha
 rw [<- bF, eb] at hb
 rw [fU hfk] at ha
 rw [gB t1 (show f + 1 - 1 < (gP R u).keys.length by omega)] at hb
 simp only [eU] at hb
 have hkd : (gP R u).keys.getD f 0 = (gP R u).keys[f] := bF hfk
 generalize hk9 : (gP R u).keys[f] = k at ha hb hkd
 have hkv : 0 <= k /\ k <= 99 := by rw [<- hk9]; exact (bQ.1 hM.vk).1 _ (aC hfk)
 have hup : ∀ y ∈ (gP R u).kids, ∀ x ∈ aS R d y, x ∈ aS R (d + 1) u /\ x ≠ u := λ y hy x hx => by
  have hm := aZ.2 ⟨y, hy, hx⟩
  exact ⟨by simp only [aS]; exact bJ _ hm, λ e9 => n1 (e9 ▸ hm)⟩
 have hdis : ∀ x, x ∈ aS R d a -> x ∈ aS R d b -> False := λ x h1 h2 => hmd.nab (pZ n2 hma hmb2 h1 h2)
 have hoa := gU ha
 have hob := gU hb
 have hbig : ∀ x ∈ aS R (d + 1) u, x ≠ u -> x ≠ a -> x ≠ b -> m' x <= (gP R x).keys.length := λ x hx h1 h2 h3 => by
  rw [hm2 x hx h1]
  rcases hmb x hx h1 with h9 | ⟨h9, _⟩
  ·have := (nF h x hx).2; omega
  rcases hc with hc | hc
  ·exact absurd (h9.trans hc) h2
  exact absurd (h9.trans hc) h3
 have hma1 : 1 <= m a /\ 1 <= m b /\ 3 <= m a + m b := by
  have h1 := hmb a (hup a hma a hoa).1 (hup a hma a hoa).2
  have h2 := hmb b (hup b hmb2 b hob).1 (hup b hmb2 b hob).2
  rcases h1 with h1 | ⟨h1, h1'⟩ <;> rcases h2 with h2 | ⟨h2, h2'⟩
  ·omega
  ·omega
  ·omega
  exact absurd (h1.trans h2.symm) hmd.nab
 have hla := (nF ha a hoa).2
 have hlb := (nF hb b hob).2
 have hm2a := hm2 a (hup a hma a hoa).1 (hup a hma a hoa).2
 have hm2b := hm2 b (hup b hmb2 b hob).1 (hup b hmb2 b hob).2
 have hg1 : dR [] b = [b] := by unfold dR; rw [if_pos (aX.1 hmd.ib).1]; rfl
 have hg0 : dR [] (-1) = [] := by unfold dR; rw [if_neg t1]
 unfold eE
 rw [ea, eb]
 split
 ·rename_i hk0
  obtain ⟨hd1, hA⟩ := aCo ha hk0
  subst hd1
  have hB := aFj hb
  unfold yN
  have hkr : bG (aV (gP R a) ++ aV (gP R b)) = (gP R a).keys ++ (gP R b).keys := by rw [aAn, iZ, iZ]
  have hlr : (aV (gP R a) ++ aV (gP R b)).length = (gP R a).keys.length + (gP R b).keys.length := by rw [aA, eL, eL]
  have hva : ∀ p ∈ aV (gP R a) ++ aV (gP R b), fA p.val = true := λ p hp => by
   rcases bE.1 hp with hp | hp
   ·exact hA.val p hp
   exact hB.val p hp
  generalize aV (gP R a) ++ aV (gP R b) = r at hkr hlr hva
  have hka0 := hA.rg _ (aC (show 0 < (gP R a).keys.length by omega))
  have hkb0 := hB.rg _ (aC (show 0 < (gP R b).keys.length by omega))
  have hrg : ∀ x ∈ bG r, dQ (gP R u) lo f <= x /\ x < cH (gP R u) hi (f + 1) := λ x hx => by
   rw [hkr] at hx
   rcases bE.1 hx with hx | hx
   ·have := hA.rg x hx; omega
   have := hB.rg x hx; omega
  have hvr : bR (bG r) = true := by
   rw [hkr]
   have v1 := bQ.1 hA.vk
   have v2 := bQ.1 hB.vk
   refine bQ.2 ⟨λ x hx => ?_, fD.2 (cO.2 ⟨fD.1 v1.2, fD.1 v2.2, λ x hx y hy => ?_⟩)⟩
   ·rcases bE.1 hx with hx | hx
    ·exact v1.1 x hx
    exact v2.1 x hx
   have := hA.rg x hx; have := hB.rg y hy; omega
  have hkl2 : (bG r).length = r.length := by simp [bG]
  have hA4 := hA.k4
  have hB4 := hB.k4
  split
  ·rename_i h4
   obtain ⟨g1, g2, g3, g4⟩ := aJx (pa := eA r) (pu := kO (gP R u) (f + 1)) hmd.ia hmd.iu hmd.nua
   have hone := hM.one (m' := m') (R' := cF (cF R a (eA r)) u (kO (gP R u) (f + 1))) hn hf (λ x hx => by rw [g4]; exact hx) (λ x hx h1 h2 h3 h5 => by
     rw [ea] at h3; rw [eb] at h5
     have e1 : x ≠ a := λ e9 => h3 (e9 ▸ hoa)
     have e2 : x ≠ b := λ e9 => h5 (e9 ▸ hob)
     exact ⟨g3 x hx h1 e1, hbig x h2 h1 e1 e2⟩) g1 hmu
    (by rw [ea]; exact rE (by rw [g4]; exact hmd.ia) g2 h4 t1 hvr hrg hva)
    (by rw [ea, eb, mZ (by rw [g2]; rfl), mZ hk0, mZ hB.c0])
   rw [eb] at hone
   refine ⟨hone.1, by show (aS _ _ _ ++ dR [] b).Perm _; rw [hg1]; exact hone.2, rfl, by simp [cF], λ x hx h1 => g3 x hx (λ e9 => h1 (by rw [e9]; exact gU h)) (λ e9 => h1 (by rw [e9]; exact (hup a hma a hoa).1))⟩
  rename_i h4
  generalize hnn : (r.length + 1) / 2 = n
  have hn4 : 2 <= n /\ n <= 4 /\ n < r.length /\ 2 <= r.length - n /\ r.length - n <= 4 := by omega
  have hv0 : (r.getD n ⟨0, 0⟩).key = (bG r)[n]'t1 := by rw [qB hn4.2.2.1]; simp [bG]
  generalize hvv : (r.getD n ⟨0, 0⟩).key = v at hv0
  have hvm := hrg v (by rw [hv0]; exact aC _)
  have hasc := (bQ.1 hvr).2
  have hv99 := (bQ.1 hvr).1 v (by rw [hv0]; exact aC _)
  have htk : ∀ x ∈ (bG r).take n, dQ (gP R u) lo f <= x /\ x < v := λ x hx => by
   refine ⟨(hrg x (cN hx)).1, ?_⟩
   obtain ⟨j, hj, rfl⟩ := dH.1 hx
   rw [hv0]; exact iG hasc j n t1 t1
  have hdr : ∀ x ∈ (bG r).drop n, v <= x /\ x < cH (gP R u) hi (f + 1) := λ x hx => by
   refine ⟨?_, (hrg x (dC hx)).2⟩
   obtain ⟨j, hj, rfl⟩ := dS.1 hx
   rw [hv0]
   by_cases hj0 : j = 0
   ·subst hj0; simp
   have := iG hasc n (n + j) t1 t1; omega
  have hlow : dQ (gP R u) lo f < v := by
   have h9 := (htk ((bG r)[0]'t1) (dH.2 ⟨0, t1, rfl⟩)); omega
  obtain ⟨g1, g2, g2b, g3, g4⟩ := aJy (pa := eA (r.take n)) (pb := eA (r.drop n)) (pu := mD (gP R u) f v) hmd.ia hmd.ib hmd.iu hmd.nua hmd.nub hmd.nab
  have htwo := hM.two (m' := m') (v := v) (R' := cF (cF (cF R a (eA (r.take n))) b (eA (r.drop n))) u (mD (gP R u) f v)) hn hf (λ x hx => by rw [g4]; exact hx) (λ x hx h1 h2 h3 h5 => by
    rw [ea] at h3; rw [eb] at h5
    have e1 : x ≠ a := λ e9 => h3 (e9 ▸ hoa)
    have e2 : x ≠ b := λ e9 => h5 (e9 ▸ hob)
    exact ⟨g3 x hx h1 e1 e2, hbig x h2 h1 e1 e2⟩) g1 t1 hv99 hlow hvm.2
   (by rw [ea]; exact rE (by rw [g4]; exact hmd.ia) g2 (by rw [aB]; omega) (by rw [aB]; omega) (by rw [show bG (r.take n) = (bG r).take n by simp [bG]]; exact nN hvr (List.take_sublist _ _)) (by rw [show bG (r.take n) = (bG r).take n by simp [bG]]; exact htk) (λ p hp => hva p (cN hp)))
   (by rw [eb]; exact rE (by rw [g4]; exact hmd.ib) g2b (by rw [aI]; omega) (by rw [aI]; omega) (by rw [show bG (r.drop n) = (bG r).drop n by simp [bG]]; exact nN hvr (nQ _ _)) (by rw [show bG (r.drop n) = (bG r).drop n by simp [bG]]; exact hdr) (λ p hp => hva p (dC hp)))
   (by rw [ea, eb, mZ (by rw [g2]; rfl), mZ hk0, mZ hB.c0, mZ (by rw [g2b]; rfl)])
  refine ⟨htwo.1, by show (aS _ _ _ ++ dR [] (-1)).Perm _; rw [hg0, cS]; exact htwo.2, rfl, by simp [cF], λ x hx h1 => g3 x hx (λ e9 => h1 (by rw [e9]; exact gU h)) (λ e9 => h1 (by rw [e9]; exact (hup a hma a hoa).1)) (λ e9 => h1 (by rw [e9]; exact (hup b hmb2 b hob).1))⟩
 rename_i hk0
 obtain ⟨e, rfl⟩ := pK ha
 have hA := rD ha hk0
 have hbk : (gP R b).kids ≠ [] := λ e9 => by have := (hmd.inn hk0).2; rw [e9] at this; simp at this
 have hB := rD hb hbk
 have hAl := hA.kl
 have hBl := hB.kl
 have hA4 := hA.k4
 have hB4 := hB.k4
 unfold yM
 have hKe : iW R u a b f = (gP R a).keys ++ ([k] ++ (gP R b).keys) := by unfold iW; rw [hkd, bO]
 have hCe : mI R a b = (gP R a).kids ++ (gP R b).kids := rfl
 have hKl : (iW R u a b f).length = (gP R a).keys.length + 1 + (gP R b).keys.length := by rw [hKe]; simp only [aA, aG, bA]; omega
 have hCl : (mI R a b).length = (iW R u a b f).length + 1 := by rw [hKl, hCe, aA]; omega
 generalize iW R u a b f = K at hKe hKl hCl
 generalize mI R a b = C at hCe hCl
 have hKg : ∀ j, K.getD j 0 = if j < (gP R a).keys.length then (gP R a).keys.getD j 0 else if j = (gP R a).keys.length then k else (gP R b).keys.getD (j - (gP R a).keys.length - 1) 0 := λ j => by
  rw [hKe, wM]
  split
  ·rfl
  rw [wM]
  by_cases h9 : j = (gP R a).keys.length
  ·rw [if_pos h9, if_pos t13, h9, nS]; rfl
  rw [if_neg h9, if_neg t13]; rfl
 have hq : ∀ j, j < C.length -> okM m R e (C.getD j 0) (dQ (dP K C) (dQ (gP R u) lo f) j) (cH (dP K C) (cH (gP R u) hi (f + 1)) j) := λ j hj => by
  have hlo : dQ (dP K C) (dQ (gP R u) lo f) j = if j = 0 then dQ (gP R u) lo f else K.getD (j - 1) 0 := rfl
  have hhi : cH (dP K C) (cH (gP R u) hi (f + 1)) j = if j < K.length then K.getD j 0 else cH (gP R u) hi (f + 1) := rfl
  rw [hlo, hhi, hCe, wM, hKg, hKg]
  by_cases h1 : j < (gP R a).kids.length
  ·rw [if_pos h1]
   have h9 := hA.kd j h1
   rw [<- bF] at h9
   unfold dQ cH at h9
   have c2 : (if j < K.length then (if j < (gP R a).keys.length then (gP R a).keys.getD j 0 else if j = (gP R a).keys.length then k else (gP R b).keys.getD (j - (gP R a).keys.length - 1) 0) else cH (gP R u) hi (f + 1)) = (if j < (gP R a).keys.length then (gP R a).keys.getD j 0 else k) := by
    rw [if_pos t1]
    split
    ·rfl
    rw [if_pos t1]
   have c1 : (if j = 0 then dQ (gP R u) lo f else (if j - 1 < (gP R a).keys.length then (gP R a).keys.getD (j - 1) 0 else if j - 1 = (gP R a).keys.length then k else (gP R b).keys.getD (j - 1 - (gP R a).keys.length - 1) 0)) = (if j = 0 then dQ (gP R u) lo f else (gP R a).keys.getD (j - 1) 0) := by
    by_cases h2 : j = 0
    ·rw [if_pos h2, if_pos h2]
    rw [if_neg h2, if_neg h2, if_pos t1]
   rw [c1, c2]; exact h9
  rw [if_neg h1]
  have hjb : j - (gP R a).kids.length < (gP R b).kids.length := by rw [hCe, aA] at hj; omega
  have h9 := hB.kd _ hjb
  rw [<- bF] at h9
  unfold dQ cH at h9
  have c1 : (if j = 0 then dQ (gP R u) lo f else (if j - 1 < (gP R a).keys.length then (gP R a).keys.getD (j - 1) 0 else if j - 1 = (gP R a).keys.length then k else (gP R b).keys.getD (j - 1 - (gP R a).keys.length - 1) 0)) = (if j - (gP R a).kids.length = 0 then k else (gP R b).keys.getD (j - (gP R a).kids.length - 1) 0) := by
   rw [if_neg t1, if_neg t1]
   by_cases h2 : j - (gP R a).kids.length = 0
   ·rw [if_pos h2, if_pos t1]
   rw [if_neg h2, if_neg t1]; congr 1; omega
  have c2 : (if j < K.length then (if j < (gP R a).keys.length then (gP R a).keys.getD j 0 else if j = (gP R a).keys.length then k else (gP R b).keys.getD (j - (gP R a).keys.length - 1) 0) else cH (gP R u) hi (f + 1)) = (if j - (gP R a).kids.length < (gP R b).keys.length then (gP R b).keys.getD (j - (gP R a).kids.length) 0 else cH (gP R u) hi (f + 1)) := by
   by_cases h2 : j - (gP R a).kids.length < (gP R b).keys.length
   ·rw [if_pos h2, if_pos t1, if_neg t1, if_neg t1]; congr 1; omega
   rw [if_neg h2, if_neg t1]
  rw [c1, c2]; exact h9
 have hCm : ∀ y ∈ C, ∀ x ∈ aS R e y, x ∈ aS R (e + 1 + 1) u /\ x ≠ u /\ x ≠ a /\ x ≠ b := λ y hy x hx => by
  have hna : a ∉ (gP R a).kids.flatMap (aS R e) := by
   have := rC n2 a hma; simp only [aS] at this; exact (cK.1 this).1
  have hnb : b ∉ (gP R b).kids.flatMap (aS R e) := by
   have := rC n2 b hmb2; simp only [aS] at this; exact (cK.1 this).1
  rw [hCe] at hy
  rcases bE.1 hy with hy | hy
  ·have hm := aZ.2 ⟨y, hy, hx⟩
   have hxa : x ∈ aS R (e + 1) a := by simp only [aS]; exact bJ _ hm
   have := hup a hma x hxa
   exact ⟨this.1, this.2, λ e9 => hna (e9 ▸ hm), λ e9 => hdis x hxa (e9 ▸ hob)⟩
  have hm := aZ.2 ⟨y, hy, hx⟩
  have hxb : x ∈ aS R (e + 1) b := by simp only [aS]; exact bJ _ hm
  have := hup b hmb2 x hxb
  exact ⟨this.1, this.2, λ e9 => hdis x (e9 ▸ hoa) hxb, λ e9 => hnb (e9 ▸ hm)⟩
 have hkb : ∀ x ∈ (gP R b).keys, k < x := by
  have h0 : 0 < (gP R b).kids.length := by omega
  have hk0b : 0 < (gP R b).keys.length := by omega
  have h9 := hB.kd 0 h0
  have hown := gU h9
  have hx : (gP R b).kids[0] ∈ C := by rw [hCe]; exact eQ _ (aC h0)
  obtain ⟨q1, q2, _, _⟩ := hCm _ hx _ hown
  have hml := (nF h9 _ hown).2
  have h1 : 0 < (gP R (gP R b).kids[0]).keys.length := by
   rcases hmb _ q1 q2 with q | ⟨_, q⟩ <;> omega
  obtain ⟨e', rfl⟩ := pK h9
  have h2 := h9.2.2.2.1 _ (aC h1)
  rw [gH rfl, fU hk0b] at h2
  intro x hx
  obtain ⟨j, hj, rfl⟩ := aJ hx
  by_cases hj0 : j = 0
  ·subst hj0; omega
  have := iG (bQ.1 hB.vk).2 0 j t1 hj; omega
 have hka0 := hA.rg _ (aC (show 0 < (gP R a).keys.length by omega))
 have hkb0 := hB.rg _ (aC (show 0 < (gP R b).keys.length by omega))
 have hkb1 := hkb _ (aC (show 0 < (gP R b).keys.length by omega))
 have hKm : ∀ x ∈ K, x ∈ (gP R a).keys \/ x = k \/ x ∈ (gP R b).keys := λ x hx => by
  rw [hKe] at hx
  simpa [bE] using hx
 have hrg : ∀ x ∈ K, dQ (gP R u) lo f <= x /\ x < cH (gP R u) hi (f + 1) := λ x hx => by
  rcases hKm x hx with hx | hx | hx
  ·have := hA.rg x hx; omega
  ·omega
  have := hB.rg x hx; omega
 have hvK : bR K = true := by
  have v1 := bQ.1 hA.vk
  have v2 := bQ.1 hB.vk
  refine bQ.2 ⟨λ x hx => ?_, ?_⟩
  ·rcases hKm x hx with hx | hx | hx
   ·exact v1.1 x hx
   ·rw [hx]; exact hkv
   exact v2.1 x hx
  rw [hKe]
  refine fD.2 (cO.2 ⟨fD.1 v1.2, cO.2 ⟨t11, fD.1 v2.2, λ x hx y hy => ?_⟩, λ x hx y hy => ?_⟩)
  ·rw [aU] at hx; rw [hx]; exact hkb y hy
  have h1 := hA.rg x hx
  rcases bE.1 hy with hy | hy
  ·rw [aU] at hy; omega
  have := hkb y hy; omega
 have hsa : aS R (e + 1) a = a :: (gP R a).kids.flatMap (aS R e) := rfl
 have hsb : aS R (e + 1) b = b :: (gP R b).kids.flatMap (aS R e) := rfl
 split
 ·rename_i h4
  obtain ⟨g1, g2, g3, g4⟩ := aJx (pa := dP K C) (pu := kO (gP R u) (f + 1)) hmd.ia hmd.iu hmd.nua
  obtain ⟨p1, p2⟩ := aCe (m := m) (R := R) (m' := m') (e := e) (R' := cF (cF R a (dP K C)) u (kO (gP R u) (f + 1))) (i := a) (lo := dQ (gP R u) lo f) (hi := cH (gP R u) hi (f + 1)) (by rw [g4]; exact hmd.ia) g2 h4 t1 hvK hrg hA.d0 hCl hq (λ x hx => by rw [g4]; exact hx)
   (λ y hy x hx => by obtain ⟨q1, q2, q3, q4⟩ := hCm y hy x hx; exact ⟨g3 x (nF h x q1).1 q2 q3, hbig x q1 q2 q3 q4⟩)
  have hone := hM.one (m' := m') (R' := cF (cF R a (dP K C)) u (kO (gP R u) (f + 1))) hn hf (λ x hx => by rw [g4]; exact hx) (λ x hx h1 h2 h3 h5 => by
    rw [ea] at h3; rw [eb] at h5
    have e1 : x ≠ a := λ e9 => h3 (e9 ▸ hoa)
    have e2 : x ≠ b := λ e9 => h5 (e9 ▸ hob)
    exact ⟨g3 x hx h1 e1, hbig x h2 h1 e1 e2⟩) g1 hmu
   (by rw [ea]; exact p1)
   (by
     rw [ea, eb, p2, hsa, hsb, hCe, bD]
     refine dJ.2 λ z => ?_
     simp only [jN, mQ, List.count_nil]; omega)
  rw [eb] at hone
  refine ⟨hone.1, by show (aS _ _ _ ++ dR [] b).Perm _; rw [hg1]; exact hone.2, rfl, by simp [cF], λ x hx h1 => g3 x hx (λ e9 => h1 (by rw [e9]; exact gU h)) (λ e9 => h1 (by rw [e9]; exact (hup a hma a hoa).1))⟩
 rename_i h4
 generalize hnn : K.length / 2 = n
 have hn4 : 2 <= n /\ n <= 4 /\ n < K.length /\ 2 <= K.length - n - 1 /\ K.length - n - 1 <= 4 := by omega
 have hv0 : K.getD n 0 = K[n]'t1 := bF hn4.2.2.1
 have hasc := (bQ.1 hvK).2
 have hvm := hrg (K[n]'hn4.2.2.1) (aC _)
 have hv99 := (bQ.1 hvK).1 (K[n]'hn4.2.2.1) (aC _)
 rw [<- hv0] at hvm hv99
 have htk : ∀ x ∈ K.take n, dQ (gP R u) lo f <= x /\ x < K.getD n 0 := λ x hx => by
  refine ⟨(hrg x (cN hx)).1, ?_⟩
  obtain ⟨j, hj, rfl⟩ := dH.1 hx
  rw [hv0]; exact iG hasc j n t1 t1
 have hdr : ∀ x ∈ K.drop (n + 1), K.getD n 0 <= x /\ x < cH (gP R u) hi (f + 1) := λ x hx => by
  refine ⟨?_, (hrg x (dC hx)).2⟩
  obtain ⟨j, hj, rfl⟩ := dS.1 hx
  rw [hv0]
  have := iG hasc n (n + 1 + j) t1 t1; omega
 have hlow : dQ (gP R u) lo f < K.getD n 0 := by
  have h9 := (htk (K[0]'t1) (dH.2 ⟨0, t1, rfl⟩)); omega
 obtain ⟨g1, g2, g2b, g3, g4⟩ := aJy (pa := dP (K.take n) (C.take (n + 1))) (pb := dP (K.drop (n + 1)) (C.drop (n + 1))) (pu := mD (gP R u) f (K.getD n 0)) hmd.ia hmd.ib hmd.iu hmd.nua hmd.nub hmd.nab
 have hq1 : ∀ j, j < (C.take (n + 1)).length -> okM m R e ((C.take (n + 1)).getD j 0) (dQ (dP (K.take n) (C.take (n + 1))) (dQ (gP R u) lo f) j) (cH (dP (K.take n) (C.take (n + 1))) (K.getD n 0) j) := λ j hj => by
  rw [aB] at hj
  have h9 := hq j t1
  have hlo : dQ (dP (K.take n) (C.take (n + 1))) (dQ (gP R u) lo f) j = dQ (dP K C) (dQ (gP R u) lo f) j := by
   show (if j = 0 then _ else (K.take n).getD (j - 1) 0) = (if j = 0 then _ else K.getD (j - 1) 0)
   by_cases h2 : j = 0
   ·rw [if_pos h2, if_pos h2]
   rw [if_neg h2, if_neg h2, wY t1]
  have hhi : cH (dP (K.take n) (C.take (n + 1))) (K.getD n 0) j = cH (dP K C) (cH (gP R u) hi (f + 1)) j := by
   show (if j < (K.take n).length then (K.take n).getD j 0 else K.getD n 0) = (if j < K.length then K.getD j 0 else _)
   rw [aB, if_pos (show j < K.length by omega)]
   by_cases h2 : j < n
   ·rw [if_pos t1, wY h2]
   rw [if_neg t1, show j = n by omega]
  rw [hlo, hhi, wY t1]; exact h9
 have hq2 : ∀ j, j < (C.drop (n + 1)).length -> okM m R e ((C.drop (n + 1)).getD j 0) (dQ (dP (K.drop (n + 1)) (C.drop (n + 1))) (K.getD n 0) j) (cH (dP (K.drop (n + 1)) (C.drop (n + 1))) (cH (gP R u) hi (f + 1)) j) := λ j hj => by
  rw [aI] at hj
  have h9 := hq (n + 1 + j) t1
  have hlo : dQ (dP (K.drop (n + 1)) (C.drop (n + 1))) (K.getD n 0) j = dQ (dP K C) (dQ (gP R u) lo f) (n + 1 + j) := by
   show (if j = 0 then _ else (K.drop (n + 1)).getD (j - 1) 0) = (if n + 1 + j = 0 then _ else K.getD (n + 1 + j - 1) 0)
   rw [if_neg (show ¬ n + 1 + j = 0 by omega)]
   by_cases h2 : j = 0
   ·rw [if_pos h2, h2]; rfl
   rw [if_neg h2, wP]; congr 1; omega
  have hhi : cH (dP (K.drop (n + 1)) (C.drop (n + 1))) (cH (gP R u) hi (f + 1)) j = cH (dP K C) (cH (gP R u) hi (f + 1)) (n + 1 + j) := by
   show (if j < (K.drop (n + 1)).length then (K.drop (n + 1)).getD j 0 else _) = (if n + 1 + j < K.length then K.getD (n + 1 + j) 0 else _)
   rw [aI]
   by_cases h2 : n + 1 + j < K.length
   ·rw [if_pos h2, if_pos t1, wP]
   rw [if_neg h2, if_neg t1]
  rw [hlo, hhi, wP]; exact h9
 have hfr : ∀ y ∈ C, ∀ x ∈ aS R e y, gP (cF (cF (cF R a (dP (K.take n) (C.take (n + 1)))) b (dP (K.drop (n + 1)) (C.drop (n + 1)))) u (mD (gP R u) f (K.getD n 0))) x = gP R x /\ m' x <= (gP R x).keys.length :=
  λ y hy x hx => by obtain ⟨q1, q2, q3, q4⟩ := hCm y hy x hx; exact ⟨g3 x (nF h x q1).1 q2 q3 q4, hbig x q1 q2 q3 q4⟩
 obtain ⟨p1, p2⟩ := aCe (m := m) (R := R) (m' := m') (e := e) (i := a) (lo := dQ (gP R u) lo f) (hi := K.getD n 0) (by rw [g4]; exact hmd.ia) g2 (by rw [aB]; omega) (by rw [aB]; omega) (nN hvK (List.take_sublist _ _)) htk hA.d0 (by rw [aB, aB]; omega) hq1 (λ x hx => by rw [g4]; exact hx)
  (λ y hy => hfr y (cN hy))
 obtain ⟨p3, p4⟩ := aCe (m := m) (R := R) (m' := m') (e := e) (i := b) (lo := K.getD n 0) (hi := cH (gP R u) hi (f + 1)) (by rw [g4]; exact hmd.ib) g2b (by rw [aI]; omega) (by rw [aI]; omega) (nN hvK (nQ _ _)) hdr hA.d0 (by rw [aI, aI]; omega) hq2 (λ x hx => by rw [g4]; exact hx)
  (λ y hy => hfr y (dC hy))
 have htwo := hM.two (m' := m') (v := K.getD n 0) (R' := cF (cF (cF R a (dP (K.take n) (C.take (n + 1)))) b (dP (K.drop (n + 1)) (C.drop (n + 1)))) u (mD (gP R u) f (K.getD n 0))) hn hf (λ x hx => by rw [g4]; exact hx) (λ x hx h1 h2 h3 h5 => by
   rw [ea] at h3; rw [eb] at h5
   have e1 : x ≠ a := λ e9 => h3 (e9 ▸ hoa)
   have e2 : x ≠ b := λ e9 => h5 (e9 ▸ hob)
   exact ⟨g3 x hx h1 e1 e2, hbig x h2 h1 e1 e2⟩) g1 t1 hv99 hlow hvm.2
  (by rw [ea]; exact p1) (by rw [eb]; exact p3)
  (by
    have hfl : C.flatMap (aS R e) = (C.take (n + 1)).flatMap (aS R e) ++ (C.drop (n + 1)).flatMap (aS R e) := by rw [<- bD, bT]
    have hfl2 : C.flatMap (aS R e) = (gP R a).kids.flatMap (aS R e) ++ (gP R b).kids.flatMap (aS R e) := by rw [hCe, bD]
    rw [ea, eb, p2, p4, hsa, hsb]
    refine dJ.2 λ z => ?_
    have h9 := congrArg (List.count z) (hfl.symm.trans hfl2)
    simp only [jN, mQ] at h9 ⊢; omega)
 refine ⟨htwo.1, by show (aS _ _ _ ++ dR [] (-1)).Perm _; rw [hg0, cS]; exact htwo.2, rfl, by simp [cF], λ x hx h1 => g3 x hx (λ e9 => h1 (by rw [e9]; exact gU h)) (λ e9 => h1 (by rw [e9]; exact (hup a hma a hoa).1)) (λ e9 => h1 (by rw [e9]; exact (hup b hmb2 b hob).1))⟩
end
end Go.Px
end
