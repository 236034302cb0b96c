/- Own layer: part of this seat (V0). Plain theorems; no conditions. -/
import Derived.Test.YtfdlmimgooeioaaDoorU0
import Derived.Test.YtfdlmimgooeioaaDoorPx8
set_option linter.unusedVariables false
set_option linter.unusedSimpArgs false
/-! pages of trees: a row of structs that hold three rows each -/
namespace Go.Px
open Go.RowKit
structure SlL where
  A : Option Addr
  cp : Nat
  l : List Int
structure PgL where
  k : SlL
  c : SlL
  v : SlL
def PgL.t (x : PgL) : PgT := ⟨x.k.l, x.c.l, x.v.l⟩
structure TreeL where
  root : Int
  A : Option Addr
  cp : Nat
  l : List PgL
abbrev tsG (l : List PgL) : List PgT := l.map PgL.t
def TreeL.t (T : TreeL) : TrT := ⟨T.root, tsG T.l⟩
def encPg (x : PgL) : List Value := [.slice x.k.A x.k.l.length x.k.cp, .slice x.c.A x.c.l.length x.c.cp, .slice x.v.A x.v.l.length x.v.cp]
theorem encPg_len (x : PgL) : (encPg x).length = 3 := rfl
def slF (e : TypeId) (x : SlL) : FE := ⟨.slice x.A x.l.length x.cp, e, 1, x.l.length, x.l.map I⟩
def pgF (e : TypeId) (x : PgL) : List FE := [slF e x.k, slF e x.c, slF e x.v]
def PgN (w : World) (x : PgL) : Prop := Rd w x.k.A (x.k.l.map I) ∧ Rd w x.c.A (x.c.l.map I) ∧ Rd w x.v.A (x.v.l.map I)
def NsP (w : World) (l : List PgL) : Prop := ∀ x ∈ l, PgN w x
def TrN (w : World) (T : TreeL) : Prop := Rd w T.A (T.l.flatMap encPg) ∧ NsP w T.l
def PgO (x : PgL) (R : List (Option Nat)) : Prop := Off x.k.A (x.k.l.map I) R ∧ Off x.c.A (x.c.l.map I) R ∧ Off x.v.A (x.v.l.map I) R
def TrO (T : TreeL) (R : List (Option Nat)) : Prop := Off T.A (T.l.flatMap encPg) R ∧ ∀ x ∈ T.l, PgO x R
section
variable {w0 w : World} {R : List (Option Nat)} {M : List (List FE)} {L : List FE} {l : List PgL} {e : TypeId} {x : PgL} {T : TreeL}
theorem PgN.at (h : PgN w0 x) (hM : Mem0 w0 w [] L) : PgN w x := ⟨h.1.at hM, h.2.1.at hM, h.2.2.at hM⟩
theorem PgN.atR (h : PgN w0 x) (hM : Mem0 w0 w R L) (ho : PgO x R) : PgN w x := ⟨h.1.atR hM ho.1, h.2.1.atR hM ho.2.1, h.2.2.atR hM ho.2.2⟩
theorem NsP.nil : NsP w [] := by intro x hx; simp at hx
theorem NsP.at (h : NsP w0 l) (hM : Mem0 w0 w [] L) : NsP w l := fun x hx => (h x hx).at hM
theorem NsP.get (h : NsP w l) {j : Nat} (hj : j < l.length) : PgN w l[j] := h _ (List.getElem_mem hj)
theorem TrN.at (h : TrN w0 T) (hM : Mem0 w0 w [] L) : TrN w T := ⟨h.1.at hM, h.2.at hM⟩
theorem TrN.atR (h : TrN w0 T) (hM : Mem0 w0 w R L) (ho : TrO T R) : TrN w T := ⟨h.1.atR hM ho.1, fun x hx => (h.2 x hx).atR hM (ho.2 x hx)⟩
theorem TrN.get (h : TrN w T) {j : Nat} (hj : j < T.l.length) : PgN w T.l[j] := h.2.get hj
theorem NsP.mem (h : Mem w0 w R M) (i : Nat) (hi : M[i]? = some (l.flatMap (pgF e))) : NsP w l := by
  have hm : ∀ x ∈ l, ∀ y ∈ pgF e x, y.own w := fun x hx y hy => h.own _ (List.mem_flatten.2 ⟨_, List.mem_of_getElem? hi, List.mem_flatMap.2 ⟨x, hx, hy⟩⟩)
  intro x hx
  exact ⟨own_rd (hm x hx (slF e x.k) (by simp [pgF])), own_rd (hm x hx (slF e x.c) (by simp [pgF])), own_rd (hm x hx (slF e x.v) (by simp [pgF]))⟩
theorem TrO.nil : TrO T [] := ⟨Off.nil, fun _ _ => ⟨Off.nil, Off.nil, Off.nil⟩⟩
theorem Off.cons {A : Option Addr} {l : List Value} {r : Option Nat} (h : Off A l [r]) (h2 : Off A l R) : Off A l (r :: R) := by
  rcases h with h | h
  · exact .inl h
  · rcases h2 with h2 | h2
    · exact .inl h2
    · refine .inr fun a ha => ?_
      have h3 := h a ha
      have h4 := h2 a ha
      simp only [List.mem_singleton] at h3
      simp [h3, h4]
theorem TrO.cons {r : Option Nat} (h : TrO T [r]) (h2 : TrO T R) : TrO T (r :: R) :=
  ⟨h.1.cons h2.1, fun x hx => ⟨(h.2 x hx).1.cons (h2.2 x hx).1, (h.2 x hx).2.1.cons (h2.2 x hx).2.1, (h.2 x hx).2.2.cons (h2.2 x hx).2.2⟩⟩
theorem TrO.old (h : Mem w0 w [] M) (hT : TrN w0 T) (i : Nat) {m sz : Nat} {v' : Value} {e' : TypeId} {xs : List Value} {g : List FE} (hi : M[i]? = some (⟨v', e', sz, m, xs⟩ :: g)) : TrO T [v'.ownBlock] :=
  ⟨h.off_old hT.1 i hi, fun x hx => ⟨h.off_old (hT.2 x hx).1 i hi, h.off_old (hT.2 x hx).2.1 i hi, h.off_old (hT.2 x hx).2.2 i hi⟩⟩
theorem Mem.permg (h : Mem w0 w R M) {M' : List (List FE)} (p : M.flatten.Perm M'.flatten) : Mem w0 w R M' :=
  ⟨h.os, h.tape, h.output, h.size, h.block, fun y hy => h.own y (p.mem_iff.2 hy), (p.pairwise_iff (fun h => Apart.symm h)).1 h.apart, fun y hy => h.born y (p.mem_iff.2 hy)⟩
theorem Mem.gnil (h : Mem w0 w R M) : Mem w0 w R (([] : List PgL).flatMap (pgF e) :: M) := by simpa [Mem] using h
/-- three rows join the pages at the end -/
theorem Mem.gapp {k c v : SlL} (h : Mem w0 w R (l.flatMap (pgF e) :: [slF e k] :: [slF e c] :: [slF e v] :: M)) : Mem w0 w R ((l ++ [(⟨k, c, v⟩ : PgL)]).flatMap (pgF e) :: M) := by
  simpa [Mem, pgF, List.flatMap_append] using h
end
theorem gP_lt {T : TreeL} {j : Nat} (h : j < T.l.length) : gP T.t (j : Int) = T.l[j].t := by
  unfold gP TreeL.t tsG
  simp only [Int.toNat_natCast]
  rw [List.getD_eq_getElem?_getD, List.getElem?_eq_getElem (by simpa using h), Option.getD_some, List.getElem_map]
theorem gP_at {T : TreeL} {i : Int} {j : Nat} (hj : j = i.toNat) (h : j < T.l.length) : gP T.t i = T.l[j].t := by
  subst hj
  unfold gP TreeL.t tsG
  rw [List.getD_eq_getElem?_getD, List.getElem?_eq_getElem (by simpa using h), Option.getD_some, List.getElem_map]
theorem inT_t {T : TreeL} {i : Int} : inT T.t i = true ↔ 0 ≤ i ∧ i < (T.l.length : Int) := by
  rw [inT_iff]; simp [TreeL.t]
theorem pages_len {T : TreeL} : T.t.pages.length = T.l.length := by simp [TreeL.t]
theorem Ru.indexArrK {P : Program} {σ : Sig} {w : World} {dst : Option Tmp} {T T' e : TypeId} {pos : String} {after : Array Edge} {g : Option (Nat × Bool)} {x y : Operand} {zs : List Value} {bytes : Nat} {agg : Bool} {A : Option Addr} {k : IntKind} {i : Int} {j len k0 : Nat} (ht : P.underlying T = some (.array len e)) (he : ElT P e zs bytes agg) (hz : zs.length = 1) (hx : ev σ x = .pointer (ofs A k0)) (hA : A.isSome = true) (hy : ev σ y = .int k i)
    (hi : i.toNat = j) (h0 : 0 ≤ i ∧ i < len) : Ru P σ ⟨dst, .indexAddr T x y, T', pos, after, g⟩ w (.pointer (ofs A (k0 + j))) := by
  cases A with
  | none => cases hA
  | some a =>
    subst hi
    have e0 := add_add a k0
    simp [Ru, execOp, hx, hy, ofs, Instr.indexAt, asIntOf, run_underlying ht, h0.1, h0.2, run_size he, Instr.sureAddr, hz, e0]
/-! structs by value, with fields of several cells -/
def ManyF (P : Program) (T : TypeId) (zs : List Value) (l : List (Nat × Nat)) : Prop :=
  ∃ it z fs, P.info? T = some it ∧ it.zero = some z ∧ z.cells = zs.toArray ∧ P.underlying T = some (.struct fs) ∧ fs.toList.mapM (fun f => (P.info? f.type).map fun i => (f.offset, i.size)) = some l
theorem ManyF.of {P : Program} {T : TypeId} {zs : List Value} {l : List (Nat × Nat)} {z : Value} (h1 : (P.info? T).map (·.zero) = some (some z)) (hz : z.cells = zs.toArray) (h2 : oneq P T = some l) : ManyF P T zs l := by
  unfold oneq at h2
  cases hi : P.info? T with
  | none => rw [hi] at h1; cases h1
  | some it =>
    rw [hi] at h1
    split at h2
    · rename_i fs hu
      exact ⟨it, z, fs, hi, by simpa using h1, hz, hu, h2⟩
    · cases h2
theorem Ru.buildN {P : Program} {σ : Sig} {w : World} {dst : Option Tmp} {T T' : TypeId} {pos : String} {after : Array Edge} {g : Option (Nat × Bool)} {zs : List Value} {l : List (Nat × Nat)} {parts : List (Nat × Operand)} {ps : List (Nat × Value)} {cs : List Value} (hT : ManyF P T zs l) (hp : evp σ parts = ps) (hf : Instr.fill (l.toArray[·]?) zs.toArray ps = some cs.toArray) : Ru P σ ⟨dst, .build T parts.toArray, T', pos, after, g⟩ w (.agg cs.toArray) := by
  subst hp
  obtain ⟨it, z, fs, hi, hz, hzc, hu, hm⟩ := hT
  have hb : P.built T (evp σ parts) = some cs.toArray := by
    unfold Program.built
    simp only [hi, hu, hz, hm, hzc]
    exact hf
  have := run_build (P := P) w T ((evp σ parts).toArray) _ (by simpa using hb)
  rw [evp_eq] at this
  simp only [Ru, execOp, List.map_toArray]
  simp [this, evp_eq]
/-! the box of a check: the tree, what was seen, the depth of the leaves -/
def seenC (s : List Int) (i : Int) : Value := .bool (decide (i ∈ s))
def ckC (T : TreeL) (s : List Int) (ld : Int) : List Value :=
  [I T.root, .slice T.A T.l.length T.cp, seenC s 0, seenC s 1, seenC s 2, seenC s 3, seenC s 4, seenC s 5, seenC s 6, seenC s 7, seenC s 8, seenC s 9, seenC s 10, seenC s 11, seenC s 12, seenC s 13, seenC s 14, seenC s 15, I ld]
theorem ck_get {T : TreeL} {s : List Int} {ld : Int} {i : Nat} (h : i < 16) : (ckC T s ld)[2 + i]? = some (.bool (decide ((i : Int) ∈ s))) := by
  have : i = 0 ∨ i = 1 ∨ i = 2 ∨ i = 3 ∨ i = 4 ∨ i = 5 ∨ i = 6 ∨ i = 7 ∨ i = 8 ∨ i = 9 ∨ i = 10 ∨ i = 11 ∨ i = 12 ∨ i = 13 ∨ i = 14 ∨ i = 15 := by omega
  rcases this with rfl | rfl | rfl | rfl | rfl | rfl | rfl | rfl | rfl | rfl | rfl | rfl | rfl | rfl | rfl | rfl <;> rfl
theorem seen_app {s : List Int} {i j : Int} (h : j ≠ i) : seenC (s ++ [i]) j = seenC s j := by
  unfold seenC; congr 1; simp [h]
theorem seen_own {s : List Int} {i : Int} : seenC (s ++ [i]) i = .bool true := by unfold seenC; simp
theorem ck_set {T : TreeL} {s : List Int} {ld : Int} {i : Nat} (h : i < 16) : spl (ckC T s ld) (2 + i) [.bool true] = ckC T (s ++ [(i : Int)]) ld := by
  have : i = 0 ∨ i = 1 ∨ i = 2 ∨ i = 3 ∨ i = 4 ∨ i = 5 ∨ i = 6 ∨ i = 7 ∨ i = 8 ∨ i = 9 ∨ i = 10 ∨ i = 11 ∨ i = 12 ∨ i = 13 ∨ i = 14 ∨ i = 15 := by omega
  rcases this with rfl | rfl | rfl | rfl | rfl | rfl | rfl | rfl | rfl | rfl | rfl | rfl | rfl | rfl | rfl | rfl <;>
    (unfold ckC; simp [spl, seen_own, seen_app])
theorem ck_getI {T : TreeL} {s : List Int} {ld : Int} {i : Int} (h : 0 ≤ i ∧ i < 16) : (ckC T s ld)[2 + i.toNat]? = some (.bool (decide (i ∈ s))) := by
  have := ck_get (T := T) (s := s) (ld := ld) (i := i.toNat) (by omega)
  rwa [show ((i.toNat : Nat) : Int) = i by omega] at this
theorem ck_setI {T : TreeL} {s : List Int} {ld : Int} {i : Int} (h : 0 ≤ i ∧ i < 16) : spl (ckC T s ld) (2 + i.toNat) [.bool true] = ckC T (s ++ [i]) ld := by
  have := ck_set (T := T) (s := s) (ld := ld) (i := i.toNat) (by omega)
  rwa [show ((i.toNat : Nat) : Int) = i by omega] at this
theorem ck_ld {T : TreeL} {s : List Int} {ld ld' : Int} : spl (ckC T s ld) 18 [I ld'] = ckC T s ld' := rfl
theorem ck_nil {T : TreeL} {ld : Int} : [I T.root, .slice T.A T.l.length T.cp, .bool false, .bool false, .bool false, .bool false, .bool false, .bool false, .bool false, .bool false, .bool false, .bool false, .bool false, .bool false, .bool false, .bool false, .bool false, .bool false, I ld] = ckC T [] ld := by
  simp [ckC, seenC]
end Go.Px
