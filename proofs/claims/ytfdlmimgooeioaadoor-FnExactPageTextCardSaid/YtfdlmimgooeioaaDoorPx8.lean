/- Own layer: part of this seat (Px8). Plain theorems; no conditions. -/
import Derived.Test.YtfdlmimgooeioaaDoorPx7
set_option linter.unusedVariables false
set_option linter.unusedSimpArgs false
namespace Go.Px
open Go.RowKit
section
variable {P : Program} {σ : Sig} {w : World} {dst : Option Tmp} {T U T' e : TypeId} {pos : String} {after : Array Edge} {g : Option (Nat × Bool)} {x y z y1 y2 y3 : Operand}
variable {zs : List Value} {bytes : Nat} {agg : Bool} {n : Nat} {Q : Post} {ops rest : List Oper} {w0 : World} {R : List (Option Nat)} {M : List (List FE)}
theorem Ru.indexArr {A : Option Addr} {k : IntKind} {i : Int} {j len : Nat} (ht : P.underlying T = some (.array len e)) (he : ElT P e zs bytes agg) (hx : ev σ x = .pointer (ofs A 0)) (hA : A.isSome = true) (hy : ev σ y = .int k i)
    (hi : i.toNat = j) (h0 : 0 ≤ i ∧ i < len) : Ru P σ ⟨dst, .indexAddr T x y, T', pos, after, g⟩ w (.pointer (ofs A (j * zs.length))) := by
  cases A with
  | none => cases hA
  | some a =>
    subst hi
    have e0 : a.add 0 = a := by simp [Addr.add]
    simp [Ru, execOp, hx, hy, ofs, Instr.indexAt, asIntOf, run_underlying ht, h0.1, h0.2, run_size he, Instr.sureAddr, e0]
/-- an array of one's own -/
theorem O.marr {d m sz : Nat} {xs : List Value} (hM : Mem w0 w R M) (hg : gok ops σ g = true) (hd : Nat.blt d n = true) (he : ElT P T zs bytes agg) (hq : zs = xs) (hl : xs.length = m * sz) (hm : m ≤ 1152921504606846976)
    (h : ∀ w' b, w0.heap.size ≤ b → Mem w0 w' R ([⟨.slice (bl b) m m, T, sz, m, xs⟩] :: M) → O P n ops rest Q (upd σ d (.pointer (ofs (bl b) 0))) w') : O P n ops (⟨some d, .alloc T, T', pos, after, g⟩ :: rest) Q σ w := by
  subst hq
  exact O.alloc hg hd he fun w' b hb hE hB => h w' b (by have := hM.size; omega) (Mem.cons hM hE (blk_own' (m := m) (sz := sz) hB hl (by simp only [maxLen]; omega)) (fun k hk => by simp [FE.blk, Value.ownBlock] at hk; omega))
theorem Ru.lslice3 {A : Option Addr} {m c : Nat} {lo hi mx : Int} {v : Value} (ht : P.underlying T = some (.slice e)) (he : ElT P e zs bytes agg) (hx : ev σ x = .slice A m c) (hlo : ev σ y1 = I lo) (hhi : ev σ y2 = I hi) (hmx : ev σ y3 = I mx) (hb : 0 ≤ lo ∧ lo ≤ hi ∧ hi ≤ mx ∧ mx ≤ c)
    (hv : v = .slice (if mx.toNat = lo.toNat then A else ofs A (lo.toNat * zs.length)) (hi.toNat - lo.toNat) (mx.toNat - lo.toNat)) : Ru P σ ⟨dst, .slice T x (some y1) (some y2) (some y3), T', pos, after, g⟩ w v := by
  subst hv
  have h1 : 0 ≤ hi := by omega
  have h2 : 0 ≤ mx := by omega
  have h3 : lo ≤ max hi 0 := by omega
  have h4 : hi ≤ max mx 0 := by omega
  simp [Ru, execOp, hx, hlo, hhi, hmx, Instr.sliceAt, run_underlying ht, Instr.slice, Instr.sliceBounds, Instr.sliceBound, asIntOf, h1, h2, h3, h4, hb.1, hb.2.2.2, run_size he]
  rfl
theorem O.mclear0 {i : Nat} {A A1 : Option Addr} {m c sz j c1 : Nat} {t : TypeId} {xs : List Value} (hM : Mem w0 w R M) (hi : M[i]? = some [⟨.slice A m c, e, sz, m, xs⟩]) (hg : gok ops σ g = true) (ht : P.underlying t = some (.slice e)) (he : ElT P e zs bytes agg) (hz : zs.length = sz) (hx : ev σ x = .slice A1 j c1)
    (hA : 0 < j → A1 = ofs A (m * sz)) (hj : m + j ≤ c) (h1 : (zs.all one) = true)
    (h : ∀ w', Mem w0 w' R M → O P n ops rest Q σ w') : O P n ops (⟨none, .call ⟨.builtin .clear, #[x], #[t]⟩, T', pos, after, g⟩ :: rest) Q σ w := by
  subst hz
  obtain ⟨ii, zv, hii, hzz, hzc, hs, hb⟩ := he.info
  have hlt : i < M.length := (List.getElem?_eq_some_iff.1 hi).1
  have hxl := mem_row hM hi
  by_cases h0 : j = 0
  · subst h0
    refine O.valN hg (v := .tuple #[]) (w' := w) ?_ (h _ hM)
    cases A1 <;> simp [Rw, execOp, resolve, invoke, builtin, hx, Builtin.clear_, run_underlying ht]
  · have hA1 := hA (by omega)
    cases hAn : A with
    | none =>
      exfalso
      have := hM.get hi (j := 0) rfl
      subst hAn
      obtain ⟨_, ⟨h1', h2⟩ | ⟨b, c', cur, h1', _⟩⟩ := this
      · simp at h1'; omega
      · simp at h1'
    | some a0 =>
      have hzl : (Builtin.zeroCells zv.cells j).toList = zer zs j := by
        unfold zer
        rw [hzc]
        simp [Builtin.zeroCells, madeCells]
      obtain ⟨ys, hyl, hM2⟩ := Mem.extend (k := j) hM hi hj (fun _ => by rw [hAn]; rfl)
      have hi2 : (M.set i [⟨.slice A (m + j) c, e, zs.length, m + j, xs ++ ys⟩])[i]? = some [⟨.slice A (m + j) c, e, zs.length, m + j, xs ++ ys⟩] := by
        rw [List.getElem?_set_self hlt]
      by_cases hzs : zer zs j = []
      · refine O.valN hg (v := .tuple #[]) (w' := w) ?_ (h _ hM)
        obtain ⟨j', rfl⟩ : ∃ j', j = j' + 1 := ⟨j - 1, by omega⟩
        subst hA1
        subst hAn
        have := hzl
        rw [hzs] at this
        simp [Rw, execOp, resolve, invoke, builtin, hx, ofs, Builtin.clear_, run_underlying ht, zeroValue, typeInfo, hii, hzz, this, storeCells]
      · have hza : (zer zs j).all one = true := by
          rw [zer_eq, List.all_eq_true]
          intro v hv
          obtain ⟨l, hl, hv⟩ := List.mem_flatten.1 hv
          rw [(List.mem_replicate.1 hl).2] at hv
          exact List.all_eq_true.1 h1 v hv
        obtain ⟨a, w', ha, hst, hM3⟩ := store_own (P := P) hM2 hi2 (k := m * zs.length) (vs := zer zs j) (by simp [hxl, hyl, zer_length]) hza hzs
        rw [List.set_set] at hM3
        have hM4 := Mem.shrink (i := i) (k := m) hM3 (List.getElem?_set_self hlt) (by omega) rfl
        rw [List.set_set] at hM4
        have hfin : (spl (xs ++ ys) (m * zs.length) (zer zs j)).take (m * zs.length) = xs := by
          unfold spl
          rw [← hxl, List.take_left, List.append_assoc, List.take_left]
        rw [hfin] at hM4
        have hself : M.set i [⟨.slice A m c, e, zs.length, m, xs⟩] = M := by
          obtain ⟨hlt, he'⟩ := List.getElem?_eq_some_iff.1 hi
          rw [← he', List.set_getElem_self]
        rw [hself] at hM4
        refine O.valN hg (v := .tuple #[]) (w' := w') ?_ (h _ hM4)
        obtain ⟨j', rfl⟩ : ∃ j', j = j' + 1 := ⟨j - 1, by omega⟩
        subst hA1
        have hst' : (storeCells a (Builtin.zeroCells zv.cells (j' + 1)).toList).run P w = .ok () w' := by rw [hzl]; exact hst
        simp [Rw, execOp, resolve, invoke, builtin, hx, ha, Builtin.clear_, run_underlying ht, zeroValue, typeInfo, hii, hzz, hst']
/-- rows held lie apart -/
theorem Mem.off (h : Mem w0 w R M) (i j : Nat) (hij : i ≠ j) {A : Option Addr} {l : List Value} {n1 c m sz m' sz' : Nat} {v' : Value} {e e' : TypeId} {xs xs' : List Value} {g g' : List FE} (hi : M[i]? = some (⟨.slice A n1 c, e, sz, m, xs⟩ :: g)) (hj : M[j]? = some (⟨v', e', sz', m', xs'⟩ :: g')) : Off A l [v'.ownBlock] := by
  refine .inr fun a ha hm => ?_
  have hg := grp_get (List.pairwise_flatten.1 h.apart).2 hi hj hij _ (List.mem_cons_self) _ (List.mem_cons_self)
  subst ha
  exact hg a.block rfl (List.mem_singleton.1 hm).symm
theorem Mem.off_old {A : Option Addr} {l : List Value} (h : Mem w0 w [] M) (hA : Rd w0 A l) (i : Nat) {m sz : Nat} {v' : Value} {e : TypeId} {xs : List Value} {g : List FE} (hi : M[i]? = some (⟨v', e, sz, m, xs⟩ :: g)) : Off A l [v'.ownBlock] := by
  rcases hA with h0 | ⟨b, o, rfl, hb, _⟩
  · exact .inl h0
  · refine .inr (fun a ha hm => ?_)
    cases ha
    have := h.born _ (List.mem_flatten.2 ⟨_, List.mem_of_getElem? hi, List.mem_cons_self⟩) b (List.mem_singleton.1 hm).symm
    simp at this
    omega
theorem Rd.left {A : Option Addr} {a b : List Value} (h : Rd w A (a ++ b)) : Rd w A a := by
  have := h.take a.length
  rwa [List.take_left] at this
/-- slices.overlaps at two rows held -/
theorem overlaps_own {tS tR : TypeId} {i j : Nat} {A V : Option Addr} {n1 c m vc sz szv mv mA lv cv la ca k : Nat} {e' : TypeId} {xs vs : List Value} (hM : Mem w0 w R M) (hij : i ≠ j) (hi : M[i]? = some [⟨.slice V m vc, e', szv, mv, vs⟩]) (hj : M[j]? = some [⟨.slice A n1 c, e, sz, mA, xs⟩])
    (ht : P.underlying tS = some (.slice e)) (he : ElT P e zs bytes agg) (hc : 0 < c) (hsz : 0 < sz) (A1 : Option Addr) (hA1 : A1 = ofs A k) :
    (Extern.SlicesOverlaps.overlaps #[tS, tS] #[tR] #[.slice V lv cv, .slice A1 la ca]).run P w = .ok (.bool false) w := by
  have ho1 := hM.get hi (j := 0) rfl
  have ho2 := hM.get hj (j := 0) rfl
  have hap := grp_get (List.pairwise_flatten.1 hM.apart).2 hi hj hij _ (List.mem_cons_self) _ (List.mem_cons_self)
  have hz : ∀ w, (Go.sizeOf e).run P w = .ok zs.length w := fun w => run_size he
  have hnone : ∀ (a b : Option Addr), a = none ∨ b = none → (Extern.SlicesOverlaps.overlaps #[tS, tS] #[tR] #[.slice a lv cv, .slice b la ca]).run P w = .ok (.bool false) w := by
    intro a b hab
    change Sem.run P (α := Value) (do
      let some t := (#[tS, tS] : Array TypeId)[0]? | stuck "slices.overlaps: no parameter types"
      let .slice elem ← underlying t | stuck "slices.overlaps: slice type expected"
      let size ← sizeOf elem
      match (a : Option Addr), (b : Option Addr) with
      | some a, some b =>
        if lv = 0 ∨ la = 0 ∨ size = 0 then pure (Value.bool false)
        else if a.block != b.block && (← frozen a) && (← frozen b) then unsupported .addressObserved
        else do
          if a.block != b.block then do
            noView a; noView b
            if ← mayBeOne a b then return Value.bool ((← choose (.extern "sameAddr.stringBytes" 2)) == 1)
          pure (Value.bool (a.block == b.block && a.off < b.off + la * size && b.off < a.off + lv * size))
      | _, _ => pure (Value.bool false)) w = _
    rcases hab with rfl | rfl
    · simp [run_underlying ht, hz]
    · cases a <;> simp [run_underlying ht, hz]
  rcases ho1.2 with ⟨h1, _⟩ | ⟨g1, c1, cur1, h1, _, hh1, _, _, hs1, _⟩
  · simp at h1; obtain ⟨rfl, _, _⟩ := h1
    exact hnone _ _ (.inl rfl)
  · simp at h1; obtain ⟨rfl, _, rfl⟩ := h1
    rcases ho2.2 with ⟨h2, _⟩ | ⟨g2, c2, cur2, h2, _, hh2, _, _, hs2, _⟩
    · simp at h2; obtain ⟨rfl, _, _⟩ := h2
      subst hA1
      exact hnone _ _ (.inr rfl)
    · simp at h2; obtain ⟨rfl, _, rfl⟩ := h2
      subst hA1
      simp only at hh1 hh2 hs1 hs2
      have hne : g1 ≠ g2 := fun h => hap g1 rfl (by rw [h]; rfl)
      have e2 : ofs (some ⟨g2, 0, none⟩) k = some ⟨g2, k, none⟩ := by simp [ofs, add_lit]
      rw [e2]
      exact Lib.run_overlaps_apart (P := P) w tS tR e ht zs.length hz ⟨g1, 0, none⟩ ⟨g2, k, none⟩ lv cv la ca hne e' e cur1.size cur2.size (by simp [World.shape?, hh1]) (by simp [World.shape?, hh2])
        (by rw [hs2]; exact Nat.ne_of_gt (Nat.mul_pos hc hsz)) (by simp [World.frozen?, hh1]) (by simp [World.frozen?, hh1])
/-! a piece of a list laid over another -/
theorem spl_mid_map {α : Type} {f : α → Value} {a b c d : List α} {k : Nat} (hk : a.length = k) (hb : b.length = d.length) : spl ((a ++ (b ++ c)).map f) (k * 1) (d.map f) = (a ++ (d ++ c)).map f := by
  subst hk
  unfold spl
  simp only [List.map_append, Nat.mul_one]
  have h1 : (a.map f).length = a.length := by simp
  have h2 : (b.map f).length = (d.map f).length := by simp [hb]
  rw [← h1, List.take_left, ← List.drop_drop, List.drop_left, ← h2, List.drop_left, List.append_assoc]
theorem spl_mid_flat {α : Type} {f : α → List Value} {n : Nat} (hn : ∀ a, (f a).length = n) {a b c d : List α} {k : Nat} (hk : a.length = k) (hb : b.length = d.length) : spl ((a ++ (b ++ c)).flatMap f) (k * n) (d.flatMap f) = (a ++ (d ++ c)).flatMap f := by
  subst hk
  unfold spl
  simp only [List.flatMap_append]
  have h1 : (a.flatMap f).length = a.length * n := flat_len hn a
  have h2 : (b.flatMap f).length = (d.flatMap f).length := by rw [flat_len hn, flat_len hn, hb]
  rw [← h1, List.take_left, ← List.drop_drop, List.drop_left, ← h2, List.drop_left, List.append_assoc]
end
end Go.Px
namespace Go.Px
theorem isNone_map {α : Type} {f : α → Value} {l : List α} {A : Option Addr} {w : World} (h : Rd w A (l.map f)) (hn : A.isNone = true) : l = [] := by
  cases A with
  | none => simpa using rd_none h
  | some a => cases hn
theorem isNone_flat {α : Type} {f : α → List Value} {n : Nat} (hf : ∀ a, (f a).length = n) (h0 : 0 < n) {l : List α} {A : Option Addr} {w : World} (h : Rd w A (l.flatMap f)) (hn : A.isNone = true) : l = [] := by
  cases A with
  | none =>
    have := congrArg List.length (rd_none h)
    rw [flat_len hf, List.length_nil] at this
    rcases Nat.mul_eq_zero.1 this with h | h
    · exact List.eq_nil_of_length_eq_zero h
    · omega
  | some a => cases hn
/-! lists filled place by place -/
theorem fill_set {α β : Type} {f : α → β} {l : List α} {z : β} {k : Nat} (hk : k < l.length) : ((l.take k).map f ++ List.replicate (l.length - k) z).set k (f l[k]) = (l.take (k + 1)).map f ++ List.replicate (l.length - (k + 1)) z := by
  have h1 : ((l.take k).map f).length = k := by simp; omega
  have h2 : l.length - k = (l.length - (k + 1)) + 1 := by omega
  rw [take_snoc hk, List.map_append, List.set_append_right _ _ (by omega), h1, Nat.sub_self, h2, List.replicate_succ, List.set_cons_zero]
  simp
theorem fill_zero {α β : Type} {f : α → β} {l : List α} {z : β} : List.replicate l.length z = (l.take 0).map f ++ List.replicate (l.length - 0) z := by simp
theorem fill_all {α β : Type} {f : α → β} {l : List α} {z : β} {k : Nat} (hk : l.length ≤ k) : (l.take k).map f ++ List.replicate (l.length - k) z = l.map f := by
  rw [List.take_of_length_le hk, show l.length - k = 0 by omega]; simp
theorem fill_len {α β : Type} {f : α → β} {l : List α} {z : β} {k : Nat} (hk : k ≤ l.length) : ((l.take k).map f ++ List.replicate (l.length - k) z).length = l.length := by simp; omega
theorem map_snoc {α β : Type} {f : α → β} {l : List α} {k : Nat} (hk : k < l.length) : (l.take k).map f ++ [f l[k]] = (l.take (k + 1)).map f := by rw [take_snoc hk, List.map_append]; rfl
theorem ins_cells {X ys V : List Value} {i : Nat} (hi : i ≤ X.length) (hy : ys.length = V.length) : spl (spl (X ++ ys) (i + V.length) (X.drop i)) i V = X.take i ++ (V ++ X.drop i) := by
  have h1 : (X ++ ys).drop (i + V.length + (X.drop i).length) = [] := List.drop_of_length_le (by simp; omega)
  have h2 : spl (X ++ ys) (i + V.length) (X.drop i) = (X ++ ys).take (i + V.length) ++ X.drop i := by
    unfold spl; rw [h1, List.append_nil]
  have h3 : ((X ++ ys).take (i + V.length)).length = i + V.length := by simp; omega
  rw [h2]
  unfold spl
  rw [List.take_append_of_le_length (by omega), List.take_take, Nat.min_eq_left (by omega), List.take_append_of_le_length hi]
  have h4 : ((X ++ ys).take (i + V.length) ++ X.drop i).drop (i + V.length) = X.drop i := by
    conv => lhs; arg 1; rw [← h3]
    rw [List.drop_left]
  rw [h4, List.append_assoc]
theorem grow_cells {X Z V : List Value} {i : Nat} (hi : i ≤ X.length) (hz : Z.length = V.length + (X.length - i)) : spl (spl (X.take i ++ Z) i V) (i + V.length) (X.drop i) = X.take i ++ (V ++ X.drop i) := by
  have h1 : (X.take i).length = i := by simp; omega
  have h2 : spl (X.take i ++ Z) i V = X.take i ++ V ++ Z.drop V.length := by
    unfold spl
    have e1 : (X.take i ++ Z).take i = X.take i := List.take_left' h1
    have e2 : (X.take i ++ Z).drop (i + V.length) = Z.drop V.length := by
      rw [← List.drop_drop, List.drop_left' h1]
    rw [e1, e2]
  rw [h2]
  have h3 : (X.take i ++ V).length = i + V.length := by simp; omega
  unfold spl
  have e3 : (X.take i ++ V ++ Z.drop V.length).take (i + V.length) = X.take i ++ V := List.take_left' h3
  have e4 : (X.take i ++ V ++ Z.drop V.length).drop (i + V.length + (X.drop i).length) = [] := List.drop_of_length_le (by simp; omega)
  rw [e3, e4, List.append_nil, List.append_assoc]
theorem insert_mid {α : Type} {l : List α} {i : Nat} {x : α} (hi : i ≤ l.length) : (l.take i ++ x :: l.drop i).length = l.length + 1 := by simp; omega
end Go.Px
namespace Go.Px
theorem fillI_set {α : Type} {l : List α} {z : α} {k : Nat} (hk : k < l.length) : (l.take k ++ List.replicate (l.length - k) z).set k l[k] = l.take (k + 1) ++ List.replicate (l.length - (k + 1)) z := by
  have := fill_set (f := id) (z := z) hk
  simpa using this
theorem fillI_zero {α : Type} {l : List α} {z : α} : List.replicate l.length z = l.take 0 ++ List.replicate (l.length - 0) z := by simp
theorem fillI_all {α : Type} {l : List α} {z : α} {k : Nat} (hk : l.length ≤ k) : l.take k ++ List.replicate (l.length - k) z = l := by
  rw [List.take_of_length_le hk, show l.length - k = 0 by omega]; simp
theorem fillI_len {α : Type} {l : List α} {z : α} {k : Nat} (hk : k ≤ l.length) : (l.take k ++ List.replicate (l.length - k) z).length = l.length := by simp; omega
/-! marks -/
def mkL {α : Type} (f : Nat → α) (n : Nat) : List α := (List.range n).map f
@[simp] theorem mkL_len {α : Type} (f : Nat → α) (n : Nat) : (mkL f n).length = n := by simp [mkL]
theorem mkL_get {α : Type} {f : Nat → α} {n i : Nat} (h : i < (mkL f n).length) : (mkL f n)[i] = f i := by simp [mkL]
theorem mkL_mid {α : Type} {f : Nat → α} {l : List α} {i : Nat} (h : i ≤ l.length) : (mkL f i ++ l.drop i).length = l.length := by simp [mkL_len]; omega
theorem mkL_zero {α : Type} {f : Nat → α} {l : List α} : l = mkL f 0 ++ l.drop 0 := by simp [mkL]
theorem mkL_all {α : Type} {f : Nat → α} {l : List α} {i : Nat} (h : l.length ≤ i) (h' : i ≤ l.length) : mkL f i ++ l.drop i = mkL f l.length := by
  have : i = l.length := by omega
  subst this; simp
theorem mkL_set {α : Type} {f : Nat → α} {l : List α} {i : Nat} (h : i < l.length) : (mkL f i ++ l.drop i).set i (f i) = mkL f (i + 1) ++ l.drop (i + 1) := by
  rw [List.set_append_right _ _ (by rw [mkL_len]; omega), mkL_len, Nat.sub_self, List.drop_eq_getElem_cons h, List.set_cons_zero]
  simp [mkL, List.range_succ]
theorem lst_ne_len {α : Type} [DecidableEq α] {a b : List α} (h : a.length ≠ b.length) : decide (a = b) = false := ne_len h
/-- what is left of a purse -/
theorem mid_search {p : Nat → Bool} {n i j : Nat} (hm : ∀ a b, a ≤ b → b < n → p a = true → p b = true) (hij : i < j) (hj : j ≤ n) (h : p ((i + j) / 2) = false) (hi : ∀ t, t < i → p t = false) : ∀ t, t < (i + j) / 2 + 1 → p t = false := by
  intro t ht
  cases hp : p t with
  | false => rfl
  | true => rw [hm t ((i + j) / 2) (by omega) (by omega) hp] at h; cases h
theorem mid_search2 {p : Nat → Bool} {n i j : Nat} (hm : ∀ a b, a ≤ b → b < n → p a = true → p b = true) (h : p ((i + j) / 2) = true) : ∀ t, (i + j) / 2 ≤ t → t < n → p t = true := fun t h1 h2 => hm _ t h1 h2 h
end Go.Px
