/- Own layer: part of this seat (T1). Plain theorems; no conditions. -/
import Derived.Test.YtfdlmimgooeioaaDoorT0
import Derived.Test.YtfdlmimgooeioaaDoorPx8
import Derived.Shelf.Strconv.Itoa3
import Derived.Lib.Builder
import Derived.Laws.Externs
set_option linter.unusedVariables false
set_option linter.unusedSimpArgs false
/-! numbers as texts: the library's contract; a table of the library's that stays; pointers compared and handed on -/
namespace Go.Px
open Go.RowKit
section
variable {P : Program} {w0 w : World} {L : List FE} {nm : String} {k : IntKind} {zs : List Int}
theorem tab_at (h : Lib.TabIs P w0 nm k zs) (hM : Mem0 w0 w [] L) : Lib.TabIs P w nm k zs := by
  unfold Lib.TabIs World.var? at *
  cases hg : P.globalNamed nm with
  | none => rw [hg] at h; simp at h
  | some g =>
    rw [hg] at h
    simp only [Option.bind_some] at h ⊢
    have hlt : g < w0.heap.size := by
      rcases Nat.lt_or_ge g w0.heap.size with h1 | h1
      · exact h1
      · rw [Array.getElem?_eq_none h1] at h; simp at h
    rw [hM.block g hlt (by simp)]; exact h
theorem mem_grow {n : Nat} {os : Array Obj} : Mem w (Sort.grow (w.drewN n) os) [] [] :=
  ⟨rfl, rfl, rfl, by simp [Sort.grow, World.drewN], fun j hj _ => by simp [Sort.grow, World.drewN, Array.getElem?_append_left hj], by simp, by simp, by simp⟩
end
section
variable {P : Program} {σ : Sig} {w w0 : World} {dst : Option Tmp} {T U T' e : TypeId} {pos : String} {after : Array Edge} {g : Option (Nat × Bool)} {x y : Operand}
theorem Ru.peqN {a : Option Addr} (ht : P.underlying T = some (.pointer e)) (hx : ev σ x = .pointer a) (hy : ev σ y = .pointer none) : Ru P σ ⟨dst, .binOp .eql T x y U, T', pos, after, g⟩ w (.bool a.isNone) := by
  have h : ∀ d : Nat, (Op.equalIn (d + 1) T (.pointer a) (.pointer none)).run P w = .ok a.isNone w := fun d => by
    cases a <;> simp [Op.equalIn, run_underlying ht]
  simp [Ru, execOp, hx, hy, eqGuard, binOp, Op.equal, Op.maxDepth, h 9999]
theorem Ru.pneS {a : Addr} {zs : List Value} {bytes : Nat} {agg : Bool} (ht : P.underlying T = some (.pointer e)) (he : ElT P e zs bytes agg) (hx : ev σ x = .pointer (some a)) (hy : ev σ y = .pointer (some a)) : Ru P σ ⟨dst, .binOp .neq T x y U, T', pos, after, g⟩ w (.bool false) := by
  obtain ⟨j, _, hj, _⟩ := he.info
  have h := Lib.run_neq_ptr_same (w := w) a ht hj
  simp [Ru, execOp, hx, hy, eqGuard, h]
theorem Ru.toUns {b : Nat} {zs : List Value} {bytes : Nat} {agg : Bool} {t : TypeId} {l : List Value} (hs : P.underlying T = some (.pointer t)) (hd : P.underlying U = some .unsafePointer) (he : ElT P t zs bytes agg) (hz : zs.length ≠ 0) (hb : Blk w b e l) (hl : 0 < l.length) (hx : ev σ x = .pointer (ofs (bl b) 0)) :
    Ru P σ ⟨dst, .convert T U x, T', pos, after, g⟩ w (.pointer (ofs (bl b) 0)) := by
  have hsh : w.shape? b = some (e, l.length) := by unfold Blk at hb; simp [World.shape?, hb]
  obtain ⟨j, _, hj, _, _, hjs, _⟩ := he.info
  have h := Lib.run_to_unsafe (P := P) w (src := T) (dst := U) ⟨b, 0, none⟩ hs hd hj (by rw [hjs]; exact hz) hsh hl
  have hx' : ev σ x = .pointer (some ⟨b, 0, none⟩) := hx
  simp [Ru, execOp, hx', h, ofs, bl, Addr.add]
theorem Ru.frUns {b : Nat} {zs : List Value} {bytes : Nat} {agg : Bool} {t : TypeId} {l : List Value} (hs : P.underlying T = some .unsafePointer) (hd : P.underlying U = some (.pointer t)) (he : ElT P t zs bytes agg) (hb : Blk w b e l) (hlies : liesAt P P.depth e (l.length / P.cellsOf e) 0 t 1 = true) (hx : ev σ x = .pointer (ofs (bl b) 0)) :
    Ru P σ ⟨dst, .convert T U x, T', pos, after, g⟩ w (.pointer (ofs (bl b) 0)) := by
  have hsh : w.shape? b = some (e, l.length) := by unfold Blk at hb; simp [World.shape?, hb]
  obtain ⟨j, _, hj, _⟩ := he.info
  have h := Lib.run_from_unsafe (P := P) w (src := T) (dst := U) ⟨b, 0, none⟩ hs hd hj hsh hlies
  have hx' : ev σ x = .pointer (some ⟨b, 0, none⟩) := hx
  simp [Ru, execOp, hx', h, ofs, bl, Addr.add]
theorem Ru.noEsc {f : FuncId} {fn : Func} {ts} {v : Value} (hf : P.funcs[f]? = some fn) (hn : (fn.name == "runtime.NumGoroutine") = false) (hb : fn.body.isNone = true) (hq : Extern.findNext fn = none) (he : Extern.find fn = some Extern.AbiNoEscape.same) (hx : ev σ x = v) :
    Ru P σ ⟨dst, .call ⟨.value (.func f), #[x], ts⟩, T', pos, after, g⟩ w v := by
  have h := run_callFunc_extern hf hn hb hq he #[v] w
  rw [Lib.run_noEscape] at h
  simp only [Result.andThen] at h
  have e1 : ev σ (.func f) = .func (.func f) #[] #[] := rfl
  simp [Ru, execOp, resolve, e1, Deferred.ofValue, invoke, hx, h]
end
end Go.Px
namespace Go.Px
open Go.RowKit
section
variable {P : Program} {σ : Sig} {w w0 : World} {T' e : TypeId} {pos : String} {after : Array Edge} {g : Option (Nat × Bool)} {x y : Operand} {n : Nat} {Q : Post} {ops rest : List Oper} {R : List (Option Nat)} {M : List (List FE)}
theorem strCells_S (l : Str) : Lib.strCells ⟨l.toArray⟩ = l.map byteV := by simp [Lib.strCells, byteV]
theorem S_size (l : Str) : (⟨l.toArray⟩ : ByteArray).size = l.length := by simp [ByteArray.size]
/-- the bytes of a text behind a row of bytes -/
theorem O.mappendS {d : Nat} {t u : TypeId} {A : Option Addr} {m c : Nat} {xs : List Value} {l : Str} {m1 : Nat} {xs1 : List Value} {M' : Option Addr → Nat → List (List FE)} (i : Nat) (hM : Mem w0 w R M) (hi : M[i]? = some [⟨.slice A m c, e, 1, m, xs⟩]) (hg : gok ops σ g = true) (ht : P.underlying t = some (.slice e)) (hu : P.underlying u = some .string)
    (hI : (P.info? e).map (fun i => (i.zero, i.size, i.bytes)) = some (some (.int .u8 0), 1, 1)) (hx : ev σ x = .slice A m c) (hy : ev σ y = S l) (hd : Nat.blt d n = true)
    (hn : m + l.length ≤ 140737488355328) (hm1 : m + l.length = m1) (hxs : xs ++ l.map byteV = xs1) (hM' : ∀ A' c', M.set i [⟨.slice A' m1 c', e, 1, m1, xs1⟩] = M' A' c')
    (h : ∀ w' A' c', m1 ≤ c' → Mem w0 w' R (M' A' c') → O P n ops rest Q (upd σ d (.slice A' m1 c')) w') :
    O P n ops (⟨some d, .call ⟨.builtin .append, #[x, y], #[t, u]⟩, T', pos, after, g⟩ :: rest) Q σ w := by
  subst hm1 hxs
  obtain ⟨ii, hii, hI2⟩ := Option.map_eq_some_iff.1 hI
  simp only [Prod.mk.injEq] at hI2
  obtain ⟨hz', hs, hb⟩ := hI2
  have ho := hM.get hi (j := 0) rfl
  have hsz := S_size l
  have hcs := strCells_S l
  obtain ⟨v', w', h1, h2, h3, h4⟩ := Lib.run_append_own_string (P := P) w 0 t u T' e ii ht hu hii hz' hs hb (.slice A m c) m xs ho ⟨l.toArray⟩ (by rw [hsz]; simp only [maxLen]; omega) (by rw [hsz]; exact hn) (Nat.zero_le _)
  rw [hsz, hcs] at h2
  have h5 : v'.ownBlock = (Value.slice A m c).ownBlock ∨ v'.ownBlock = some w.heap.size := by
    obtain ⟨_, ⟨hv, hm0⟩ | ⟨g', cap, cur, hv, hbg, hgg, hnc, hcm, hcs', htake⟩⟩ := ho
    · cases hv
      by_cases h0 : l.length = 0
      · left; rw [h4.2 ⟨rfl, by rw [hsz]; exact h0⟩]
      · right
        have hr := run_append_nil_string (P := P) w t u T' e ii (.int .u8 0) ht hu hii hz' ⟨l.toArray⟩ (by rw [hsz]; omega) (by rw [hsz]; omega) (by rw [hb, hsz]; omega)
        have := h1.symm.trans hr
        cases this; rfl
    · cases hv
      by_cases hroom : m + l.length ≤ c
      · left
        have hr := Lib.run_append_room_string (P := P) w t u T' e ii ht hu hii hs g' m c cur hgg ⟨l.toArray⟩ (by rw [hsz]; exact hroom) (by rw [hsz]; simp at hcs'; omega)
        have := h1.symm.trans hr
        cases this; rfl
      · right
        have holds : ∀ j u, xs[j]? = some u → w.cell? ((⟨g', 0, none⟩ : Addr).add j) = some u := (World.ownsRow.cells (w := w) (base := 0) (e := e) (size := 1) (n := m) (xs := xs) (g := g') (hM.get hi (j := 0) rfl) rfl)
        have hxl : xs.length = m * 1 := (hM.get hi (j := 0) rfl).1
        have hr := Lib.run_append_grow_string (P := P) w t u T' e ii (.int .u8 0) ht hu hii hz' ⟨g', 0, none⟩ m c xs (by rw [hs]; simpa using hxl) holds ⟨l.toArray⟩ (by rw [hsz]; omega) (by rw [hsz]; omega) (by rw [hb, hsz]; exact growslice_fits (by omega) (by omega))
        have := h1.symm.trans hr
        cases this; rfl
  refine O.valW hg (v := v') (w' := w') ?_ hd ?_
  · simp [Rw, execOp, resolve, invoke, builtin, hx, hy, S, h1]
  · obtain ⟨A', c', rfl, hc, _, _, _, _⟩ := own_form h2
    exact h w' A' c' hc (hM' A' c' ▸ Mem.upd hM hi (j := 0) rfl h3 h2 (h5.elim .inl (fun h => .inr (.inl h))))
end
end Go.Px
