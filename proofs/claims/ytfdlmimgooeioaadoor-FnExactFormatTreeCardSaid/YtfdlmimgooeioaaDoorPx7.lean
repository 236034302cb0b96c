/- Own layer: part of this seat (Px7). Plain theorems; no conditions. -/
import Derived.Test.YtfdlmimgooeioaaDoorPx6
import Derived.Lib.AppendZerosOnto
import Derived.Lib.Overlaps
import Derived.Laws.IdiomCopy
set_option linter.unusedVariables false
set_option linter.unusedSimpArgs false
namespace Go.Px
open Go.RowKit
/-! ### Library functions on slices: copies, clears, growing, closures -/
section
variable {P : Program} {σ : Sig} {w : World} {dst : Option Tmp} {T U T' e : TypeId} {pos : String} {after : Array Edge} {g : Option (Nat × Bool)} {x y z : Operand}
variable {zs : List Value} {bytes : Nat} {agg : Bool} {n : Nat} {Q : Post} {ops rest : List Oper} {w0 : World} {R : List (Option Nat)} {M : List (List FE)}
theorem Ru.bcap {A : Option Addr} {m c : Nat} {t : TypeId} (ht : P.underlying t = some (.slice e)) (hx : ev σ x = .slice A m c) : Ru P σ ⟨dst, .call ⟨.builtin .cap, #[x], #[t]⟩, T, pos, after, g⟩ w (I c) := by
  simp [Ru, execOp, resolve, invoke, builtin, hx, Builtin.cap_, run_underlying ht, goInt]
theorem Ru.slnil {A : Option Addr} {m c : Nat} (ht : P.underlying T = some (.slice e)) (hx : ev σ x = .slice A m c) (hy : ev σ y = .slice none 0 0) : Ru P σ ⟨dst, .binOp .eql T x y U, T', pos, after, g⟩ w (.bool A.isNone) := by
  have h : ∀ d : Nat, (Op.equalIn (d + 1) T (.slice A m c) (.slice none 0 0)).run P w = .ok A.isNone w := fun d => by
    cases A <;> simp [Op.equalIn, run_underlying ht]
  simp [Ru, execOp, hx, hy, eqGuard, binOp, Op.equal, Op.maxDepth, h 9999]
theorem Ru.mkfun {f : FuncId} {caps : List Operand} {vs : List Value} (hv : evs σ caps = vs) : Ru P σ ⟨dst, .makeFunc (.func f) #[] caps.toArray, T, pos, after, g⟩ w (.func (.func f) #[] vs.toArray) := by
  subst hv
  simp [Ru, execOp, Instr.makeFunc, evs_eq]
theorem rd_none {l : List Value} (h : Rd w none l) : l = [] := by
  rcases h with h | ⟨b, o, h, _⟩
  · exact h
  · cases h
/-- a call through a function's value -/
theorem O.callv {d : Nat} {f : FuncId} {fo : Operand} {args ts T pos after} {caps : List Value} (vs : List Value) {R : Value → World → Prop} (hg : gok ops σ g = true) (hf : ev σ fo = .func (.func f) #[] caps.toArray) (hen : Enters P f) (hvs : evs σ args = vs) (hd : Nat.blt d n = true)
    (hc : Does P f (vs ++ caps) w R) (h : ∀ v w', R v w' → O P n ops rest Q (upd σ d v) w') :
    O P n ops (⟨some d, .call ⟨.value fo, args.toArray, ts⟩, T, pos, after, g⟩ :: rest) Q σ w :=
  ⟨fun a ha => by
    show wpList P ops.toArray (lift n Q) (_ :: rest) a w
    unfold wpList
    rw [if_pos (gok_wanted ha hg (.inl rfl))]
    refine .inl ?_
    unfold Oper.wp
    rw [ha.eval]
    have : (execOp (ev σ) ⟨some d, .call ⟨.value fo, args.toArray, ts⟩, T, pos, after, g⟩).run P w = .ok (.enter f (vs ++ caps).toArray) w := by
      subst hvs
      simp [execOp, resolve, hf, Deferred.ofValue, invoke, evs_eq, hen _ _]
    rw [this]
    refine hc.out.mono fun e w' ⟨v, he, hR⟩ => ?_
    subst he
    exact (h v w' hR).out _ (ha.put hd v)⟩
/-- a function without a body that answers at once -/
theorem Ru.extern {d : Nat} {f : FuncId} {args : List Operand} {ts : Array TypeId} {vs : List Value} {v : Value} (hvs : evs σ args = vs) (hc : (callFunc f vs.toArray).run P w = .ok (.value v) w) : Ru P σ ⟨some d, .call ⟨.value (.func f), args.toArray, ts⟩, T, pos, after, g⟩ w v := by
  subst hvs
  simp only [evs_eq] at hc
  simp [Ru, execOp, resolve, ev, Deferred.ofValue, invoke, hc]
/-! sums and halves -/
theorem Ru.conv64 {a : Int} {d : TypeDesc} (hs : P.underlying T = some d) (hd : P.underlying U = some (.int .u64)) (hx : ev σ x = I a) (h : 0 ≤ a ∧ a ≤ 9223372036854775807) : Ru P σ ⟨dst, .convert T U x, T', pos, after, g⟩ w (.int .u64 a) :=
  Ru.conv hs hd hx (IntWalk.u64_in a (by omega))
theorem Ru.conv64i {a : Int} {d : TypeDesc} (hs : P.underlying T = some d) (hd : P.underlying U = some (.int .i64)) (hx : ev σ x = .int .u64 a) (h : 0 ≤ a ∧ a ≤ 9223372036854775807) : Ru P σ ⟨dst, .convert T U x, T', pos, after, g⟩ w (I a) :=
  Ru.conv hs hd hx (by rw [IntKind.wrap_i64]; omega)
theorem Ru.half {k : IntKind} {a : Int} (hx : ev σ x = .int .u64 a) (hy : ev σ y = .int k 1) (h : 0 ≤ a) : Ru P σ ⟨dst, .binOp .shr T x y U, T', pos, after, g⟩ w (.int .u64 (a / 2)) := by
  have : a.fdiv 2 = a / 2 := by rw [Int.fdiv_eq_ediv_of_nonneg _ (by omega)]
  simp [Ru, execOp, hx, hy, eqGuard, binOp, Op.shift, IntKind.bits, this]

/-! rows held, made longer and shorter -/
theorem flat_ge (w : World) {i : Nat} {A : Option Addr} {m c k sz : Nat} {xs : List Value} (h : Mem w0 w R M) (hi : M[i]? = some [⟨.slice A m c, e, sz, m, xs⟩]) (hk : m + k ≤ c) (hc : 0 < k → A.isSome = true) :
    ∃ ys : List Value, ys.length = k * sz ∧ FE.own w ⟨.slice A (m + k) c, e, sz, m + k, xs ++ ys⟩ := by
  have ho := h.get hi (j := 0) rfl
  obtain ⟨hl, ⟨h1, h2⟩ | ⟨b, c', cur, h1, hB, hh, hn, hc', hs, ht⟩⟩ := ho
  · simp at h1
    obtain ⟨rfl, rfl, rfl⟩ := h1
    have : k = 0 := by omega
    subst this
    exact ⟨[], by simp, by simp at hl; simp [hl]; exact World.ownsRow_nil w 0 e sz⟩
  · simp at h1
    obtain ⟨rfl, rfl⟩ := h1
    simp only at ht hs hl
    have hle : (m + k) * sz ≤ cur.size := by rw [hs]; exact Nat.mul_le_mul_right _ hk
    refine ⟨(cur.toList.take ((m + k) * sz)).drop (m * sz), ?_, ?_, .inr ⟨b, c, cur, rfl, hB, hh, hk, hc', hs, ?_⟩⟩
    · have e1 : (cur.toList.take ((m + k) * sz)).length = (m + k) * sz := by simp; omega
      rw [List.length_drop, e1, Nat.add_mul]; omega
    · have e1 : (cur.toList.take ((m + k) * sz)).length = (m + k) * sz := by simp; omega
      show (xs ++ _).length = _
      rw [List.length_append, List.length_drop, e1, hl, Nat.add_mul]; omega
    · show cur.toList.take ((m + k) * sz) = xs ++ _
      rw [← ht]
      have : cur.toList.take (m * sz) = (cur.toList.take ((m + k) * sz)).take (m * sz) := by rw [List.take_take, Nat.min_eq_left (Nat.mul_le_mul_right _ (by omega))]
      rw [this, List.take_append_drop]
theorem Mem.extend {i : Nat} {A : Option Addr} {m c k sz : Nat} {xs : List Value} (h : Mem w0 w R M) (hi : M[i]? = some [⟨.slice A m c, e, sz, m, xs⟩]) (hk : m + k ≤ c) (hc : 0 < k → A.isSome = true) :
    ∃ ys : List Value, ys.length = k * sz ∧ Mem w0 w R (M.set i [⟨.slice A (m + k) c, e, sz, m + k, xs ++ ys⟩]) := by
  obtain ⟨ys, hy, ho⟩ := flat_ge w h hi hk hc
  exact ⟨ys, hy, Mem.upd h hi (j := 0) rfl (krefl w _) ho (.inl (by cases A <;> rfl))⟩
theorem Mem.shrink {i : Nat} {A : Option Addr} {m c k sz : Nat} {xs : List Value} {M' : List (List FE)} (h : Mem w0 w R M) (hi : M[i]? = some [⟨.slice A m c, e, sz, m, xs⟩]) (hk : k ≤ m) (hM : M.set i [⟨.slice A k c, e, sz, k, xs.take (k * sz)⟩] = M') :
    Mem w0 w R M' := by
  subst hM
  refine Mem.upd h hi (j := 0) rfl (krefl w _) ?_ (.inl (by cases A <;> rfl))
  have ho := h.get hi (j := 0) rfl
  obtain ⟨hl, ⟨h1, h2⟩ | ⟨b, c', cur, h1, hB, hh, hn, hc', hs, ht⟩⟩ := ho
  · simp at h1
    obtain ⟨rfl, rfl, rfl⟩ := h1
    have : k = 0 := by omega
    subst this
    simp
    exact World.ownsRow_nil w 0 e sz
  · simp at h1
    obtain ⟨rfl, rfl⟩ := h1
    simp only at ht hs hl
    have hn' : m ≤ c := hn
    have hkc : k ≤ c := by omega
    refine ⟨?_, .inr ⟨b, c, cur, rfl, hB, hh, hkc, hc', hs, ?_⟩⟩
    · show (xs.take (k * sz)).length = _
      rw [List.length_take, hl, Nat.min_eq_left (Nat.mul_le_mul_right _ hk)]
    · show cur.toList.take (k * sz) = xs.take (k * sz)
      rw [← ht, List.take_take, Nat.min_eq_left (Nat.mul_le_mul_right _ hk)]
theorem spl_nil {l : List Value} {k : Nat} : spl l k [] = l := by simp [spl]
theorem mem_row {i : Nat} {A : Option Addr} {m c sz m' : Nat} {xs : List Value} (h : Mem w0 w R M) (hi : M[i]? = some [⟨.slice A m c, e, sz, m', xs⟩]) : xs.length = m' * sz := (h.get hi (j := 0) rfl).1
/-- cells laid into a row held, behind a run of storeCells -/
theorem store_own {i : Nat} {A : Option Addr} {m c sz k : Nat} {xs vs : List Value} (h : Mem w0 w R M) (hi : M[i]? = some [⟨.slice A m c, e, sz, m, xs⟩]) (hk : k + vs.length ≤ xs.length) (h1 : (vs.all one) = true) (h0 : vs ≠ []) :
    ∃ a w', ofs A k = some a ∧ (storeCells a vs).run P w = .ok () w' ∧ Mem w0 w' R (M.set i [⟨.slice A m c, e, sz, m, spl xs k vs⟩]) := by
  have ho := h.get hi (j := 0) rfl
  have hM := ho
  obtain ⟨hl, ⟨h1', h2⟩ | ⟨b, c', cur, h1', hB, hh, hn, hc', hs, ht⟩⟩ := ho
  · exfalso
    simp only at hl h2
    have h3 : xs.length = 0 := by rw [hl, h2, Nat.zero_mul]
    have : vs.length = 0 := by omega
    exact h0 (List.eq_nil_of_length_eq_zero this)
  · simp at h1'
    obtain ⟨rfl, rfl⟩ := h1'
    simp only at ht hs hl
    have hcl : xs.length ≤ cur.size := by rw [← ht]; simp; omega
    have hst := run_storeCells_at P b k e vs 0 cur w hh (by omega) (fun v hv => (List.all_eq_true.1 h1) v hv)
    simp only [Nat.add_zero] at hst
    refine ⟨⟨b, k, none⟩, w.setRow b (spl cur.toList k vs).toArray, by simp [ofs, add_lit], by simpa [spl] using hst, ?_⟩
    refine Mem.upd h hi (j := 0) rfl ⟨rfl, rfl, rfl, by simp, fun j _ hne => setRow_other w b j _ (fun e => hne (by rw [e]; rfl))⟩ ?_ (.inl rfl)
    refine ⟨(spl_length hk).trans hl, .inr ⟨b, c, (spl cur.toList k vs).toArray, rfl, Nat.zero_le _, setRow_heap w b _ _ e _ hh, hn, hc', ?_, ?_⟩⟩
    · have e2 : (spl cur.toList k vs).length = cur.toList.length := spl_length (by simp; omega)
      rw [List.size_toArray, e2]; simpa using hs
    · have e1 := spl_take (l := cur.toList) (vs := vs) (k := k) (n := m * sz) (by omega)
      rw [List.toList_toArray, e1, ht]
/-- copy(dst, src): dst a part of a row held -/
theorem O.mcopy {d i : Nat} {A A1 A2 : Option Addr} {m c sz k n1 c1 n2 c2 : Nat} {t u : TypeId} {xs news xs' : List Value} {M' : List (List FE)} (hM : Mem w0 w R M) (hi : M[i]? = some [⟨.slice A m c, e, sz, m, xs⟩]) (hg : gok ops σ g = true) (ht : P.underlying t = some (.slice e)) (he : ElT P e zs bytes agg) (hz : zs.length = sz)
    (hx : ev σ x = .slice A1 n1 c1) (hy : ev σ y = .slice A2 n2 c2) (hd : Nat.blt d n = true) (hA : news ≠ [] → A1 = ofs A k) (hr : Rd w A2 news) (hl : news.length = min n2 n1 * sz) (hk : k + news.length ≤ xs.length) (h1 : (news.all one) = true)
    (hq : spl xs k news = xs') (hM' : M.set i [⟨.slice A m c, e, sz, m, xs'⟩] = M')
    (h : ∀ w', Mem w0 w' R M' → O P n ops rest Q (upd σ d (I (min n2 n1 : Nat))) w') : O P n ops (⟨some d, .call ⟨.builtin .copy, #[x, y], #[t, u]⟩, T', pos, after, g⟩ :: rest) Q σ w := by
  subst hq hM' hz
  have hsz := run_size (P := P) (w := w) he
  have hmin : Nat.min n2 n1 = min n2 n1 := rfl
  by_cases h0 : news = []
  · subst h0
    have hself : M.set i [⟨.slice A m c, e, zs.length, m, spl xs k []⟩] = M := by
      rw [spl_nil]
      obtain ⟨hlt, he'⟩ := List.getElem?_eq_some_iff.1 hi
      rw [← he', List.set_getElem_self]
    refine O.valW hg (v := I (min n2 n1 : Nat)) (w' := w) ?_ hd (h _ (hself.symm ▸ hM))
    simp only [Rw, execOp, resolve, invoke, builtin]
    have hfc : (Builtin.firstCells zs.length (Nat.min n2 n1) (.slice A2 n2 c2)).run P w = .ok #[] w := by
      cases A2 with
      | none => exact run_firstCells_none (P := P) w _ _ _ _
      | some a2 => 
        have := run_firstCells_some (P := P) w zs.length (Nat.min n2 n1) a2 n2 c2 [] (by rw [hmin]; exact hl) (by simp)
        simpa using this
    cases A1 <;> simp [hx, hy, Builtin.copy_, run_underlying ht, Builtin.lenOf, hsz, hfc, storeCells, goInt]
  · obtain ⟨a, w', ha, hst, hM2⟩ := store_own (P := P) hM hi hk h1 h0
    have hA1 : A1 = some a := (hA h0).trans ha
    subst hA1
    rcases hr with hr | ⟨b, o, rfl, hb, hc⟩
    · exact absurd hr h0
    · have hfc : (Builtin.firstCells zs.length (Nat.min n2 n1) (.slice (some ⟨b, o, none⟩) n2 c2)).run P w = .ok news.toArray w :=
        run_firstCells_some (P := P) w zs.length (Nat.min n2 n1) ⟨b, o, none⟩ n2 c2 news (by rw [hmin]; exact hl) (fun j u hu => by rw [add_lit]; exact hc j u hu)
      refine O.valW hg (v := I (min n2 n1 : Nat)) (w' := w') ?_ hd (h _ hM2)
      simp only [Rw, execOp, resolve, invoke, builtin]
      simp [hx, hy, Builtin.copy_, run_underlying ht, Builtin.lenOf, hsz, hfc, hst, goInt]
/-- append(s[:k], make(T, m)...) where there is no room: a new row -/
theorem O.mgrow {d : Nat} {A : Option Addr} {k c m sz k1 : Nat} {t tn : TypeId} {olds xs1 : List Value} {a : Int} {M' : Nat → Nat → List (List FE)} (hM : Mem w0 w R M) (hg : gok ops σ g = true) (ht : P.underlying t = some (.slice e)) (htn : P.underlying tn = some (.int .i64)) (he : ElT P e zs bytes agg) (hz : zs.length = sz ∧ 0 < sz)
    (hx : ev σ x = .slice A k c) (hy : ev σ y = I a) (ha : a = (m : Int)) (hd : Nat.blt d n = true) (hr : Rd w A olds) (hl : olds.length = k * sz) (h0 : 0 < m) (hc : c < k + m) (hby : (k + m) * bytes ≤ 140737488355328) (hn : k + m ≤ 1152921504606846976) (hk1 : k + m = k1) (hxs : olds ++ zer zs m = xs1) (hM' : ∀ b c', [⟨.slice (bl b) k1 c', e, sz, k1, xs1⟩] :: M = M' b c')
    (h : ∀ w' b c', w0.heap.size ≤ b → k1 ≤ c' → Mem w0 w' R (M' b c') → O P n ops rest Q (upd σ d (.slice (bl b) k1 c')) w') :
    O P n ops (⟨some d, .call ⟨.builtin .append, #[x, y], #[t, tn]⟩, T', pos, after, g⟩ :: rest) Q σ w := by
  obtain ⟨rfl, hz⟩ := hz
  subst ha hk1 hxs
  obtain ⟨i, zv, hi, hzz, hzc, hs, hb⟩ := he.info
  have hold : (Builtin.firstCells i.size k (.slice A k c)).run P w.drew = .ok olds.toArray w.drew := by
    rcases hr with rfl | ⟨b, o, rfl, _, hcc⟩
    · cases A with
      | none => exact run_firstCells_none (P := P) w.drew _ _ _ _
      | some a => exact run_firstCells_some (P := P) w.drew i.size k a k c [] (by rw [hs]; exact hl) (by simp)
    · exact run_firstCells_some (P := P) w.drew i.size k ⟨b, o, none⟩ k c olds (by rw [hs]; exact hl) (fun j u hu => by rw [add_lit]; exact hcc j u hu)
  have hcap := grownCap_ge w (k + m) c e
  have hcm : grownCap w (k + m) c e ≤ maxLen := grownCap_le_maxLen w (k + m) c e (by simp only [maxLen]; omega)
  have hrun := Lib.run_append_grow_zeros (P := P) w t tn T' e i zv .i64 .i64 ht htn hi hzz A k c olds hold m h0 (by omega) hc (by omega)
    (by rw [hb]; have : m * bytes ≤ (k + m) * bytes := Nat.mul_le_mul_right _ (by omega); omega) (by rw [hb]; exact growslice_fits hc hby)
  have hzl : ∀ j, (Builtin.zeroCells zv.cells j).toList = zer zs j := fun j => by
    unfold zer
    rw [hzc]
    simp [Builtin.zeroCells, madeCells]
  refine O.valW hg (v := .slice (bl w.heap.size) (k + m) (grownCap w (k + m) c e)) (w' := w.drew.alloc (.cells (olds.toArray ++ Builtin.zeroCells zv.cells m ++ Builtin.zeroCells zv.cells (grownCap w (k + m) c e - (k + m))) e)) ?_ hd
    (h _ w.heap.size _ (by exact hM.size) hcap (hM' _ _ ▸ Mem.cons hM ⟨rfl, rfl, rfl, by simp, fun k hk hr => (World.grownBy_alloc w.drew _ none).block k hk hr⟩ ⟨?_, .inr ⟨w.heap.size, _, _, rfl, Nat.zero_le _, heap_alloc_new w.drew _, hcap, hcm, ?_, ?_⟩⟩ (fun k hk => by simp [FE.blk, Value.ownBlock] at hk; omega)))
  · simp [Rw, execOp, resolve, invoke, builtin, hx, hy, hrun]
  · simp only [List.length_append, zer_length, hl, Nat.add_mul]
  · have e1 : ∀ j, (Builtin.zeroCells zv.cells j).size = j * zs.length := fun j => by rw [← Array.length_toList, hzl, zer_length]
    simp only [Array.size_append, List.size_toArray, e1, hl, ← Nat.add_mul]
    congr 1; omega
  · simp only [Array.toList_append, hzl]
    rw [List.take_append_of_le_length (by simp [zer_length, hl, Nat.add_mul]), List.take_of_length_le (by simp [zer_length, hl, Nat.add_mul])]
/-- append where there is room: in place -/
theorem O.mappendIn {d i : Nat} {A A2 : Option Addr} {m k c c2 sz m1 : Nat} {t : TypeId} {xs news xs1 : List Value} {M' : List (List FE)} (hM : Mem w0 w R M) (hi : M[i]? = some [⟨.slice A m c, e, sz, m, xs⟩]) (hg : gok ops σ g = true) (ht : P.underlying t = some (.slice e)) (he : ElT P e zs bytes agg) (hz : zs.length = sz) (hx : ev σ x = .slice A m c) (hy : ev σ y = .slice A2 k c2) (hd : Nat.blt d n = true)
    (hr : Rd w A2 news) (hl : news.length = k * sz) (h1 : (news.all one) = true) (hroom : m + k ≤ c) (hA : 0 < k → A.isSome = true) (hm1 : m + k = m1) (hxs : xs ++ news = xs1) (hM' : M.set i [⟨.slice A m1 c, e, sz, m1, xs1⟩] = M')
    (h : ∀ w', Mem w0 w' R M' → O P n ops rest Q (upd σ d (.slice A m1 c)) w') :
    O P n ops (⟨some d, .call ⟨.builtin .append, #[x, y], #[t, t]⟩, T', pos, after, g⟩ :: rest) Q σ w := by
  subst hm1 hxs hM' hz
  have hsz := run_size (P := P) (w := w) he
  obtain ⟨ys, hyl, hM2⟩ := Mem.extend (k := k) hM hi hroom hA
  obtain ⟨ii, zv, hii, hzz, hzc, hs, hb⟩ := he.info
  have hlt : i < M.length := (List.getElem?_eq_some_iff.1 hi).1
  have hxl := mem_row hM hi
  have hi2 : (M.set i [⟨.slice A (m + k) c, e, zs.length, m + k, xs ++ ys⟩])[i]? = some [⟨.slice A (m + k) c, e, zs.length, m + k, xs ++ ys⟩] := by
    rw [List.getElem?_set_self hlt]
  have hfin : spl (xs ++ ys) (m * zs.length) news = xs ++ news := by
    unfold spl
    rw [← hxl, List.take_left, List.drop_of_length_le (by simp; omega), List.append_nil]
  by_cases h0 : news = []
  · subst h0
    have hys : ys = [] := List.eq_nil_of_length_eq_zero (by rw [hyl, ← hl]; rfl)
    subst hys
    simp only [List.append_nil] at hM2 h
    refine O.valW hg (v := .slice A (m + k) c) (w' := w) ?_ hd (h _ hM2)
    have hfc : (Builtin.firstCells zs.length k (.slice A2 k c2)).run P w = .ok #[] w := by
      cases A2 with
      | none => exact run_firstCells_none (P := P) w _ _ _ _
      | some a2 => simpa using run_firstCells_some (P := P) w zs.length k a2 k c2 [] hl (by simp)
    cases A <;> simp [Rw, execOp, resolve, invoke, builtin, hx, hy, Builtin.append_, run_underlying ht, sizeOf, typeInfo, hii, hs, Builtin.lenOf, hroom, hfc, storeCells]
  · obtain ⟨a, w', ha, hst, hM3⟩ := store_own (P := P) hM2 hi2 (k := m * zs.length) (vs := news) (by simp [hxl, hyl, hl]) h1 h0
    rw [hfin, List.set_set] at hM3
    refine O.valW hg (v := .slice A (m + k) c) (w' := w') ?_ hd (h _ hM3)
    cases A with
    | none => simp [ofs] at ha
    | some a0 =>
      simp only [ofs, Option.map_some, Option.some.injEq] at ha
      rcases hr with hr | ⟨b, o, rfl, hb', hcc⟩
      · exact absurd hr h0
      · have hfc : (Builtin.firstCells zs.length k (.slice (some ⟨b, o, none⟩) k c2)).run P w = .ok news.toArray w :=
          run_firstCells_some (P := P) w zs.length k ⟨b, o, none⟩ k c2 news hl (fun j u hu => by rw [add_lit]; exact hcc j u hu)
        simp [Rw, execOp, resolve, invoke, builtin, hx, hy, Builtin.append_, run_underlying ht, sizeOf, typeInfo, hii, hs, Builtin.lenOf, hroom, hfc, ha, hst]
/-- clear(s[k:]) of what lies behind a row's elements, or within -/
theorem O.mclear {d i : Nat} {A A1 : Option Addr} {m c sz k j c1 : Nat} {t : TypeId} {xs : List Value} (hM : Mem w0 w R M) (hi : M[i]? = some [⟨.slice A m c, e, sz, m, xs⟩]) (hg : gok ops σ g = true) (ht : P.underlying t = some (.slice e)) (he : ElT P e zs bytes agg) (hz : zs.length = sz) (hx : ev σ x = .slice A1 j c1) (hd : Nat.blt d n = true)
    (hA : 0 < j → A1 = ofs A (m * sz)) (hj : m + j ≤ c) (h1 : (zs.all one) = true)
    (h : ∀ w', Mem w0 w' R M → O P n ops rest Q (upd σ d (.tuple #[])) w') : O P n ops (⟨some d, .call ⟨.builtin .clear, #[x], #[t]⟩, T', pos, after, g⟩ :: rest) Q σ w := by
  subst hz
  obtain ⟨ii, zv, hii, hzz, hzc, hs, hb⟩ := he.info
  have hlt : i < M.length := (List.getElem?_eq_some_iff.1 hi).1
  have hxl := mem_row hM hi
  by_cases h0 : j = 0
  · subst h0
    refine O.valW hg (v := .tuple #[]) (w' := w) ?_ hd (h _ hM)
    cases A1 <;> simp [Rw, execOp, resolve, invoke, builtin, hx, Builtin.clear_, run_underlying ht]
  · have hA1 := hA (by omega)
    cases hAn : A with
    | none =>
      exfalso
      have := hM.get hi (j := 0) rfl
      subst hAn
      obtain ⟨_, ⟨h1', h2⟩ | ⟨b, c', cur, h1', _⟩⟩ := this
      · simp at h1'; omega
      · simp at h1'
    | some a0 =>
      have hzl : (Builtin.zeroCells zv.cells j).toList = zer zs j := by
        unfold zer
        rw [hzc]
        simp [Builtin.zeroCells, madeCells]
      obtain ⟨ys, hyl, hM2⟩ := Mem.extend (k := j) hM hi hj (fun _ => by rw [hAn]; rfl)
      have hi2 : (M.set i [⟨.slice A (m + j) c, e, zs.length, m + j, xs ++ ys⟩])[i]? = some [⟨.slice A (m + j) c, e, zs.length, m + j, xs ++ ys⟩] := by
        rw [List.getElem?_set_self hlt]
      by_cases hzs : zer zs j = []
      · refine O.valW hg (v := .tuple #[]) (w' := w) ?_ hd (h _ hM)
        obtain ⟨j', rfl⟩ : ∃ j', j = j' + 1 := ⟨j - 1, by omega⟩
        subst hA1
        subst hAn
        have := hzl
        rw [hzs] at this
        simp [Rw, execOp, resolve, invoke, builtin, hx, ofs, Builtin.clear_, run_underlying ht, zeroValue, typeInfo, hii, hzz, this, storeCells]
      · have hza : (zer zs j).all one = true := by
          rw [zer_eq, List.all_eq_true]
          intro v hv
          obtain ⟨l, hl, hv⟩ := List.mem_flatten.1 hv
          rw [(List.mem_replicate.1 hl).2] at hv
          exact List.all_eq_true.1 h1 v hv
        obtain ⟨a, w', ha, hst, hM3⟩ := store_own (P := P) hM2 hi2 (k := m * zs.length) (vs := zer zs j) (by simp [hxl, hyl, zer_length]) hza hzs
        rw [List.set_set] at hM3
        have hM4 := Mem.shrink (i := i) (k := m) hM3 (List.getElem?_set_self hlt) (by omega) rfl
        rw [List.set_set] at hM4
        have hfin : (spl (xs ++ ys) (m * zs.length) (zer zs j)).take (m * zs.length) = xs := by
          unfold spl
          rw [← hxl, List.take_left, List.append_assoc, List.take_left]
        rw [hfin] at hM4
        have hself : M.set i [⟨.slice A m c, e, zs.length, m, xs⟩] = M := by
          obtain ⟨hlt, he'⟩ := List.getElem?_eq_some_iff.1 hi
          rw [← he', List.set_getElem_self]
        rw [hself] at hM4
        refine O.valW hg (v := .tuple #[]) (w' := w') ?_ hd (h _ hM4)
        obtain ⟨j', rfl⟩ : ∃ j', j = j' + 1 := ⟨j - 1, by omega⟩
        subst hA1
        have hst' : (storeCells a (Builtin.zeroCells zv.cells (j' + 1)).toList).run P w = .ok () w' := by rw [hzl]; exact hst
        simp [Rw, execOp, resolve, invoke, builtin, hx, ha, Builtin.clear_, run_underlying ht, zeroValue, typeInfo, hii, hzz, hst']
end
end Go.Px
