/-
  Calls of functions with captured cells; cutting elements out of a slice of the call's own. Of no program.
-/
import Derived.Test.YtblmafknmeicfaaObj
import Derived.Lib.SliceRun
namespace Go.Proofs.Ytblmafknmeicfaa.Eng
open Go Go.RowKit
set_option linter.unusedVariables false
set_option linter.unusedSimpArgs false
variable {P : Program} {N : Nat} {w0 : World} {Q : Exit → Act → World → Prop} {E : Env} {Γ : Gds} {H : Heap} {ops : Array Oper} {rest : List Oper} {QA : Act → Prop}
/-- a call of a function value that captured cells -/
theorem SL.callec (cs : List Value) {o : Oper} {d f : Nat} {x : Operand} {xs : Array Operand} {ts : Array TypeId} {vs : List Value} {u : Value} (ho : o.op = .call { callee := .value x, args := xs, argTypes := ts }) (hg : o.guard = none) (hd : o.dst = some d) (hN : Nat.blt d N = true)
    (hx : ev E Γ 0 x = some (.func (.func f) #[] cs.toArray)) (hxs : evs E Γ 0 xs.toList = some vs) (hf : callable P f = true)
    (hC : ∀ w, HeapOk w0 H w → FnC P f (vs ++ cs) w fun v _ => v = u)
    (h : SL P N w0 ops Q rest ((d, 0, u) :: E) Γ H) : SL P N w0 ops Q (o :: rest) E Γ H := by
  intro a w he hw
  refine wpList_plain hg fun K hK => ?_
  unfold Oper.wp
  rw [run_call ho hf (ev_ok he hx (gval_zero Γ)) (evs_ok he (gval_zero Γ) hxs)]
  simp only [Oper.upon]
  have hc := hC w hw
  unfold FnC at hc
  rw [show (#[] ++ vs.toArray ++ cs.toArray : Array Value) = (vs ++ cs).toArray from by simp]
  refine hc.mono ?_
  rintro e w' ⟨v, rfl, hb, rfl⟩
  simp only [hd]
  exact hK _ _ (h _ _ (he.put hN (Nat.zero_le _) (by rw [gval_zero]; rfl)) (hw.below_keep hb))
/-- an operation whose guard was not reached itself -/
theorem SL.offu {o : Oper} {j t : Nat} {want : Bool} (hg : o.guard = some (j, want)) (hj : (ops[j]?).bind (·.dst) = some t) (ht : Nat.blt t N = true) (hl : look E t = some (0, undef)) (hN : (o.dst.all fun d => Nat.blt d N) = true)
    (h : SL P N w0 ops Q rest (consO o.dst E) Γ H) : SL P N w0 ops Q (o :: rest) E Γ H := by
  intro a w he hw
  refine wpList_step fun K hK => ?_
  have hw' : Region.wanted o (yielded ops a.tmps) = false := by
    have htN : t < N := Nat.le_of_ble_eq_true ht
    have h2 := (he.at_ t 0 _ hl).2
    have hs := he.size
    have hget : a.tmps[t]? = some undef := by
      rw [gval_zero] at h2
      rw [show undef = (bif true then undef else undef : Value) from rfl, ← h2, Array.getD_eq_getD_getElem?, Array.getElem?_eq_getElem (by omega)]
      rfl
    unfold Region.wanted yielded
    simp only [hg, hj, Option.bind_some, hget]
    rfl
  rw [hw']
  simp only [Bool.false_eq_true, if_false]
  exact hK _ _ (h _ _ (he.putO hN) hw)
/-- an own slice's block, all its cells in view -/
theorem WC.openown (i : Nat) {c : Code} {ao : Option Addr} {n cap sz : Nat} {t : TypeId} {xs : List Value} (hi : H[i]? = some (.own w0.heap.size ao n cap t sz xs)) (hn : 0 < n)
    (h : ∀ g cur, ao = some ⟨g, 0, none⟩ → n ≤ cap → cap ≤ maxLen → cur.length = cap * sz → cur.take (n * sz) = xs → WC P N w0 c Q E Γ (H.set i (.cells g cur t))) : WC P N w0 c Q E Γ H := by
  intro a w he hw
  have hown : w.ownsRow w0.heap.size t sz (.slice ao n cap) n xs := hw.mem hi
  rcases hown.2 with ⟨hv, h0⟩ | ⟨g, cap', cur, hv, hb, hg, hnc, hcm, hcs, ht⟩
  · omega
  · simp only [Value.slice.injEq, true_and] at hv
    obtain ⟨rfl, rfl⟩ := hv
    refine h g cur.toList rfl hnc hcm (by simpa using hcs) ht a w he ?_
    refine hw.change hi (Nat.le_refl _) rfl rfl rfl (fun _ _ _ => rfl) ?_ (fun b hb => .inl ?_)
    · show w.heap[g]? = _
      simpa using hg
    · rw [show b = g from hb]; rfl
theorem HeapOk.closeown {w : World} (i : Nat) {g n cap sz : Nat} {t : TypeId} {cur xs : List Value} (h : HeapOk w0 H w) (hi : H[i]? = some (.cells g cur t)) (h1 : n ≤ cap) (h2 : cap ≤ maxLen) (h3 : cur.length = cap * sz) (h4 : cur.take (n * sz) = xs) : HeapOk w0 (H.set i (.own w0.heap.size (some ⟨g, 0, none⟩) n cap t sz xs)) w := by
  have hg : w.heap[g]? = some (.cells cur.toArray t (0, 0)) := h.mem hi
  refine h.change hi (Nat.le_refl _) rfl rfl rfl (fun _ _ _ => rfl) ?_ (fun b hb => .inl ?_)
  · refine ⟨?_, .inr ⟨g, cap, cur.toArray, rfl, h.own _ (List.mem_of_getElem? hi) g rfl, hg, h1, h2, by simpa using h3, by simpa using h4⟩⟩
    rw [← h4, List.length_take, h3]
    exact Nat.min_eq_left (Nat.mul_le_mul_right _ h1)
  · have : (some g : Option Nat) = some b := hb
    injection this with e
    exact e.symm
theorem SrcIs.at_ (i : Nat) {g cap sz j m : Nat} {t : TypeId} {cur : List Value} (hi : H[i]? = some (.cells g cur t)) (hj : j + m ≤ cap) (hl : cur.length = cap * sz) : ∀ w, HeapOk w0 H w → SrcIs w (subAo (some ⟨g, 0, none⟩) cap j sz) m sz ((cur.drop (j * sz)).take (m * sz)) := by
  intro w hw
  have hb : (j + m) * sz ≤ cap * sz := Nat.mul_le_mul_right _ hj
  rw [Nat.add_mul] at hb
  refine ⟨by rw [List.length_take, List.length_drop, hl]; omega, ?_⟩
  rcases Nat.eq_zero_or_pos m with h0 | h0
  · exact .inl h0
  · refine .inr ⟨⟨g, j * sz, none⟩, ?_, fun k u hk => ?_⟩
    · unfold subAo
      rw [if_neg (by omega)]
      simp only [Option.map_some, add_lit, Nat.zero_add]
    · rw [add_lit]
      rw [List.getElem?_take] at hk
      split at hk
      · rw [List.getElem?_drop] at hk
        exact CellIs.cells i hi hk w hw
      · cases hk
theorem SL.appendin {dst : Option Tmp} {t ty e : TypeId} {s x : Operand} {g n m cap c sz bytes : Nat} {bo : Option Addr} {pos : String} {after : Array Edge} {d : Nat} {z cur news : List Value} (i : Nat) (hd : dst = some d) (hN : Nat.blt d N = true)
    (hu : P.underlying t = some (.slice e)) (he' : elemI P e = some (sz, z, bytes)) (hs : ev E Γ 0 s = some (.slice (some ⟨g, 0, none⟩) n cap)) (hx : ev E Γ 0 x = some (.slice bo m c)) (hb : bo.isSome = true) (hi : H[i]? = some (.cells g cur e))
    (hn : ∀ w, HeapOk w0 H w → SrcIs w bo m sz news) (h1c : news.all (·.oneCell') = true) (hroom : n + m ≤ cap) (hl : cur.length = cap * sz)
    (h : SL P N w0 ops Q rest ((d, 0, .slice (some ⟨g, 0, none⟩) (n + m) cap) :: E) Γ (H.set i (.cells g (cur.take (n * sz) ++ news ++ cur.drop ((n + m) * sz)) e))) : SL P N w0 ops Q (⟨dst, .call { callee := .builtin .append, args := #[s, x], argTypes := #[t, t] }, ty, pos, after, none⟩ :: rest) E Γ H := by
  intro a w he hw
  obtain ⟨inf, zv, h1, h2, h3, h4, h5, h6, h7⟩ := elemI_ok he'
  obtain ⟨ad, rfl⟩ := Option.isSome_iff_exists.1 hb
  have hg : w.heap[g]? = some (.cells cur.toArray e (0, 0)) := hw.mem hi
  obtain ⟨hln, hsrc⟩ := hn w hw
  have hnews : ∀ j u, news[j]? = some u → w.cell? (ad.add j) = some u := by
    rcases hsrc with rfl | ⟨a', ha, hc⟩
    · intro j u hj
      have : news = [] := List.eq_nil_of_length_eq_zero (by simpa using hln)
      rw [this] at hj; simp at hj
    · injection ha with ha
      rw [ha]; exact hc
  have hsz : inf.size = sz := by assumption
  have hfit : n * inf.size + news.length ≤ cur.toArray.size := by
    rw [hsz, hln, ← Nat.add_mul, List.size_toArray, hl]; exact Nat.mul_le_mul_right _ hroom
  have hr := run_append_room (P := P) w t ty e inf hu h1 g n cap cur.toArray hg ad m c news (by rw [hsz]; exact hln) hnews (fun u hu => List.all_eq_true.1 h1c u hu) hroom hfit
  refine wpList_plain rfl fun K hK => ?_
  unfold Oper.wp
  have hex : (execOp a.eval (⟨dst, .call { callee := .builtin .append, args := #[s, x], argTypes := #[t, t] }, ty, pos, after, none⟩ : Oper)).run P w = .ok (.value (.slice (some ⟨g, 0, none⟩) (n + m) cap)) (w.setRow g (cur.take (n * sz) ++ news ++ cur.drop ((n + m) * sz)).toArray) := by
    rw [hsz, hln, ← Nat.add_mul] at hr
    simp [execOp, resolve, invoke, builtin, ev_ok he hs (gval_zero Γ), ev_ok he hx (gval_zero Γ), hr]
  rw [hex]
  simp only [Oper.upon, hd]
  refine hK _ _ (h _ _ (he.put hN (Nat.zero_le _) (by rw [gval_zero]; rfl)) ?_)
  refine hw.change hi (by simp [World.setRow]) rfl rfl rfl (fun b hbb hnb => setRow_other w g b _ (fun e => hnb e)) ?_ (fun b hfb => .inl hfb)
  exact setRow_heap w g cur.toArray _ e _ hg
/-- the builtin 'clear' on a part of a block of the call's own -/
theorem SL.clearin {dst : Option Tmp} {t ty e : TypeId} {x : Operand} {g o n c : Nat} {pos : String} {after : Array Edge} {z cur : List Value} (i : Nat) (hd : dst = none)
    (hu : P.underlying t = some (.slice e)) (hz : ∀ w, (zeroValue e).run P w = .ok (.agg z.toArray) w) (hx : ev E Γ 0 x = some (.slice (some ⟨g, o, none⟩) n c)) (hn : 0 < n) (hi : H[i]? = some (.cells g cur e))
    (h1c : z.all (·.oneCell') = true) (hl : o + n * z.length ≤ cur.length)
    (h : ∀ cur', cur'.length = cur.length → (∀ k, k ≤ o → cur'.take k = cur.take k) → SL P N w0 ops Q rest E Γ (H.set i (.cells g cur' e))) : SL P N w0 ops Q (⟨dst, .call { callee := .builtin .clear, args := #[x], argTypes := #[t] }, ty, pos, after, none⟩ :: rest) E Γ H := by
  intro a w he hw
  have hg : w.heap[g]? = some (.cells cur.toArray e (0, 0)) := hw.mem hi
  have hzl : (Builtin.zeroCells (Value.agg z.toArray).cells n).toList.length = n * z.length := by
    simp [size_zeroCells, Value.cells]
  have hz1 : ∀ v ∈ (Builtin.zeroCells (Value.agg z.toArray).cells n).toList, v.oneCell' = true := by
    intro v hv
    simp only [Builtin.zeroCells, Value.cells] at hv
    refine List.all_eq_true.1 h1c v ?_
    rw [Array.toList_map, List.mem_map] at hv
    obtain ⟨k, hk, rfl⟩ := hv
    rw [Array.mem_toList_iff, Array.mem_range] at hk
    simp only [List.size_toArray] at hk
    have hpos : 0 < z.length := by
      rcases Nat.eq_zero_or_pos z.length with h0 | h0
      · rw [h0, Nat.mul_zero] at hk; omega
      · exact h0
    have hm := Nat.mod_lt k hpos
    simp [hm]
  obtain ⟨w', g1, g2, g3, g4, g5, g6, g7⟩ := run_storeCells_own (P := P) g e (Builtin.zeroCells (Value.agg z.toArray).cells n).toList o 0 cur w hg (by rw [hzl]; simpa using hl) hz1
  refine wpList_plain rfl fun K hK => ?_
  unfold Oper.wp
  have hex : (execOp a.eval (⟨dst, .call { callee := .builtin .clear, args := #[x], argTypes := #[t] }, ty, pos, after, none⟩ : Oper)).run P w = .ok (.value (.tuple #[])) w' := by
    obtain ⟨m, rfl⟩ : ∃ m, n = m + 1 := ⟨n - 1, by omega⟩
    simp [execOp, resolve, invoke, builtin, ev_ok he hx (gval_zero Γ), Builtin.clear_, run_underlying hu, hz, g1]
  rw [hex]
  simp only [Oper.upon, hd, Act.put_none]
  have hset : ∀ (vs cs : List Value) (o : Nat), (setAll cs o vs).length = cs.length ∧ ∀ k, k ≤ o → (setAll cs o vs).take k = cs.take k := by
    intro vs
    induction vs with
    | nil => intro cs o; exact ⟨rfl, fun _ _ => rfl⟩
    | cons v r ih =>
      intro cs o
      refine ⟨by rw [setAll, (ih _ _).1, List.length_set], fun k hk => ?_⟩
      rw [setAll, (ih _ _).2 k (by omega)]
      rw [List.take_set_of_le hk]
  refine hK _ _ (h (setAll cur (o + 0) (Builtin.zeroCells (Value.agg z.toArray).cells n).toList) (hset _ _ _).1 (fun k hk => (hset _ _ _).2 k (by omega)) _ _ he ?_)
  refine hw.change hi (by omega) g4 g5 g6 (fun k _ hk => g7 k hk) g2 (fun k hk => .inl hk)
theorem PureOp.slicelhm {c : Nat} {dst : Option Tmp} {x y z u : Operand} {t ty : TypeId} {pos : String} {after : Array Edge} {g : Option (Nat × Bool)} {e : TypeId} {ao : Option Addr} {n cap sz : Nat} {lo hi m : Int} {k k' k2 : IntKind} (ht : P.underlying t = some (.slice e)) (hsz : (P.info? e).map (·.size) = some sz) (hx : ev E Γ c x = some (.slice ao n cap)) (hy : ev E Γ c y = some (.int k lo)) (hz : ev E Γ c z = some (.int k' hi)) (hm : ev E Γ c u = some (.int k2 m)) (hb : gval Γ c = true → 0 ≤ lo ∧ lo ≤ hi ∧ hi ≤ m ∧ m ≤ cap) :
    PureOp P N w0 E Γ H c ⟨dst, .slice t x (some y) (some z) (some u), ty, pos, after, g⟩ (.slice (subAo ao m.toNat lo.toNat sz) (hi.toNat - lo.toNat) (m.toNat - lo.toNat)) := by
  intro a w he hw hc
  obtain ⟨i, hi', hs⟩ := Option.map_eq_some_iff.1 hsz
  obtain ⟨b1, b2, b3, b4⟩ := hb hc
  have hel : P.elem t = e := by simp [Program.elem, ht]
  have ht' : P.underlying t = some (.slice (P.elem t)) := by rw [hel]; exact ht
  have := run_slice_lhm (P := P) w t ao n cap ht' k k' k2 lo hi m b1 b2 b3 b4
  simp only [execOp, Option.map_some, Option.map_none, ev_ok he hx hc, ev_ok he hy hc, ev_ok he hz hc, ev_ok he hm hc]
  rw [Sem.run_bind, run_sliceAt_slice w t _ _ _ _ ht', this]
  simp [sizeOf, typeInfo, hel, hi', hs, sliced, subAo]
theorem PureOp.sliceh {c : Nat} {dst : Option Tmp} {x y : Operand} {t ty : TypeId} {pos : String} {after : Array Edge} {g : Option (Nat × Bool)} {e : TypeId} {ao : Option Addr} {n cap sz : Nat} {h : Int} {k : IntKind} (ht : P.underlying t = some (.slice e)) (hsz : (P.info? e).map (·.size) = some sz) (hx : ev E Γ c x = some (.slice ao n cap)) (hy : ev E Γ c y = some (.int k h)) (hb : gval Γ c = true → 0 ≤ h ∧ h ≤ cap) :
    PureOp P N w0 E Γ H c ⟨dst, .slice t x none (some y) none, ty, pos, after, g⟩ (.slice (subAo ao cap 0 sz) (h.toNat - 0) (cap - 0)) := by
  intro a w he hw hc
  obtain ⟨inf, hinf, hs⟩ := Option.map_eq_some_iff.1 hsz
  obtain ⟨b1, b2⟩ := hb hc
  have hel : P.elem t = e := by simp [Program.elem, ht]
  have ht' : P.underlying t = some (.slice (P.elem t)) := by rw [hel]; exact ht
  have := run_slice_h (P := P) w t ao n cap ht' k h b1 b2
  simp only [execOp, Option.map_some, Option.map_none, ev_ok he hx hc, ev_ok he hy hc]
  rw [Sem.run_bind, run_sliceAt_slice w t _ _ _ _ ht', this]
  simp [sizeOf, typeInfo, hel, hinf, hs, sliced, subAo]
theorem subAo_zero (g cap sz : Nat) : subAo (some ⟨g, 0, none⟩) cap 0 sz = some ⟨g, 0, none⟩ := by
  unfold subAo
  split
  · rfl
  · simp only [Option.map_some, add_lit, Nat.zero_mul]
theorem cellsOf_take {α : Type} [Inhabited α] {enc : α → List Value} {sz : Nat} (he : ∀ x, (enc x).length = sz) : ∀ (l : List α) (k : Nat), cellsOf enc (l.take k) = (cellsOf enc l).take (k * sz)
  | [], k => by simp [cellsOf]
  | x :: r, 0 => by simp [cellsOf]
  | x :: r, k + 1 => by
    rw [List.take_succ_cons, show x :: r.take k = [x] ++ r.take k from rfl, show x :: r = [x] ++ r from rfl, cellsOf_append, cellsOf_append, cellsOf_one, cellsOf_take he r k, Nat.succ_mul, Nat.add_comm, ← he x, List.take_length_add_append]
theorem cellsOf_drop {α : Type} [Inhabited α] {enc : α → List Value} {sz : Nat} (he : ∀ x, (enc x).length = sz) : ∀ (l : List α) (k : Nat), cellsOf enc (l.drop k) = (cellsOf enc l).drop (k * sz)
  | [], k => by simp [cellsOf]
  | x :: r, 0 => by simp [cellsOf]
  | x :: r, k + 1 => by
    rw [List.drop_succ_cons, show x :: r = [x] ++ r from rfl, cellsOf_append, cellsOf_one, cellsOf_drop he r k, Nat.succ_mul, Nat.add_comm, ← he x, List.drop_length_add_append]
theorem cut_news {α : Type} [Inhabited α] {enc : α → List Value} {sz : Nat} (he : ∀ x, (enc x).length = sz) {l : List α} {cur : List Value} {j n : Nat} (hc : cur.take (n * sz) = cellsOf enc l) : (cur.drop (j * sz)).take ((n - j) * sz) = cellsOf enc (l.drop j) := by
  rw [cellsOf_drop he, ← hc, List.drop_take, Nat.mul_sub_right_distrib]
/-- what is left of the cells, when the elements from i to j are cut out -/
theorem cut_cells {α : Type} [Inhabited α] {enc : α → List Value} {sz : Nat} (he : ∀ x, (enc x).length = sz) {l : List α} {cur : List Value} {i j n m : Nat} (hn : n = l.length) (hij : i ≤ j) (hj : j ≤ n) (hc : cur.take (n * sz) = cellsOf enc l) (hm : m = i + (n - j)) (rest : List Value) :
    (cur.take (i * sz) ++ cellsOf enc (l.drop j) ++ rest).take (m * sz) = cellsOf enc (l.take i ++ l.drop j) := by
  have h1 : cur.take (i * sz) = cellsOf enc (l.take i) := by
    rw [cellsOf_take he, ← hc, List.take_take, Nat.min_eq_left (Nat.mul_le_mul_right _ (by omega))]
  have hl : (l.take i ++ l.drop j).length = m := by
    rw [List.length_append, List.length_take, List.length_drop]; omega
  rw [h1, ← cellsOf_append, List.take_append_of_le_length (by rw [cellsOf_length he, hl]; exact Nat.le_refl _), List.take_of_length_le (by rw [cellsOf_length he, hl]; exact Nat.le_refl _)]
theorem SrcIs.of {α : Type} [Inhabited α] {enc : α → List Value} {l : List α} {sz n cap : Nat} {ao : Option Addr} {w : World} (h : SliceIn w sz ao n cap (rowsF enc l)) (he : ∀ x, (enc x).length = sz) (hn : n = l.length) : SrcIs w ao n sz (cellsOf enc l) :=
  SrcIs.in_ (H := []) h he hn w (HeapOk.start w)
theorem zero_run {e : TypeId} {z : Value} (h : (P.info? e).map (·.zero) = some (some z)) (w : World) : (zeroValue e).run P w = .ok z w := by
  obtain ⟨i, h1, h2⟩ := Option.map_eq_some_iff.1 h
  simp [zeroValue, typeInfo, h1, h2]
def isAggD : TypeDesc → Bool
  | .struct _ => true
  | .array _ _ => true
  | _ => false
theorem run_part_one {t : TypeId} {ds : TypeDesc} (hu : P.underlying t = some ds) (hn : isAggD ds = false) {cs : Array Value} {i : Nat} {v : Value} (hv : cs[i]? = some v) (w : World) : (part t cs i).run P w = .ok v w := by
  have hagg : (isAgg t).run P w = .ok false w := by
    unfold isAgg
    rw [Sem.run_bind, run_underlying hu w]
    cases ds <;> simp_all [isAggD]
  simp [part, hagg, hv]
/-- an element of an array value, of one cell -/
theorem PureOp.indexa {c : Nat} {dst : Option Tmp} {x y : Operand} {t ty : TypeId} {pos : String} {after : Array Edge} {g : Option (Nat × Bool)} {len : Nat} {ds : TypeDesc} {e : TypeId} {k : IntKind} {i : Int} {cs : List Value} {v : Value} (ht : P.underlying t = some (.array len e)) (hk : P.underlying e = some ds) (hn : isAggD ds = false) (hsz : (P.info? e).map (·.size) = some 1) (hx : ev E Γ c x = some (.agg cs.toArray)) (hy : ev E Γ c y = some (.int k i)) (hb : 0 ≤ i ∧ i < len) (hv : cs[i.toNat]? = some v) :
    PureOp P N w0 E Γ H c ⟨dst, .index t x y, ty, pos, after, g⟩ v := by
  intro a w he hw hc
  obtain ⟨inf, hinf, hs⟩ := Option.map_eq_some_iff.1 hsz
  have hp := run_part_one (P := P) hk hn (cs := cs.toArray) (i := i.toNat) (v := v) (by simpa using hv) w
  simp only [execOp, ev_ok he hx hc, ev_ok he hy hc]
  simp [Instr.index, asIntOf, run_underlying ht, hb, sizeOf, typeInfo, hinf, hs, hp]
/-- a call of a function value with a bound receiver, that changes items of the caller -/
theorem SL.callMf (fs : List Value) {o : Oper} {d f : Nat} {x : Operand} {xs : Array Operand} {ts : Array TypeId} {vs : List Value} {L : Heap} {σ : Type} {V : σ → Value} {L' : σ → Heap} {I : σ → Prop} {news : σ → Heap} (is : List Nat) (ho : o.op = .call { callee := .value x, args := xs, argTypes := ts }) (hg : o.guard = none) (hd : o.dst = some d) (hN : Nat.blt d N = true)
    (hx : ev E Γ 0 x = some (.func (.func f) fs.toArray #[])) (hxs : evs E Γ 0 xs.toList = some vs) (hf : callable P f = true) (hnd : is.Nodup) (hC : MC P f (fs ++ vs) w0 L V L' I news) (hL : is.map (H[·]?) = L.map some) (hL' : ∀ t, I t → (L' t).length = is.length)
    (h : ∀ t, I t → SL P N w0 ops Q rest ((d, 0, V t) :: E) Γ (putAll H is (L' t) ++ news t)) : SL P N w0 ops Q (o :: rest) E Γ H := by
  intro a w he hw
  refine wpList_plain hg fun K hK => ?_
  unfold Oper.wp
  rw [run_call ho hf (ev_ok he hx (gval_zero Γ)) (evs_ok he (gval_zero Γ) hxs)]
  simp only [Oper.upon]
  rw [show (fs.toArray ++ vs.toArray ++ #[] : Array Value) = (fs ++ vs).toArray from by simp]
  refine (hC _ w (hw.hole is H L hnd hL)).mono ?_
  rintro e w' ⟨t, rfl, hI, hw'⟩
  simp only [hd]
  refine hK _ _ (h t hI _ _ (he.put hN (Nat.zero_le _) (by rw [gval_zero]; rfl)) ?_)
  have h1 := HeapOk.fillback is (L' t) _ (news t) hnd (hL' t hI).symm (fun i hi => ?_) hw'
  · rw [putAll_twice is H _ _ hnd (by simp) (hL' t hI).symm] at h1
    exact h1
  · have key : ∀ (is : List Nat) (M : Heap), is.Nodup → (∀ i ∈ is, i < M.length) → ∀ i ∈ is, (putAll M is (is.map fun _ => Item.triv))[i]? = some Item.triv := by
      intro is
      induction is with
      | nil => intro M _ _ i hi; simp at hi
      | cons j is ih =>
        intro M hn hlt i hi
        obtain ⟨n1, n2⟩ := List.nodup_cons.1 hn
        simp only [List.map_cons, putAll]
        rcases List.mem_cons.1 hi with rfl | hi
        · rw [putAll_get _ _ _ _ n1, List.getElem?_set_self (hlt _ List.mem_cons_self)]
        · exact ih _ n2 (fun k hk => by simpa using hlt k (List.mem_cons_of_mem _ hk)) i hi
    refine key is H hnd (fun j hj => ?_) i hi
    have : (H[j]?) ∈ L.map some := by rw [← hL]; exact List.mem_map_of_mem (f := (H[·]?)) hj
    obtain ⟨y, _, hy⟩ := List.mem_map.1 this
    exact (List.getElem?_eq_some_iff.1 hy.symm).1
section
variable {fuel : Nat} {K : Act → World → Prop} {HS : Heap}
theorem SD.offu (i : Nat) {o : Oper} {j t : Nat} {want : Bool} {listed : List Bool} (listed' : List Bool) (hi : ops[i]? = some o) (hc : chkTake ops listed i = true) (hls : listed.set i true = listed')
    (hS : ∀ w, HeapOk w0 H w → HeapOk w0 HS w) (hg : o.guard = some (j, want)) (hj : (ops[j]?).bind (·.dst) = some t) (ht : Nat.blt t N = true) (hl : look E t = some (0, undef)) (hN : (o.dst.all fun d => Nat.blt d N) = true)
    (h : SD P N w0 ops K HS fuel listed' (consO o.dst E) Γ H) : SD P N w0 ops K HS (fuel + 1) listed E Γ H := by
  intro a w he hw
  simp only [chkTake, Bool.and_eq_true] at hc
  have hw' : Region.wanted o (yielded ops a.tmps) = false := by
    have htN : t < N := Nat.le_of_ble_eq_true ht
    have h2 := (he.at_ t 0 _ hl).2
    have hs := he.size
    have hget : a.tmps[t]? = some undef := by
      rw [gval_zero] at h2
      rw [show undef = (bif true then undef else undef : Value) from rfl, ← h2, Array.getD_eq_getD_getElem?, Array.getElem?_eq_getElem (by omega)]
      rfl
    unfold Region.wanted yielded
    simp only [hg, hj, Option.bind_some, hget]
    rfl
  refine wpAnyH_take (v := undef) hi hc.1 hc.2.1 hc.2.2 (fun c a w h => h.elim) (.inr ⟨hw', rfl⟩) (hS w hw) ?_
  rw [List.setIfInBounds_toArray, hls]
  exact h _ _ (he.putO hN) hw
end
end Go.Proofs.Ytblmafknmeicfaa.Eng
