/-
  Memory of the call's own: struct and slice literals, make, append, slice expressions. Over the engine's frames and memory. Of no program.
-/
import Derived.Test.YtblmafknmeicfaaOps
import Derived.Great.BuildSlice
namespace Go.Proofs.Ytblmafknmeicfaa.Eng
open Go Go.RowKit
set_option linter.unusedVariables false
set_option linter.unusedSimpArgs false
set_option linter.unusedSectionVars false
variable {P : Program} {N : Nat} {w0 : World} {Q : Exit → Act → World → Prop} {E : Env} {Γ : Gds} {H : Heap} {ops : Array Oper} {rest : List Oper}

/-! ### literals -/
def fillL (place : Nat → Option (Nat × Nat)) (cells : List Value) : List (Nat × Value) → Option (List Value)
  | [] => some cells
  | (i, v) :: rest => match place i with
    | none => none
    | some (o, s) => bif Nat.beq (vcells v).length s && Nat.ble (o + s) cells.length then fillL place (setAll cells o (vcells v)) rest else none
theorem setAll_length (vs : List Value) : ∀ (cs : List Value) (o : Nat), (setAll cs o vs).length = cs.length := by
  induction vs with
  | nil => intro cs o; rfl
  | cons v r ih => intro cs o; simp [setAll, ih]
theorem foldl_set (vs : List Value) : ∀ (k o : Nat) (cs : List Value), (vs.zipIdx k).foldl (fun (cs : Array Value) (x : Value × Nat) => cs.setIfInBounds (o + x.2) x.1) cs.toArray = (setAll cs (o + k) vs).toArray := by
  induction vs with
  | nil => intro k o cs; simp [setAll]
  | cons v r ih =>
    intro k o cs
    simp only [List.zipIdx_cons, List.foldl_cons, setAll, List.setIfInBounds_toArray]
    rw [ih (k + 1) o]
    rfl
theorem fill_of_fillL {place : Nat → Option (Nat × Nat)} : ∀ {parts : List (Nat × Value)} {cells cs : List Value}, fillL place cells parts = some cs → Instr.fill place cells.toArray parts = some cs.toArray := by
  intro parts
  induction parts with
  | nil => intro cells cs h; simp [fillL] at h; subst h; rfl
  | cons x rest ih =>
    obtain ⟨i, v⟩ := x
    intro cells cs h
    simp only [fillL] at h
    simp only [Instr.fill]
    cases hp : place i with
    | none => simp [hp] at h
    | some os =>
      obtain ⟨o, s⟩ := os
      simp only [hp] at h
      cases hb : (Nat.beq (vcells v).length s && Nat.ble (o + s) cells.length) with
      | false => simp [hb] at h
      | true =>
        simp only [hb, cond_true] at h
        simp only [Bool.and_eq_true] at hb
        have h1 : (vcells v).length = s := nat_beq_iff.1 hb.1
        have h2 : o + s ≤ cells.length := Nat.le_of_ble_eq_true hb.2
        have hsz : v.cells.size = (vcells v).length := by rw [vcells_eq]; simp
        have hc : ¬ (v.cells.size ≠ s || o + v.cells.size > cells.toArray.size) = true := by simp; omega
        dsimp only
        rw [if_neg hc]
        have hf := foldl_set (vcells v) 0 o cells
        have hz : v.cells.zipIdx = ((vcells v).zipIdx 0).toArray := by rw [vcells_eq]; simp
        have hfold : Array.foldl (fun (cs : Array Value) (x : Value × Nat) => cs.setIfInBounds (o + x.2) x.1) cells.toArray v.cells.zipIdx = (setAll cells o (vcells v)).toArray := by
          rw [hz]
          simpa using hf
        exact (congrArg (fun c => Instr.fill place c rest) hfold).trans (ih h)
def builder (P : Program) (t : TypeId) : Option (List Value × List (Nat × Nat)) :=
  match P.info? t, P.underlying t with
  | some it, some (.struct fields) => match it.zero, fields.toList.mapM (fun f => (P.info? f.type).map fun i => (f.offset, i.size)) with
    | some z, some places => some (vcells z, places)
    | _, _ => none
  | some it, some (.array n e) => match it.zero, P.info? e with
    | some z, some ie => some (vcells z, (List.range n).map fun i => (i * ie.size, ie.size))
    | _, _ => none
  | _, _ => none
theorem fill_mono {p p' : Nat → Option (Nat × Nat)} (hp : ∀ i x, p i = some x → p' i = some x) : ∀ {parts : List (Nat × Value)} {cells cs : Array Value}, Instr.fill p cells parts = some cs → Instr.fill p' cells parts = some cs := by
  intro parts
  induction parts with
  | nil => intro cells cs h; exact h
  | cons x rest ih =>
    obtain ⟨i, v⟩ := x
    intro cells cs h
    simp only [Instr.fill] at h ⊢
    cases hpi : p i with
    | none => simp [hpi] at h
    | some os =>
      obtain ⟨o, s⟩ := os
      rw [hp i _ hpi]
      simp only [hpi] at h
      split at h
      · cases h
      · rename_i hc
        simp only [hc]
        exact ih h
theorem built_of {t : TypeId} {z : List Value} {pl : List (Nat × Nat)} {parts : List (Nat × Value)} {cs : List Value} (hb : builder P t = some (z, pl)) (hf : fillL (fun i => pl[i]?) z parts = some cs) : P.built t parts = some cs.toArray := by
  unfold builder at hb
  unfold Program.built
  cases hit : P.info? t with
  | none => simp [hit] at hb
  | some it =>
    cases hu : P.underlying t with
    | none => simp [hit, hu] at hb
    | some d =>
      cases d <;> try (simp [hit, hu] at hb; done)
      case array n e =>
        cases hz : it.zero with
        | none => simp [hit, hu, hz] at hb
        | some zz =>
          cases hie : P.info? e with
          | none => simp [hit, hu, hz, hie] at hb
          | some ie =>
            simp only [hit, hu, hz, hie, Option.some.injEq, Prod.mk.injEq] at hb ⊢
            obtain ⟨rfl, rfl⟩ := hb
            have h1 := fill_of_fillL hf
            rw [← vcells_eq] at h1
            refine fill_mono (fun i x hx => ?_) h1
            rw [List.getElem?_map] at hx
            cases hr : (List.range n)[i]? with
            | none => simp [hr] at hx
            | some k =>
              obtain ⟨hlt, hk⟩ := List.getElem?_eq_some_iff.1 hr
              simp at hk
              subst hk
              simpa [hr] using hx
      case struct fields =>
        cases hz : it.zero with
        | none => simp [hit, hu, hz] at hb
        | some zz =>
          cases hp : fields.toList.mapM (fun f => (P.info? f.type).map fun i => (f.offset, i.size)) with
          | none => simp [hit, hu, hz, hp] at hb
          | some places =>
            simp only [hit, hu, hz, hp, Option.some.injEq, Prod.mk.injEq] at hb ⊢
            obtain ⟨rfl, rfl⟩ := hb
            have h1 := fill_of_fillL hf
            rw [← vcells_eq] at h1
            simpa using h1
def evp (E : Env) (Γ : Gds) (c : Nat) : List (Nat × Operand) → Option (List (Nat × Value))
  | [] => some []
  | (i, x) :: r => match ev E Γ c x, evp E Γ c r with
    | some v, some vs => some ((i, v) :: vs)
    | _, _ => none
theorem evp_ok {a : Act} {c : Nat} (he : EnvOk N E Γ a) (hc : gval Γ c = true) : ∀ {xs : List (Nat × Operand)} {vs : List (Nat × Value)}, evp E Γ c xs = some vs → xs.map (fun x => (x.1, a.eval x.2)) = vs := by
  intro xs
  induction xs with
  | nil => intro vs h; simp [evp] at h; simp [h]
  | cons x r ih =>
    obtain ⟨i, x⟩ := x
    intro vs h
    simp only [evp] at h
    cases h1 : ev E Γ c x with
    | none => simp [h1] at h
    | some v =>
      cases h2 : evp E Γ c r with
      | none => simp [h1, h2] at h
      | some us =>
        simp [h1, h2] at h
        subst h
        simp [ev_ok he h1 hc, ih h2]
theorem PureOp.build {c : Nat} {dst : Option Tmp} {t ty : TypeId} {parts : List (Nat × Operand)} {pos : String} {after : Array Edge} {g : Option (Nat × Bool)} {vs : List (Nat × Value)} {z cs : List Value} {pl : List (Nat × Nat)}
    (hb : builder P t = some (z, pl)) (hv : evp E Γ c parts = some vs) (hf : fillL (fun i => pl[i]?) z vs = some cs) : PureOp P N w0 E Γ H c ⟨dst, .build t parts.toArray, ty, pos, after, g⟩ (.agg cs.toArray) := by
  intro a w he hw hc
  have h1 := evp_ok he hc hv
  have h2 : (parts.toArray.map fun x => (x.1, a.eval x.2)).toList = vs := by simpa using h1
  have hr := run_build (P := P) w t (parts.toArray.map fun x => (x.1, a.eval x.2)) cs.toArray (by rw [h2]; exact built_of hb hf)
  have hr' : (Instr.build t (parts.toArray.map fun (x : Nat × Operand) => match x with | (i, x) => (i, a.eval x))).run P w = .ok (.agg cs.toArray) w := hr
  simp only [execOp, Sem.run_bind, hr', Result.andThen_ok, Sem.run_pure]

def repCells (z : List Value) : Nat → List Value
  | 0 => []
  | n + 1 => z ++ repCells z n
theorem repCells_length (z : List Value) (n : Nat) : (repCells z n).length = n * z.length := by
  induction n with
  | zero => simp [repCells]
  | succ n ih => simp [repCells, ih, Nat.succ_mul]; omega
theorem repCells_get (z : List Value) : ∀ (n k : Nat), k < n * z.length → (repCells z n)[k]? = z[k % z.length]? := by
  intro n
  induction n with
  | zero => intro k h; simp at h
  | succ n ih =>
    intro k h
    rw [Nat.succ_mul] at h
    simp only [repCells]
    rcases Nat.lt_or_ge k z.length with hk | hk
    · rw [List.getElem?_append_left hk, Nat.mod_eq_of_lt hk]
    · rw [List.getElem?_append_right hk, ih _ (by omega), ← Nat.mod_eq_sub_mod hk]
theorem repCells_eq (z : Value) (n sz : Nat) (h : z.cells.size = sz) : (Array.range (n * sz)).map (z.cells[· % z.cells.size]!) = (repCells (vcells z) n).toArray := by
  have hsz : z.cells.size = (vcells z).length := by rw [vcells_eq]; simp
  apply Array.ext
  · simp [repCells_length]; rw [← hsz, h]
  · intro i h1 h2
    simp at h1
    have hg := repCells_get (vcells z) n i (by rw [← hsz, h]; exact h1)
    have hpos : 0 < (vcells z).length := by
      rcases Nat.eq_zero_or_pos (vcells z).length with h0 | h0
      · rw [hsz, h0] at h; subst h; simp at h1
      · exact h0
    have hlt := Nat.mod_lt i hpos
    rw [List.getElem?_eq_getElem (by simpa using h2), List.getElem?_eq_getElem hlt] at hg
    injection hg with hg
    simp only [Array.getElem_map, Array.getElem_range, List.getElem_toArray]
    rw [hg, hsz, vcells_eq]
    simp [hlt]
theorem replicate_eq (z : Value) (n : Nat) : repCells [z] n = List.replicate n z := by
  induction n with
  | zero => rfl
  | succ n ih => simp [repCells, ih, List.replicate_succ]

/-- the elements' type: its size, its zero value's cells, its bytes -/
def elemI (P : Program) (e : TypeId) : Option (Nat × List Value × Nat) := match P.info? e with
  | some i => match i.zero with
    | some z => bif Nat.beq z.cells.size i.size then some (i.size, vcells z, i.bytes) else none
    | none => none
  | none => none
theorem elemI_ok {e : TypeId} {sz bytes : Nat} {z : List Value} (h : elemI P e = some (sz, z, bytes)) : ∃ i zv, P.info? e = some i ∧ i.zero = some zv ∧ i.size = sz ∧ i.bytes = bytes ∧ vcells zv = z ∧ zv.cells.size = sz ∧ z.length = sz := by
  unfold elemI at h
  cases hi : P.info? e with
  | none => simp [hi] at h
  | some i =>
    cases hz : i.zero with
    | none => simp [hi, hz] at h
    | some zv =>
      simp only [hi, hz] at h
      cases hb : Nat.beq zv.cells.size i.size with
      | false => simp [hb] at h
      | true =>
        simp [hb] at h
        obtain ⟨rfl, rfl, rfl⟩ := h
        have := nat_beq_iff.1 hb
        refine ⟨i, zv, rfl, hz, rfl, rfl, rfl, this, ?_⟩
        rw [← this, vcells_eq]; simp
theorem HeapOk.addown {w : World} (hw : HeapOk w0 H w) {cs : List Value} {e : TypeId} {n sz : Nat} (hl : cs.length = n * sz) (hm : n ≤ maxLen) : HeapOk w0 (H ++ [.own w0.heap.size (some ⟨w.heap.size, 0, none⟩) n n e sz cs]) (w.alloc (.cells cs.toArray e)) := by
  refine hw.add (below_alloc w _) ?_ (fun b hb => ?_)
  · exact ⟨hl, .inr ⟨w.heap.size, n, cs.toArray, rfl, hw.below.size, heap_alloc_new w _, Nat.le_refl _, hm, by simp [hl], by simp [← hl]⟩⟩
  · have : some w.heap.size = some b := hb
    injection this with this
    omega
theorem HeapOk.addnil {w : World} (hw : HeapOk w0 H w) (e : TypeId) (sz : Nat) : HeapOk w0 (H ++ [.own w0.heap.size none 0 0 e sz []]) w :=
  hw.add (Below.refl _ _) (World.ownsRow_nil w w0.heap.size e sz) (fun b hb => by cases hb)
theorem WC.addnil {c : Code} (e : TypeId) (sz : Nat) (h : WC P N w0 c Q E Γ (H ++ [.own w0.heap.size none 0 0 e sz []])) : WC P N w0 c Q E Γ H := fun a w he hw => h a w he (hw.addnil e sz)
theorem SL.addnil (e : TypeId) (sz : Nat) {l : List Oper} (h : SL P N w0 ops Q l E Γ (H ++ [.own w0.heap.size none 0 0 e sz []])) : SL P N w0 ops Q l E Γ H := fun a w he hw => h a w he (hw.addnil e sz)

theorem SL.buildSlice {dst : Option Tmp} {t ty e : TypeId} {len sz bytes : Nat} {parts : List (Nat × Operand)} {pos : String} {after : Array Edge} {d : Nat} {vs : List (Nat × Value)} {z cs : List Value} (hd : dst = some d) (hN : Nat.blt d N = true)
    (hu : P.underlying t = some (.slice e)) (he' : elemI P e = some (sz, z, bytes)) (hsm : Nat.ble (len * sz) 16777216 = true) (hpos : Nat.blt 0 (len * sz) = true) (hv : evp E Γ 0 parts = some vs) (hf : fillL (fun i => some (i * sz, sz)) (repCells z len) vs = some cs)
    (h : ∀ b, w0.heap.size ≤ b → SL P N w0 ops Q rest ((d, 0, .slice (some ⟨b, 0, none⟩) len len) :: E) Γ (H ++ [.own w0.heap.size (some ⟨b, 0, none⟩) len len e sz cs])) : SL P N w0 ops Q (⟨dst, .buildSlice t len parts.toArray, ty, pos, after, none⟩ :: rest) E Γ H := by
  intro a w he hw
  obtain ⟨i, zv, h1, h2, h3, h4, h5, h6, h7⟩ := elemI_ok he'
  subst h5
  have hle := Nat.le_of_ble_eq_true hsm
  have hps : 0 < len * sz := Nat.le_of_ble_eq_true hpos
  have hq1 := evp_ok he (gval_zero Γ) hv
  have hq2 : (parts.toArray.map fun x => (x.1, a.eval x.2)).toList = vs := by simpa using hq1
  have hfl : Instr.fill (fun i => some (i * sz, sz)) (repCells (vcells zv) len).toArray vs = some cs.toArray := fill_of_fillL hf
  have hlen : cs.length = len * sz := by
    have key : ∀ (parts : List (Nat × Value)) (cells cs : List Value), fillL (fun i => some (i * sz, sz)) cells parts = some cs → cs.length = cells.length := by
      intro parts
      induction parts with
      | nil => intro cells cs h; simp [fillL] at h; simp [h]
      | cons x r ih =>
        intro cells cs h
        simp only [fillL] at h
        cases hb : (Nat.beq (vcells x.2).length sz && Nat.ble (x.1 * sz + sz) cells.length) with
        | false => simp [hb] at h
        | true => simp only [hb, cond_true] at h; rw [ih _ _ h, setAll_length]
    rw [key _ _ _ hf, repCells_length, h7]
  have hr := run_buildSlice (P := P) w t e len (parts.toArray.map fun x => (x.1, a.eval x.2)) cs.toArray i zv hu h1 h2 (by rw [h3]; omega) (by rw [h3]; omega) (by rw [hq2, h3, repCells_eq zv len sz h6]; exact hfl)
  have hr' : (Instr.buildSlice t len (parts.toArray.map fun (x : Nat × Operand) => match x with | (i, x) => (i, a.eval x))).run P w = .ok (.slice (some ⟨w.heap.size, 0, none⟩) len len) (w.alloc (.cells cs.toArray e)) := hr
  refine wpList_plain rfl fun K hK => ?_
  unfold Oper.wp
  simp only [execOp, Sem.run_bind, hr', Result.andThen_ok, Sem.run_pure, Oper.upon, hd]
  have hl2 : len ≤ len * sz := by
    rcases Nat.eq_zero_or_pos sz with h0 | h0
    · rw [h0] at hps; simp at hps
    · exact Nat.le_mul_of_pos_right _ h0
  exact hK _ _ (h w.heap.size hw.below.size _ _ (he.put hN (Nat.zero_le _) (by rw [gval_zero]; rfl)) (hw.addown hlen (by simp only [maxLen]; omega)))

/-! ### make -/
theorem SL.make {dst : Option Tmp} {t ty e : TypeId} {l c : Operand} {kl kc : IntKind} {n sz bytes : Nat} {pos : String} {after : Array Edge} {d : Nat} {z : List Value} (hd : dst = some d) (hN : Nat.blt d N = true)
    (hu : P.underlying t = some (.slice e)) (he' : elemI P e = some (sz, z, bytes)) (hl : ev E Γ 0 l = some (.int kl (n : Int))) (hc : ev E Γ 0 c = some (.int kc (n : Int))) (hb : bytes * n ≤ 281474976710656) (hm : n ≤ 9223372036854775807)
    (h : ∀ b, w0.heap.size ≤ b → SL P N w0 ops Q rest ((d, 0, .slice (some ⟨b, 0, none⟩) n n) :: E) Γ (H ++ [.own w0.heap.size (some ⟨b, 0, none⟩) n n e sz (repCells z n)])) : SL P N w0 ops Q (⟨dst, .makeSlice t l c, ty, pos, after, none⟩ :: rest) E Γ H := by
  intro a w he hw
  obtain ⟨i, zv, h1, h2, h3, h4, h5, h6, h7⟩ := elemI_ok he'
  subst h5
  have hr : (Instr.makeSlice t (.int kl (n : Int)) (.int kc (n : Int))).run P w = .ok (.slice (some ⟨w.heap.size, 0, none⟩) n n) (w.alloc (.cells (repCells (vcells zv) n).toArray e)) := by
    obtain ⟨w', g1, g2, g3⟩ := run_make_full (P := P) w 0 t e i zv sz hu h1 h2 h3 kl kc n (by rw [h4]; exact hb) hm (Nat.zero_le _)
    have := run_make (P := P) w t e i zv hu h1 h2 kl kc n n (by omega) (by omega) (by
      rw [h4]
      have hh : ((bytes * n : Nat) : Int) ≤ 281474976710656 := by omega
      rwa [Int.natCast_mul] at hh) (by omega)
    rw [this]
    simp only [Int.toNat_natCast]
    congr 2
    rw [h3]
    congr 1
    have := repCells_eq zv n sz h6
    rw [← this]
    rfl
  refine wpList_plain rfl fun K hK => ?_
  unfold Oper.wp
  simp only [execOp, ev_ok he hl (gval_zero Γ), ev_ok he hc (gval_zero Γ), Sem.run_bind, hr, Result.andThen_ok, Sem.run_pure, Oper.upon, hd]
  exact hK _ _ (h w.heap.size hw.below.size _ _ (he.put hN (Nat.zero_le _) (by rw [gval_zero]; rfl)) (hw.addown (by rw [repCells_length, h7]) hm))

/-! ### append to a slice of the call's own -/
def SrcIs (w : World) (bo : Option Addr) (m sz : Nat) (news : List Value) : Prop := news.length = m * sz ∧ (m = 0 ∨ ∃ a, bo = some a ∧ ∀ j u, news[j]? = some u → w.cell? (a.add j) = some u)
theorem SrcIs.own (i : Nat) {base n cap sz : Nat} {ao : Option Addr} {t : TypeId} {xs : List Value} (hi : H[i]? = some (.own base ao n cap t sz xs)) : ∀ w, HeapOk w0 H w → SrcIs w ao n sz xs := by
  intro w hw
  have hg : w.ownsRow base t sz (.slice ao n cap) n xs := hw.mem hi
  refine ⟨hg.1, ?_⟩
  rcases hg.2 with ⟨hv, h0⟩ | ⟨g, cap', cur, hv, _⟩
  · exact .inl h0
  · simp only [Value.slice.injEq] at hv
    obtain ⟨rfl, _⟩ := hv
    exact .inr ⟨_, rfl, hg.cells (g := g) rfl⟩
theorem SL.append {dst : Option Tmp} {t ty e : TypeId} {s x : Operand} {n m cap c sz bytes : Nat} {ao bo : Option Addr} {pos : String} {after : Array Edge} {d : Nat} {z xs news : List Value} (i : Nat) (hd : dst = some d) (hN : Nat.blt d N = true)
    (hu : P.underlying t = some (.slice e)) (he' : elemI P e = some (sz, z, bytes)) (hsz : Nat.blt 0 sz = true) (hs : ev E Γ 0 s = some (.slice ao n cap)) (hx : ev E Γ 0 x = some (.slice bo m c)) (hi : H[i]? = some (.own w0.heap.size ao n cap e sz xs))
    (hn : ∀ w, HeapOk w0 H w → SrcIs w bo m sz news) (h1c : news.all (·.oneCell') = true) (hb : (n + m) * bytes ≤ 140737488355328) (hm : n + m ≤ 9223372036854775807)
    (h : ∀ ao' cap', SL P N w0 ops Q rest ((d, 0, .slice ao' (n + m) cap') :: E) Γ (H.set i (.own w0.heap.size ao' (n + m) cap' e sz (xs ++ news)))) : SL P N w0 ops Q (⟨dst, .call { callee := .builtin .append, args := #[s, x], argTypes := #[t, t] }, ty, pos, after, none⟩ :: rest) E Γ H := by
  intro a w he hw
  obtain ⟨inf, zv, h1, h2, h3, h4, h5, h6, h7⟩ := elemI_ok he'
  have hown : w.ownsRow w0.heap.size e sz (.slice ao n cap) n xs := hw.mem hi
  obtain ⟨hl, hsrc⟩ := hn w hw
  have key : ∃ v' w', (Builtin.append_ #[t, t] ty #[.slice ao n cap, .slice bo m c]).run P w = .ok v' w' ∧ w'.ownsRow w0.heap.size e sz v' (n + m) (xs ++ news) ∧ w.grownBy w' (Value.slice ao n cap).ownBlock ∧
      (v'.ownBlock = (Value.slice ao n cap).ownBlock ∨ v'.ownBlock = some w.heap.size) := by
    rcases hsrc with rfl | ⟨ad, rfl, hc⟩
    · have hnews : news = [] := List.eq_nil_of_length_eq_zero (by simpa using hl)
      subst hnews
      cases bo with
      | none =>
        refine ⟨_, w, ?_, by simpa using hown, World.grownBy.refl w _, .inl rfl⟩
        rcases hown.2 with ⟨hv, h0⟩ | ⟨g, cap', cur, hv, _, _, hnc, _⟩
        · simp only [Value.slice.injEq] at hv
          obtain ⟨rfl, rfl, rfl⟩ := hv
          simp [Builtin.append_, run_underlying hu, sizeOf, typeInfo, h1, Builtin.lenOf, Builtin.firstCells]
        · simp only [Value.slice.injEq] at hv
          obtain ⟨rfl, _, rfl⟩ := hv
          simp [Builtin.append_, run_underlying hu, sizeOf, typeInfo, h1, Builtin.lenOf, Builtin.firstCells, hnc, storeCells]
      | some ad =>
        obtain ⟨v', w', g1, g2, g3, _, g5⟩ := run_append_own_at (P := P) w w0.heap.size t ty e inf zv sz bytes hu h1 h2 h3 h4 h6 (Nat.le_of_ble_eq_true hsz) _ n xs hown ad 0 c [] (by simp) (by simp) (by simp) hm hb hw.below.size
        exact ⟨v', w', g1, g2, g3, g5⟩
    · obtain ⟨v', w', g1, g2, g3, _, g5⟩ := run_append_own_at (P := P) w w0.heap.size t ty e inf zv sz bytes hu h1 h2 h3 h4 h6 (Nat.le_of_ble_eq_true hsz) _ n xs hown ad m c news hl hc (fun u hu => List.all_eq_true.1 h1c u hu) hm hb hw.below.size
      exact ⟨v', w', g1, g2, g3, g5⟩
  obtain ⟨v', w', hrun, g2, g3, g5⟩ := key
  have hshape : ∃ ao' cap', v' = .slice ao' (n + m) cap' := by
    rcases g2.2 with ⟨hv, h0⟩ | ⟨g, cap', cur, hv, _⟩
    · exact ⟨none, 0, by rw [hv, h0]⟩
    · exact ⟨_, cap', hv⟩
  obtain ⟨ao', cap', rfl⟩ := hshape
  refine wpList_plain rfl fun K hK => ?_
  unfold Oper.wp
  have hex : (execOp a.eval (⟨dst, .call { callee := .builtin .append, args := #[s, x], argTypes := #[t, t] }, ty, pos, after, none⟩ : Oper)).run P w = .ok (.value (.slice ao' (n + m) cap')) w' := by
    simp [execOp, resolve, invoke, builtin, ev_ok he hs (gval_zero Γ), ev_ok he hx (gval_zero Γ), hrun]
  rw [hex]
  simp only [Oper.upon, hd]
  refine hK _ _ (h ao' cap' _ _ (he.put hN (Nat.zero_le _) (by rw [gval_zero]; rfl)) ?_)
  have hob : ∀ (a : Option Addr) (k c : Nat) (b : Nat), (Value.slice a k c).ownBlock = some b ↔ a.map (·.block) = some b := by
    intro a k c b; cases a <;> simp [Value.ownBlock]
  refine hw.change hi g3.size g3.os g3.tape g3.output (fun b hbb hnb => g3.block b hbb (fun e => hnb ?_)) g2 (fun b hfb => ?_)
  · exact (hob ao n cap b).1 e.symm
  · have hfb' := (hob ao' (n + m) cap' b).2 hfb
    rcases g5 with g5 | g5
    · rw [g5] at hfb'; exact .inl ((hob ao n cap b).1 hfb')
    · rw [g5] at hfb'; injection hfb' with hfb'; exact .inr (by omega)
/-! ### rows: lists of data of one make -/
section rows
variable {α : Type} [Inhabited α]
def cellsOf (enc : α → List Value) (l : List α) : List Value := l.flatMap enc
def rowsF (enc : α → List Value) (l : List α) (i j : Nat) : Value := (enc (nth l i)).getD j undef
theorem cellsOf_append (enc : α → List Value) (l k : List α) : cellsOf enc (l ++ k) = cellsOf enc l ++ cellsOf enc k := by simp [cellsOf]
theorem cellsOf_one (enc : α → List Value) (x : α) : cellsOf enc [x] = enc x := by simp [cellsOf]
theorem cellsOf_length {enc : α → List Value} {sz : Nat} (he : ∀ x, (enc x).length = sz) (l : List α) : (cellsOf enc l).length = l.length * sz := by
  induction l with
  | nil => simp [cellsOf]
  | cons x r ih => rw [show x :: r = [x] ++ r from rfl, cellsOf_append, cellsOf_one, List.length_append, ih, he, List.length_append, Nat.add_mul]; simp
theorem cellsOf_get {enc : α → List Value} {sz : Nat} (he : ∀ x, (enc x).length = sz) : ∀ (l : List α) (i j : Nat), i < l.length → j < sz → (cellsOf enc l)[i * sz + j]? = some (rowsF enc l i j) := by
  intro l
  induction l with
  | nil => intro i j h; simp at h
  | cons x r ih =>
    intro i j hi hj
    rw [show x :: r = [x] ++ r from rfl, cellsOf_append, cellsOf_one]
    cases i with
    | zero =>
      have hx : j < (enc x).length := by rw [he]; exact hj
      rw [List.getElem?_append_left (by rw [he]; omega)]
      simp only [Nat.zero_mul, Nat.zero_add]
      show _ = some ((enc x).getD j undef)
      rw [List.getD_eq_getElem?_getD, List.getElem?_eq_getElem hx]; rfl
    | succ i =>
      rw [List.getElem?_append_right (by rw [he, Nat.succ_mul]; omega), he, show (i + 1) * sz + j - sz = i * sz + j from by rw [Nat.succ_mul]; omega]
      exact ih i j (by simpa using hi) hj
theorem SliceIn.rows {w : World} {base n cap sz : Nat} {ao : Option Addr} {t : TypeId} {enc : α → List Value} {l : List α} (hg : w.ownsRow base t sz (.slice ao n cap) n (cellsOf enc l)) (he : ∀ x, (enc x).length = sz) (hn : n ≤ l.length) : SliceIn w sz ao n cap (rowsF enc l) :=
  SliceIn.of_own hg fun i hi j hj => cellsOf_get he l i j (by omega) hj
end rows
def encI (n : Int) : List Value := [.int .i64 n]
theorem encI_len (n : Int) : (encI n).length = 1 := rfl
theorem cellsOf_encI (l : List Int) : cellsOf encI l = l.map (Value.int .i64) := by
  induction l with
  | nil => rfl
  | cons x r ih => simp only [cellsOf, List.flatMap_cons, List.map_cons] at *; rw [ih]; rfl

theorem SrcIs.in_ {α : Type} [Inhabited α] {enc : α → List Value} {l : List α} {sz n cap : Nat} {ao : Option Addr} (h : SliceIn w0 sz ao n cap (rowsF enc l)) (he : ∀ x, (enc x).length = sz) (hn : n = l.length) : ∀ w, HeapOk w0 H w → SrcIs w ao n sz (cellsOf enc l) := by
  intro w hw
  refine ⟨by rw [cellsOf_length he, hn], ?_⟩
  rcases h.there with h0 | ⟨a, rfl, hsp⟩
  · exact .inl h0
  · refine .inr ⟨a, rfl, fun j u hj => ?_⟩
    have hjl := (List.getElem?_eq_some_iff.1 hj).1
    rw [cellsOf_length he] at hjl
    have hsz : 0 < sz := by
      rcases Nat.eq_zero_or_pos sz with h0 | h0
      · rw [h0] at hjl; simp at hjl
      · exact h0
    have h1 : j / sz < l.length := Nat.div_lt_of_lt_mul (by rw [Nat.mul_comm]; exact hjl)
    have h2 := Nat.mod_lt j hsz
    have h3 := Nat.div_add_mod j sz
    have hc := (CellIs.in_ (H := H) h (j / sz) (j % sz) (by omega) h2) w hw
    have hg := cellsOf_get he l (j / sz) (j % sz) h1 h2
    rw [show j / sz * sz + j % sz = j from by rw [Nat.mul_comm]; exact h3, hj] at hg
    injection hg with hg
    subst hg
    obtain ⟨b, o, s⟩ := a
    simp only at hsp
    subst hsp
    rw [add_lit, ← hc]
    simp only [blk, off]
    congr 2
    rw [Nat.add_assoc, Nat.mul_comm (j / sz), h3]
theorem all_one_cells {α : Type} {enc : α → List Value} (he : ∀ x, (enc x).all (·.oneCell') = true) (l : List α) : (cellsOf enc l).all (·.oneCell') = true := by
  rw [List.all_eq_true]
  intro v hv
  obtain ⟨x, _, hx⟩ := List.mem_flatMap.1 hv
  exact List.all_eq_true.1 (he x) v hx
theorem SL.buildSlice0 {dst : Option Tmp} {t ty e : TypeId} {sz bytes : Nat} {pos : String} {after : Array Edge} {d : Nat} {z : List Value} (hd : dst = some d) (hN : Nat.blt d N = true)
    (hu : P.underlying t = some (.slice e)) (he' : elemI P e = some (sz, z, bytes))
    (h : ∀ b, w0.heap.size ≤ b → SL P N w0 ops Q rest ((d, 0, .slice (some ⟨b, 0, none⟩) 0 0) :: E) Γ (H ++ [.own w0.heap.size (some ⟨b, 0, none⟩) 0 0 e sz []])) : SL P N w0 ops Q (⟨dst, .buildSlice t 0 #[], ty, pos, after, none⟩ :: rest) E Γ H := by
  intro a w he hw
  obtain ⟨i, zv, h1, h2, h3, h4, h5, h6, h7⟩ := elemI_ok he'
  refine wpList_plain rfl fun K hK => ?_
  have hr : (execOp a.eval (⟨dst, .buildSlice t 0 #[], ty, pos, after, none⟩ : Oper)).run P w = .ok (.value (.slice (some ⟨w.heap.size, 0, none⟩) 0 0)) (w.alloc (.cells #[] e)) := by
    simp [execOp, Instr.buildSlice, run_underlying hu, sizeOf, typeInfo, h1, Instr.fill, newRow]
    have h0 : (Array.map (fun _ => (default : Value)) (Array.range 0)) = #[] := by apply Array.eq_empty_of_size_eq_zero; simp
    rw [h0]
  unfold Oper.wp
  rw [hr]
  simp only [Oper.upon, hd]
  exact hK _ _ (h w.heap.size hw.below.size _ _ (he.put hN (Nat.zero_le _) (by rw [gval_zero]; rfl)) (hw.addown (cs := []) (by simp) (by simp [maxLen])))
/-- a store into a block of the call's own, at an offset that is reckoned -/
theorem SL.storeat {dst : Option Tmp} {e : TypeId} {x y : Operand} {ty : TypeId} {pos : String} {after : Array Edge} {b o : Nat} {cs : List Value} {t : TypeId} {v : Value} (i : Nat) (hd : dst = none) (hx : ev E Γ 0 x = some (.pointer (some ⟨b, o, none⟩))) (hy : ev E Γ 0 y = some v)
    (hi : H[i]? = some (.cells b cs t)) (hsz : (P.info? e).map (·.size) = some 1) (h1 : v.oneCell' = true) (hlen : o < cs.length)
    (h : SL P N w0 ops Q rest E Γ (H.set i (.cells b (cs.set o v) t))) : SL P N w0 ops Q (⟨dst, .store e x y, ty, pos, after, none⟩ :: rest) E Γ H := by
  have hv : vcells v = [v] := by cases v <;> first | rfl | simp [Value.oneCell'] at h1
  refine SL.store i hd hx hy hi (by rw [hv]; exact hsz) (by rw [hv]; exact Nat.ble_eq_true_of_le (by simp; omega)) (by rw [hv]; simp [h1]) ?_
  rw [hv]
  exact h
theorem setAll_take (vs : List Value) : ∀ (cs : List Value) (o m : Nat), (setAll cs o vs).take m = setAll (cs.take m) o vs := by
  induction vs with
  | nil => intro cs o m; rfl
  | cons v r ih => intro cs o m; simp only [setAll]; rw [ih, List.take_set]
/-- a store of a whole element into a slice of the call's own -/
theorem SL.storerow {dst : Option Tmp} {e : TypeId} {x y : Operand} {ty : TypeId} {pos : String} {after : Array Edge} {base n cap sz k j : Nat} {ao : Option Addr} {xs : List Value} {t : TypeId} {v : Value} (i : Nat) (hd : dst = none) (hx : ev E Γ 0 x = some (.pointer (some ⟨blk ao, off ao + k * sz + j, none⟩))) (hy : ev E Γ 0 y = some v)
    (hi : H[i]? = some (.own base ao n cap t sz xs)) (hsz : (P.info? e).map (·.size) = some (vcells v).length) (hlen : k * sz + j + (vcells v).length ≤ xs.length) (h1 : (vcells v).all (·.oneCell') = true)
    (h : SL P N w0 ops Q rest E Γ (H.set i (.own base ao n cap t sz (setAll xs (k * sz + j) (vcells v))))) : SL P N w0 ops Q (⟨dst, .store e x y, ty, pos, after, none⟩ :: rest) E Γ H := by
  intro a w he hw
  refine wpList_plain rfl fun K hK => ?_
  have hown : w.ownsRow base t sz (.slice ao n cap) n xs := hw.mem hi
  have hown' := hown
  obtain ⟨hl, hor⟩ := hown
  obtain ⟨inf, hinf, hs⟩ := Option.map_eq_some_iff.1 hsz
  rcases hor with ⟨hv, h0⟩ | ⟨g, cap', cur, hv, hbase, hh, hn, hc, hcs, htake⟩
  · have hxs : xs = [] := by rw [h0] at hl; simpa using hl
    subst hxs
    have hz : vcells v = [] := List.eq_nil_of_length_eq_zero (Nat.le_zero.1 (Nat.le_trans (Nat.le_add_left _ _) hlen))
    have hr : (execOp a.eval (⟨dst, .store e x y, ty, pos, after, none⟩ : Oper)).run P w = .ok .skip w := by
      simp [execOp, Instr.storeAt, Instr.sureAddr, ev_ok he hx (gval_zero Γ), ev_ok he hy (gval_zero Γ), storeVar, sizeOf, typeInfo, hinf, hs, vcells_eq, hz, storeCells]
    unfold Oper.wp
    rw [hr]
    simp only [Oper.upon, hd, Act.put_none]
    refine hK _ _ (h _ _ he ?_)
    rw [hz]
    have hlt : i < H.length := (List.getElem?_eq_some_iff.1 hi).1
    have hx2 := (List.getElem?_eq_some_iff.1 hi).2
    have : H.set i (.own base ao n cap t sz (setAll [] (k * sz + j) [])) = H := by
      show H.set i (.own base ao n cap t sz []) = H
      rw [← hx2, List.set_getElem_self]
    rw [this]; exact hw
  · simp only [Value.slice.injEq, true_and] at hv
    obtain ⟨rfl, rfl⟩ := hv
    obtain ⟨o, rfl⟩ : ∃ o, o = k * sz + j := ⟨_, rfl⟩
    have hx : ev E Γ 0 x = some (.pointer (some ⟨g, k * sz + j, none⟩)) := by rw [hx]; simp [blk, off, Nat.add_assoc]
    generalize k * sz + j = o at *
    have hmul : n * sz ≤ cap * sz := Nat.mul_le_mul_right sz hn
    obtain ⟨w', g1, g2, g3, g4, g5, g6, g7⟩ := run_storeCells_own (P := P) g t (vcells v) o 0 cur.toList w (by simpa using hh) (by simp [hcs]; omega) (fun u hu => (List.all_eq_true.1 h1) u hu)
    have hr : (execOp a.eval (⟨dst, .store e x y, ty, pos, after, none⟩ : Oper)).run P w = .ok .skip w' := by
      simp [execOp, Instr.storeAt, Instr.sureAddr, ev_ok he hx (gval_zero Γ), ev_ok he hy (gval_zero Γ), storeVar, sizeOf, typeInfo, hinf, hs, vcells_eq, g1]
    unfold Oper.wp
    rw [hr]
    simp only [Oper.upon, hd, Act.put_none]
    refine hK _ _ (h _ _ he ?_)
    refine hw.change hi (by omega) g4 g5 g6 (fun k _ hk => g7 k (fun e => hk (by subst e; rfl))) ?_ (fun k hk => .inl hk)
    refine ⟨by rw [setAll_length]; simpa using hl, Or.inr ⟨g, cap, _, rfl, hbase, g2, hn, hc, by simp [setAll_length, hcs], ?_⟩⟩
    subst htake
    simp only [Nat.add_zero, List.toList_toArray]
    rw [setAll_take]

/-! ### results that lie in memory -/
def RV (P : Program) (N : Nat) (w0 : World) (E : Env) (Γ : Gds) (H : Heap) (r : ResultVar) (v : Value) : Prop := ∀ a w, EnvOk N E Γ a → HeapOk w0 H w →
  (match r with
    | .tmp t => (pure (a.tmps.getD t undef) : Sem Value)
    | .cell x t => do loadVar t (← asAddr (a.tmps.getD x undef))).run P w = .ok v w
theorem RV.tmp {t : Tmp} {v : Value} (hv : ev E Γ 0 (.tmp t) = some v) : RV P N w0 E Γ H (.tmp t) v := by
  intro a w he hw
  have : a.tmps.getD t undef = v := ev_ok he hv (gval_zero Γ)
  simp [← this]
theorem RV.cell {x : Tmp} {t : TypeId} {d : TypeDesc} {A : Addr} {vs : List Value} (hx : ev E Γ 0 (.tmp x) = some (.pointer (some A))) (ht : P.underlying t = some d) (hd : aggB d = true) (hv : RowIs w0 H A vs) (hsz : (P.info? t).map (·.size) = some vs.length) : RV P N w0 E Γ H (.cell x t) (.agg vs.toArray) := by
  intro a w he hw
  have h1 : a.tmps.getD x undef = .pointer (some A) := ev_ok he hx (gval_zero Γ)
  obtain ⟨i, hi, hz'⟩ := Option.map_eq_some_iff.1 hsz
  have hagg : (isAgg t).run P w = .ok true w := by
    unfold isAgg
    rw [Sem.run_bind, run_underlying ht w]
    cases d <;> simp_all [aggB]
  have hl := run_loadCells_list (P := P) w A vs (fun j v hj => hv j v hj w hw)
  simp only [h1]
  simp [asAddr, loadVar, hagg, sizeOf, typeInfo, hi, hz', hl]
def RVs (P : Program) (N : Nat) (w0 : World) (E : Env) (Γ : Gds) (H : Heap) : List ResultVar → List Value → Prop
  | [], [] => True
  | r :: rs, v :: vs => RV P N w0 E Γ H r v ∧ RVs P N w0 E Γ H rs vs
  | _, _ => False
theorem RVs.run : ∀ {rs : List ResultVar} {vs : List Value}, RVs P N w0 E Γ H rs vs → ∀ a w, EnvOk N E Γ a → HeapOk w0 H w →
    (rs.mapM (m := Sem) fun
      | .tmp t => pure (a.tmps.getD t undef)
      | .cell x t => do loadVar t (← asAddr (a.tmps.getD x undef))).run P w = .ok vs w := by
  intro rs
  induction rs with
  | nil => intro vs h a w _ _; cases vs <;> simp [RVs] at h; simp
  | cons r rs ih =>
    intro vs h a w he hw
    cases vs with
    | nil => simp [RVs] at h
    | cons v vs =>
      obtain ⟨h1, h2⟩ := h
      have e1 := h1 a w he hw
      have e2 := ih h2 a w he hw
      rw [List.mapM_cons]
      cases r with
      | tmp t =>
        simp only at e1
        simp only [Sem.run_bind, e1, Result.andThen_ok, e2, Sem.run_pure]
      | cell x t =>
        simp only at e1
        rw [Sem.run_bind, e1]
        simp only [Result.andThen_ok, Sem.run_bind, e2, Sem.run_pure]
def retVal : List Value → Value
  | [v] => v
  | vs => .tuple vs.toArray
theorem QX.retv {fn : Func} {R : Value → World → Prop} {rs : List ResultVar} {vs : List Value} (hr : fn.results = rs.toArray) (hv : RVs P N w0 E Γ H rs vs) (h : ∀ w, HeapOk w0 H w → R (retVal vs) w) : QX N w0 (bodyPost P fn (FnPost w0 R)) .ret E Γ H := by
  intro a w he hw
  have e := hv.run a w he hw
  refine ⟨he.defers, retVal vs, ?_, ⟨_, rfl, hw.below, h w hw⟩⟩
  unfold results
  rw [hr]
  simp only [List.mapM_toArray]
  rw [Sem.run_bind, Sem.run_map]
  erw [e]
  simp only [Result.andThen_ok]
  rcases vs with _ | ⟨v, _ | ⟨u, r⟩⟩ <;> simp [retVal]

/-! ### a call that hands back a slice of new memory -/
theorem ownsRow_weaken {w : World} {b b' : Nat} {t : TypeId} {sz n : Nat} {v : Value} {xs : List Value} (h : w.ownsRow b t sz v n xs) (hb : b' ≤ b) : w.ownsRow b' t sz v n xs := by
  refine ⟨h.1, ?_⟩
  rcases h.2 with h2 | ⟨g, cap, cur, hv, hg, r⟩
  · exact .inl h2
  · exact .inr ⟨g, cap, cur, hv, by omega, r⟩
theorem SL.callo {o : Oper} {d f : Nat} {x : Operand} {xs : Array Operand} {ts : Array TypeId} {vs : List Value} {n sz : Nat} {t : TypeId} {cs : List Value} (V : Option Addr → Nat → Value) (ho : o.op = .call { callee := .value x, args := xs, argTypes := ts }) (hg : o.guard = none) (hd : o.dst = some d) (hN : Nat.blt d N = true)
    (hx : ev E Γ 0 x = some (.func (.func f) #[] #[])) (hxs : evs E Γ 0 xs.toList = some vs) (hf : callable P f = true)
    (hC : ∀ w, HeapOk w0 H w → FnC P f vs w fun v w' => ∃ ao cap, v = V ao cap ∧ w'.ownsRow w.heap.size t sz (.slice ao n cap) n cs)
    (h : ∀ ao cap, SL P N w0 ops Q rest ((d, 0, V ao cap) :: E) Γ (H ++ [.own w0.heap.size ao n cap t sz cs])) : SL P N w0 ops Q (o :: rest) E Γ H :=
  SL.call (R := fun w v w' => ∃ ao cap, v = V ao cap ∧ w'.ownsRow w.heap.size t sz (.slice ao n cap) n cs) ho hg hd hN hx hxs hf hC fun v w w' hw hw' hb ⟨ao, cap, hv, hown⟩ =>
    ⟨_, hw.add (x := .own w0.heap.size ao n cap t sz cs) hb (ownsRow_weaken hown hw.below.size) (fun b hb' => (hown.lt b (by
      cases ao with
      | none => cases hb'
      | some a =>
        have h1 : (some a : Option Addr).map (·.block) = some b := hb'
        simpa [Value.ownBlock] using h1)).1), by rw [hv]; exact h ao cap⟩
end Go.Proofs.Ytblmafknmeicfaa.Eng
