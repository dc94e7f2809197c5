/-
  One lemma for each kind of operation, over the engine's frames and memory. Of no program.
-/
import Derived.Test.YtblmafknmeicfaaEng
import Derived.Laws.StructEq
namespace Go.Proofs.Ytblmafknmeicfaa.Eng
open Go Go.RowKit
set_option linter.unusedVariables false
set_option linter.unusedSimpArgs false
set_option linter.unusedSectionVars false
variable {P : Program} {N : Nat} {w0 : World} {Q : Exit → Act → World → Prop} {E : Env} {Γ : Gds} {H : Heap} {ops : Array Oper} {rest : List Oper}

/-! ### steps -/
theorem SL.pure {o : Oper} {d : Nat} {v : Value} (hg : o.guard = none) (hd : o.dst = some d) (hN : Nat.blt d N = true) (hp : PureOp P N w0 E Γ H 0 o v)
    (h : SL P N w0 ops Q rest ((d, 0, v) :: E) Γ H) : SL P N w0 ops Q (o :: rest) E Γ H := by
  intro a w he hw
  refine wpList_plain hg fun K hK => ?_
  unfold Oper.wp
  rw [hp a w he hw (gval_zero Γ)]
  simp only [Oper.upon, hd]
  exact hK _ _ (h _ _ (he.put hN (Nat.zero_le _) (by rw [gval_zero]; rfl)) hw)

theorem wanted_eq {a : Act} (he : EnvOk N E Γ a) {o : Oper} {j : Nat} {want : Bool} (hg : o.guard = some (j, want)) {t : Nat} (hj : (ops[j]?).bind (·.dst) = some t) {k : Nat} {b : Bool} (hl : look E t = some (k, .bool b)) (ht : Nat.blt t N = true) :
    Region.wanted o (yielded ops a.tmps) = (gval Γ k && (b == want)) := by
  have htN : t < N := Nat.le_of_ble_eq_true ht
  have h2 := (he.at_ t k _ hl).2
  have hs := he.size
  have hget : a.tmps[t]? = some (bif gval Γ k then .bool b else undef) := by
    rw [← h2, Array.getD_eq_getD_getElem?]
    rw [Array.getElem?_eq_getElem (by omega)]
    rfl
  unfold Region.wanted yielded
  simp only [hg, hj, Option.bind_some, hget]
  cases hk : gval Γ k with
  | true => simp
  | false => simp [undef]

/-- a new guard: where slot t (a Bool) is as wanted -/
theorem SL.newg {o : Oper} (t : Nat) {k : Nat} {b : Bool} (want : Bool) (hl : look E t = some (k, .bool b)) (h : SL P N w0 ops Q (o :: rest) E ((k, b == want) :: Γ) H) : SL P N w0 ops Q (o :: rest) E Γ H :=
  fun a w he hw => h a w (he.grow _) hw
/-- an operation under a guard -/
theorem SL.gpure {o : Oper} {j : Nat} {want : Bool} {d t c k : Nat} {b : Bool} {v : Value} (hg : o.guard = some (j, want)) (hd : o.dst = some d) (hN : Nat.blt d N = true)
    (hj : (ops[j]?).bind (·.dst) = some t) (ht : Nat.blt t N = true) (hl : look E t = some (k, .bool b)) (hc : gget Γ c = some (k, b == want)) (hp : PureOp P N w0 E Γ H c o v)
    (h : SL P N w0 ops Q rest ((d, c, v) :: E) Γ H) : SL P N w0 ops Q (o :: rest) E Γ H := by
  intro a w he hw
  obtain ⟨hv, hle⟩ := gget_ok hc
  refine wpList_step fun K hK => ?_
  rw [wanted_eq he hg hj hl ht, ← hv]
  cases hgv : gval Γ c with
  | true =>
    simp only [if_true]
    unfold Oper.wp
    rw [hp a w he hw hgv]
    simp only [Oper.upon, hd]
    exact hK _ _ (h _ _ (he.put hN hle (by rw [hgv]; rfl)) hw)
  | false =>
    simp only [Bool.false_eq_true, if_false, hd]
    exact hK _ _ (h _ _ (he.put hN hle (by rw [hgv]; rfl)) hw)

variable {QA : Act → Prop}
theorem SQ.pure {o : Oper} {d : Nat} {v : Value} (hg : o.guard = none) (hd : o.dst = some d) (hN : Nat.blt d N = true) (hp : PureOp P N w0 E Γ H 0 o v)
    (h : SQ P N w0 H ops QA rest ((d, 0, v) :: E) Γ) : SQ P N w0 H ops QA (o :: rest) E Γ := by
  intro a he
  refine wpQuiet_step fun K hK => ?_
  simp only [Region.wanted, hg, if_true]
  refine ⟨v, fun w hw => ?_, hK _ ?_⟩
  · unfold Oper.quietAt; rw [hp a w he hw (gval_zero Γ)]; exact ⟨rfl, rfl⟩
  · rw [hd]; exact h _ (he.put hN (Nat.zero_le _) (by rw [gval_zero]; rfl))
theorem SQ.newg {o : Oper} (t : Nat) {k : Nat} {b : Bool} (want : Bool) (hl : look E t = some (k, .bool b)) (h : SQ P N w0 H ops QA (o :: rest) E ((k, b == want) :: Γ)) : SQ P N w0 H ops QA (o :: rest) E Γ :=
  fun a he => h a (he.grow _)
theorem SQ.gpure {o : Oper} {j : Nat} {want : Bool} {d t c k : Nat} {b : Bool} {v : Value} (hg : o.guard = some (j, want)) (hd : o.dst = some d) (hN : Nat.blt d N = true)
    (hj : (ops[j]?).bind (·.dst) = some t) (ht : Nat.blt t N = true) (hl : look E t = some (k, .bool b)) (hc : gget Γ c = some (k, b == want)) (hp : PureOp P N w0 E Γ H c o v)
    (h : SQ P N w0 H ops QA rest ((d, c, v) :: E) Γ) : SQ P N w0 H ops QA (o :: rest) E Γ := by
  intro a he
  obtain ⟨hv, hle⟩ := gget_ok hc
  refine wpQuiet_step fun K hK => ?_
  rw [wanted_eq he hg hj hl ht, ← hv]
  cases hgv : gval Γ c with
  | true =>
    simp only [if_true]
    refine ⟨v, fun w hw => ?_, hK _ ?_⟩
    · unfold Oper.quietAt; rw [hp a w he hw hgv]; exact ⟨rfl, rfl⟩
    · rw [hd]; exact h _ (he.put hN hle (by rw [hgv]; rfl))
  | false =>
    simp only [Bool.false_eq_true, if_false, hd]
    exact hK _ (h _ (he.put hN hle (by rw [hgv]; rfl)))

/-! ### calls of Go functions -/
def callable (P : Program) (f : Nat) : Bool := match P.funcs[f]? with
  | some fn => fn.name != "runtime.NumGoroutine" && fn.body.isSome
  | none => false
theorem run_callFunc {f : Nat} (hf : callable P f = true) (args : Array Value) (w : World) : (callFunc f args).run P w = .ok (.enter f args) w := by
  unfold callable at hf
  cases h : P.funcs[f]? with
  | none => simp [h] at hf
  | some fn =>
    simp only [h, Bool.and_eq_true, bne_iff_ne] at hf
    obtain ⟨h1, h2⟩ := hf
    have h3 : ¬ fn.body = none := by intro hb; simp [hb] at h2
    simp [callFunc, h, h1, h3]
theorem run_call {a : Act} {w : World} {o : Oper} {x : Operand} {xs : Array Operand} {ts : Array TypeId} {f : Nat} {vs : List Value} {fst cap : Array Value} (ho : o.op = .call { callee := .value x, args := xs, argTypes := ts }) (hf : callable P f = true)
    (hx : a.eval x = .func (.func f) fst cap) (hxs : xs.toList.map a.eval = vs) : (execOp a.eval o).run P w = .ok (.enter f (fst ++ vs.toArray ++ cap)) w := by
  have : xs.map a.eval = vs.toArray := by rw [← hxs]; exact Array.toList_inj.1 (by simp)
  unfold execOp
  simp [ho, resolve, Deferred.ofValue, hx, this, invoke, run_callFunc hf]

theorem SL.call {o : Oper} {d f : Nat} {x : Operand} {xs : Array Operand} {ts : Array TypeId} {vs : List Value} {R : World → Value → World → Prop} (ho : o.op = .call { callee := .value x, args := xs, argTypes := ts }) (hg : o.guard = none) (hd : o.dst = some d) (hN : Nat.blt d N = true)
    (hx : ev E Γ 0 x = some (.func (.func f) #[] #[])) (hxs : evs E Γ 0 xs.toList = some vs) (hf : callable P f = true)
    (hC : ∀ w, HeapOk w0 H w → FnC P f vs w (R w))
    (h : ∀ v w w', HeapOk w0 H w → HeapOk w0 H w' → Below w.heap.size w w' → R w v w' → ∃ H', HeapOk w0 H' w' ∧ SL P N w0 ops Q rest ((d, 0, v) :: E) Γ H') : SL P N w0 ops Q (o :: rest) E Γ H := by
  intro a w he hw
  refine wpList_plain hg fun K hK => ?_
  unfold Oper.wp
  rw [run_call ho hf (ev_ok he hx (gval_zero Γ)) (evs_ok he (gval_zero Γ) hxs)]
  simp only [Oper.upon]
  have hc := hC w hw
  unfold FnC at hc
  rw [show (#[] ++ vs.toArray ++ #[] : Array Value) = vs.toArray from by simp]
  refine hc.mono ?_
  rintro e w' ⟨v, rfl, hb, hr⟩
  obtain ⟨H', h1, h2⟩ := h v w w' hw (hw.below_keep hb) hb hr
  simp only [hd]
  exact hK _ _ (h2 _ _ (he.put hN (Nat.zero_le _) (by rw [gval_zero]; rfl)) h1)
/-- a call whose result is a plain value -/
theorem SL.callv {o : Oper} {d f : Nat} {x : Operand} {xs : Array Operand} {ts : Array TypeId} {vs : List Value} {R : Value → Prop} (ho : o.op = .call { callee := .value x, args := xs, argTypes := ts }) (hg : o.guard = none) (hd : o.dst = some d) (hN : Nat.blt d N = true)
    (hx : ev E Γ 0 x = some (.func (.func f) #[] #[])) (hxs : evs E Γ 0 xs.toList = some vs) (hf : callable P f = true)
    (hC : ∀ w, HeapOk w0 H w → FnC P f vs w fun v _ => R v)
    (h : ∀ v, R v → SL P N w0 ops Q rest ((d, 0, v) :: E) Γ H) : SL P N w0 ops Q (o :: rest) E Γ H :=
  SL.call (R := fun _ v _ => R v) ho hg hd hN hx hxs hf hC fun v _ w' _ hw' _ hr => ⟨H, hw', h v hr⟩
/-- .. and known -/
theorem SL.calle {o : Oper} {d f : Nat} {x : Operand} {xs : Array Operand} {ts : Array TypeId} {vs : List Value} {u : Value} (ho : o.op = .call { callee := .value x, args := xs, argTypes := ts }) (hg : o.guard = none) (hd : o.dst = some d) (hN : Nat.blt d N = true)
    (hx : ev E Γ 0 x = some (.func (.func f) #[] #[])) (hxs : evs E Γ 0 xs.toList = some vs) (hf : callable P f = true)
    (hC : ∀ w, HeapOk w0 H w → FnC P f vs w fun v _ => v = u)
    (h : SL P N w0 ops Q rest ((d, 0, u) :: E) Γ H) : SL P N w0 ops Q (o :: rest) E Γ H :=
  SL.callv ho hg hd hN hx hxs hf hC fun v hr => by rw [hr]; exact h
/-- a call whose result comes with memory of its own: new items -/
theorem SL.callm {o : Oper} {d f : Nat} {x : Operand} {xs : Array Operand} {ts : Array TypeId} {vs : List Value} {σ : Type} {V : σ → Value} {I : σ → Prop} {M : World → σ → Item} {M' : σ → Item} (ho : o.op = .call { callee := .value x, args := xs, argTypes := ts }) (hg : o.guard = none) (hd : o.dst = some d) (hN : Nat.blt d N = true)
    (hx : ev E Γ 0 x = some (.func (.func f) #[] #[])) (hxs : evs E Γ 0 xs.toList = some vs) (hf : callable P f = true)
    (hC : ∀ w, HeapOk w0 H w → FnC P f vs w fun v w' => ∃ s, v = V s ∧ I s ∧ (M w s).ok w' ∧ ∀ b, (M w s).fp b → w.heap.size ≤ b)
    (hM : ∀ w s w', w0.heap.size ≤ w.heap.size → (M w s).ok w' → (M' s).ok w') (hF : ∀ w s b, (M' s).fp b → (M w s).fp b)
    (h : ∀ s, I s → SL P N w0 ops Q rest ((d, 0, V s) :: E) Γ (H ++ [M' s])) : SL P N w0 ops Q (o :: rest) E Γ H :=
  SL.call (R := fun w v w' => ∃ s, v = V s ∧ I s ∧ (M w s).ok w' ∧ ∀ b, (M w s).fp b → w.heap.size ≤ b) ho hg hd hN hx hxs hf hC fun v w w' hw hw' hb ⟨s, hv, hi, hm, hfp⟩ =>
    ⟨H ++ [M' s], hw.add hb (hM w s w' hw.below.size hm) (fun b hb' => hfp b (hF w s b hb')), by rw [hv]; exact h s hi⟩

theorem SL.gcalle {o : Oper} {j : Nat} {want : Bool} {d t c k f : Nat} {b : Bool} {x : Operand} {xs : Array Operand} {ts : Array TypeId} {vs : List Value} {u : Value} (ho : o.op = .call { callee := .value x, args := xs, argTypes := ts }) (hg : o.guard = some (j, want)) (hd : o.dst = some d) (hN : Nat.blt d N = true)
    (hj : (ops[j]?).bind (·.dst) = some t) (ht : Nat.blt t N = true) (hl : look E t = some (k, .bool b)) (hc : gget Γ c = some (k, b == want))
    (hx : ev E Γ c x = some (.func (.func f) #[] #[])) (hxs : evs E Γ c xs.toList = some vs) (hf : callable P f = true)
    (hC : gval Γ c = true → ∀ w, HeapOk w0 H w → FnC P f vs w fun v _ => v = u)
    (h : SL P N w0 ops Q rest ((d, c, u) :: E) Γ H) : SL P N w0 ops Q (o :: rest) E Γ H := by
  intro a w he hw
  obtain ⟨hv, hle⟩ := gget_ok hc
  refine wpList_step fun K hK => ?_
  rw [wanted_eq he hg hj hl ht, ← hv]
  cases hgv : gval Γ c with
  | true =>
    simp only [if_true]
    unfold Oper.wp
    rw [run_call ho hf (ev_ok he hx hgv) (evs_ok he hgv hxs)]
    simp only [Oper.upon]
    have hc := hC hgv w hw
    unfold FnC at hc
    rw [show (#[] ++ vs.toArray ++ #[] : Array Value) = vs.toArray from by simp]
    refine hc.mono ?_
    rintro e w' ⟨v, rfl, hb, rfl⟩
    simp only [hd]
    exact hK _ _ (h _ _ (he.put hN hle (by rw [hgv]; rfl)) (hw.below_keep hb))
  | false =>
    simp only [Bool.false_eq_true, if_false, hd]
    exact hK _ _ (h _ _ (he.put hN hle (by rw [hgv]; rfl)) hw)
theorem SQ.calle {o : Oper} {d f : Nat} {x : Operand} {xs : Array Operand} {ts : Array TypeId} {vs : List Value} {u : Value} (ho : o.op = .call { callee := .value x, args := xs, argTypes := ts }) (hg : o.guard = none) (hd : o.dst = some d) (hN : Nat.blt d N = true)
    (hx : ev E Γ 0 x = some (.func (.func f) #[] #[])) (hxs : evs E Γ 0 xs.toList = some vs) (hf : callable P f = true)
    (hC : ∀ w, HeapOk w0 H w → FnC P f vs w fun v _ => v = u)
    (h : SQ P N w0 H ops QA rest ((d, 0, u) :: E) Γ) : SQ P N w0 H ops QA (o :: rest) E Γ := by
  intro a he
  refine wpQuiet_step fun K hK => ?_
  simp only [Region.wanted, hg, if_true]
  refine ⟨u, fun w hw => ?_, hK _ ?_⟩
  · unfold Oper.quietAt
    rw [run_call ho hf (ev_ok he hx (gval_zero Γ)) (evs_ok he (gval_zero Γ) hxs)]
    have hc := hC w hw
    unfold FnC at hc
    rw [show (#[] ++ vs.toArray ++ #[] : Array Value) = vs.toArray from by simp]
    refine ⟨rfl, hc.mono ?_⟩
    rintro e w' ⟨v, rfl, hb, rfl⟩
    exact ⟨rfl, hw.below_keep hb⟩
  · rw [hd]; exact h _ (he.put hN (Nat.zero_le _) (by rw [gval_zero]; rfl))
theorem SQ.gcalle {o : Oper} {j : Nat} {want : Bool} {d t c k f : Nat} {b : Bool} {x : Operand} {xs : Array Operand} {ts : Array TypeId} {vs : List Value} {u : Value} (ho : o.op = .call { callee := .value x, args := xs, argTypes := ts }) (hg : o.guard = some (j, want)) (hd : o.dst = some d) (hN : Nat.blt d N = true)
    (hj : (ops[j]?).bind (·.dst) = some t) (ht : Nat.blt t N = true) (hl : look E t = some (k, .bool b)) (hc : gget Γ c = some (k, b == want))
    (hx : ev E Γ c x = some (.func (.func f) #[] #[])) (hxs : evs E Γ c xs.toList = some vs) (hf : callable P f = true)
    (hC : gval Γ c = true → ∀ w, HeapOk w0 H w → FnC P f vs w fun v _ => v = u)
    (h : SQ P N w0 H ops QA rest ((d, c, u) :: E) Γ) : SQ P N w0 H ops QA (o :: rest) E Γ := by
  intro a he
  obtain ⟨hv, hle⟩ := gget_ok hc
  refine wpQuiet_step fun K hK => ?_
  rw [wanted_eq he hg hj hl ht, ← hv]
  cases hgv : gval Γ c with
  | true =>
    simp only [if_true]
    refine ⟨u, fun w hw => ?_, hK _ ?_⟩
    · unfold Oper.quietAt
      rw [run_call ho hf (ev_ok he hx hgv) (evs_ok he hgv hxs)]
      have hc := hC hgv w hw
      unfold FnC at hc
      rw [show (#[] ++ vs.toArray ++ #[] : Array Value) = vs.toArray from by simp]
      refine ⟨rfl, hc.mono ?_⟩
      rintro e w' ⟨v, rfl, hb, rfl⟩
      exact ⟨rfl, hw.below_keep hb⟩
    · rw [hd]; exact h _ (he.put hN hle (by rw [hgv]; rfl))
  | false =>
    simp only [Bool.false_eq_true, if_false, hd]
    exact hK _ (h _ (he.put hN hle (by rw [hgv]; rfl)))

/-! ### new memory -/
theorem below_alloc (w : World) (x : Obj) : Below w.heap.size w (w.alloc x) := (Below.refl _ _).alloc (Nat.le_refl _) _
theorem SL.box {dst : Option Tmp} {e : TypeId} {x : Operand} {ty : TypeId} {pos : String} {after : Array Edge} {d : Nat} {v : Value} (hd : dst = some d) (hN : Nat.blt d N = true) (hx : ev E Γ 0 x = some v)
    (h : ∀ b, w0.heap.size ≤ b → SL P N w0 ops Q rest ((d, 0, .pointer (some ⟨b, 0, none⟩)) :: E) Γ (H ++ [.cells b (vcells v) e])) : SL P N w0 ops Q (⟨dst, .box e x, ty, pos, after, none⟩ :: rest) E Γ H := by
  intro a w he hw
  refine wpList_plain rfl fun K hK => ?_
  have hr : (execOp a.eval (⟨dst, .box e x, ty, pos, after, none⟩ : Oper)).run P w = .ok (.value (.pointer (some ⟨w.heap.size, 0, none⟩))) (w.alloc (.cells v.cells e)) := by
    simp [execOp, Instr.box, ev_ok he hx (gval_zero Γ), newVar, newRow]
  unfold Oper.wp
  rw [hr]
  simp only [Oper.upon, hd]
  refine hK _ _ (h w.heap.size hw.below.size _ _ (he.put hN (Nat.zero_le _) (by rw [gval_zero]; rfl)) ?_)
  exact hw.add (below_alloc w _) (by show (w.alloc _).heap[w.heap.size]? = _; rw [heap_alloc_new w _, vcells_eq]) (fun b hb => by have : b = w.heap.size := hb; omega)
theorem SL.alloc {dst : Option Tmp} {e : TypeId} {ty : TypeId} {pos : String} {after : Array Edge} {d : Nat} {z : Value} (hd : dst = some d) (hN : Nat.blt d N = true) (hz : (P.info? e).map (·.zero) = some (some z))
    (h : ∀ b, w0.heap.size ≤ b → SL P N w0 ops Q rest ((d, 0, .pointer (some ⟨b, 0, none⟩)) :: E) Γ (H ++ [.cells b (vcells z) e])) : SL P N w0 ops Q (⟨dst, .alloc e, ty, pos, after, none⟩ :: rest) E Γ H := by
  intro a w he hw
  refine wpList_plain rfl fun K hK => ?_
  obtain ⟨i, hi, hz'⟩ := Option.map_eq_some_iff.1 hz
  have hr : (execOp a.eval (⟨dst, .alloc e, ty, pos, after, none⟩ : Oper)).run P w = .ok (.value (.pointer (some ⟨w.heap.size, 0, none⟩))) (w.alloc (.cells z.cells e)) := by
    simp [execOp, Instr.alloc, newVar, newRow, zeroValue, typeInfo, hi, hz']
  unfold Oper.wp
  rw [hr]
  simp only [Oper.upon, hd]
  refine hK _ _ (h w.heap.size hw.below.size _ _ (he.put hN (Nat.zero_le _) (by rw [gval_zero]; rfl)) ?_)
  exact hw.add (below_alloc w _) (by show (w.alloc _).heap[w.heap.size]? = _; rw [heap_alloc_new w _, vcells_eq]) (fun b hb => by have : b = w.heap.size := hb; omega)

theorem Act.put_none (a : Act) (v : Value) : a.put none v = a := rfl
/-- a store into a block of the call's own (the whole of the value) -/
def setAll (cs : List Value) (o : Nat) : List Value → List Value
  | [] => cs
  | v :: r => setAll (cs.set o v) (o + 1) r
theorem run_storeCells_own (b : Nat) (t : TypeId) : ∀ (vs : List Value) (o i : Nat) (cs : List Value) (w : World), w.heap[b]? = some (.cells cs.toArray t (0, 0)) → o + i + vs.length ≤ cs.length → (∀ v ∈ vs, v.oneCell' = true) →
    ∃ w', (storeCells ⟨b, o, none⟩ vs i).run P w = .ok () w' ∧ w'.heap[b]? = some (.cells (setAll cs (o + i) vs).toArray t (0, 0)) ∧ w'.heap.size = w.heap.size ∧ w'.os = w.os ∧ w'.tape = w.tape ∧ w'.output = w.output ∧ ∀ k, k ≠ b → w'.heap[k]? = w.heap[k]? := by
  intro vs
  induction vs with
  | nil => intro o i cs w h _ _; exact ⟨w, by simp [storeCells], h, rfl, rfl, rfl, rfl, fun _ _ => rfl⟩
  | cons v r ih =>
    intro o i cs w h hl h1
    have hv : v.oneCell' = true := h1 v (List.mem_cons_self)
    have hc : w.cell? ⟨b, o + i, none⟩ = cs[o + i]? := by rw [cell_of_row w b (o + i) _ t (0, 0) h]; simp
    obtain ⟨u, hsome⟩ : ∃ u, cs[o + i]? = some u := ⟨_, List.getElem?_eq_getElem (by simp at hl; omega)⟩
    have hfr : w.frozen? ⟨b, o + i, none⟩ = false := frozen_of_row w b (o + i) _ t h
    have hset := heap_setCell_same w b (o + i) _ t v h
    rw [List.setIfInBounds_toArray] at hset
    obtain ⟨w', g1, g2, g3, g4, g5, g6, g7⟩ := ih o (i + 1) (cs.set (o + i) v) (w.setCell ⟨b, o + i, none⟩ v) hset (by simp at hl ⊢; omega) (fun u hu => h1 u (List.mem_cons_of_mem _ hu))
    refine ⟨w', ?_, g2, by simpa using g3, g4, by simpa using g5, g6, fun k hk => (g7 k hk).trans (heap_setCell_other w _ k v hk)⟩
    simp only [storeCells, add_lit, Sem.run_bind, run_store P w _ v .plain hv, hc, hsome, hfr]
    simpa using g1
theorem SL.store {dst : Option Tmp} {e : TypeId} {x y : Operand} {ty : TypeId} {pos : String} {after : Array Edge} {b o : Nat} {cs : List Value} {t : TypeId} {v : Value} (i : Nat) (hd : dst = none) (hx : ev E Γ 0 x = some (.pointer (some ⟨b, o, none⟩))) (hy : ev E Γ 0 y = some v)
    (hi : H[i]? = some (.cells b cs t)) (hsz : (P.info? e).map (·.size) = some (vcells v).length) (hlen : Nat.ble (o + (vcells v).length) cs.length = true) (h1 : (vcells v).all (·.oneCell') = true)
    (h : SL P N w0 ops Q rest E Γ (H.set i (.cells b (setAll cs o (vcells v)) t))) : SL P N w0 ops Q (⟨dst, .store e x y, ty, pos, after, none⟩ :: rest) E Γ H := by
  intro a w he hw
  refine wpList_plain rfl fun K hK => ?_
  have hb : w.heap[b]? = some (.cells cs.toArray t (0, 0)) := hw.mem hi
  have hle : o + (vcells v).length ≤ cs.length := Nat.le_of_ble_eq_true hlen
  obtain ⟨w', g1, g2, g3, g4, g5, g6, g7⟩ := run_storeCells_own (P := P) b t (vcells v) o 0 cs w hb (by simpa using hle) (fun u hu => (List.all_eq_true.1 h1) u hu)
  obtain ⟨inf, hinf, hs⟩ := Option.map_eq_some_iff.1 hsz
  have hr : (execOp a.eval (⟨dst, .store e x y, ty, pos, after, none⟩ : Oper)).run P w = .ok .skip w' := by
    simp [execOp, Instr.storeAt, Instr.sureAddr, ev_ok he hx (gval_zero Γ), ev_ok he hy (gval_zero Γ), storeVar, sizeOf, typeInfo, hinf, hs, vcells_eq, g1]
  unfold Oper.wp
  rw [hr]
  simp only [Oper.upon, hd, Act.put_none]
  refine hK _ _ (h _ _ he ?_)
  refine hw.change hi (by omega) g4 g5 g6 (fun k _ hk => g7 k hk) ?_ (fun k hk => .inl hk)
  show w'.heap[b]? = _
  simpa using g2
/-- a store of one cell into a slice of the call's own -/
theorem SL.storeown {dst : Option Tmp} {e : TypeId} {x y : Operand} {ty : TypeId} {pos : String} {after : Array Edge} {base n cap sz k j : Nat} {ao : Option Addr} {xs : List Value} {t : TypeId} {v : Value} (i : Nat) (hd : dst = none) (hx : ev E Γ 0 x = some (.pointer (some ⟨blk ao, off ao + k * sz + j, none⟩))) (hy : ev E Γ 0 y = some v)
    (hi : H[i]? = some (.own base ao n cap t sz xs)) (hsz : (P.info? e).map (·.size) = some 1) (hlen : k * sz + j < xs.length) (h1 : v.oneCell' = true)
    (h : SL P N w0 ops Q rest E Γ (H.set i (.own base ao n cap t sz (xs.set (k * sz + j) v)))) : SL P N w0 ops Q (⟨dst, .store e x y, ty, pos, after, none⟩ :: rest) E Γ H := by
  intro a w he hw
  refine wpList_plain rfl fun K hK => ?_
  have hown : w.ownsRow base t sz (.slice ao n cap) n xs := hw.mem hi
  obtain ⟨hl, hor⟩ := hown
  rcases hor with ⟨hv, h0⟩ | ⟨g, cap', cur, hv, hbase, hh, hn, hc, hcs, htake⟩
  · rw [h0] at hl; simp at hl; subst hl; simp at hlen
  · simp only [Value.slice.injEq, true_and] at hv
    obtain ⟨rfl, rfl⟩ := hv
    obtain ⟨o, rfl⟩ : ∃ o, o = k * sz + j := ⟨_, rfl⟩
    have hx : ev E Γ 0 x = some (.pointer (some ⟨g, k * sz + j, none⟩)) := by rw [hx]; simp [blk, off, Nat.add_assoc]
    generalize k * sz + j = o at *
    have hmul : n * sz ≤ cap * sz := Nat.mul_le_mul_right sz hn
    have hvc : v.cells = #[v] := by cases v <;> first | rfl | simp [Value.oneCell'] at h1
    obtain ⟨w', g1, g2, g3, g4, g5, g6, g7⟩ := run_storeCells_own (P := P) g t [v] o 0 cur.toList w (by simpa using hh) (by simp [hcs]; omega) (fun u hu => by simp at hu; subst hu; exact h1)
    obtain ⟨inf, hinf, hs⟩ := Option.map_eq_some_iff.1 hsz
    have hr : (execOp a.eval (⟨dst, .store e x y, ty, pos, after, none⟩ : Oper)).run P w = .ok .skip w' := by
      simp [execOp, Instr.storeAt, Instr.sureAddr, ev_ok he hx (gval_zero Γ), ev_ok he hy (gval_zero Γ), storeVar, sizeOf, typeInfo, hinf, hs, hvc, g1]
    unfold Oper.wp
    rw [hr]
    simp only [Oper.upon, hd, Act.put_none]
    refine hK _ _ (h _ _ he ?_)
    refine hw.change hi (by omega) g4 g5 g6 (fun k _ hk => g7 k (fun e => hk (by subst e; rfl))) ?_ (fun k hk => .inl hk)
    refine ⟨by simpa using hl, Or.inr ⟨g, cap, _, rfl, hbase, g2, hn, hc, by simp [setAll, hcs], ?_⟩⟩
    subst htake
    simp only [setAll, Nat.add_zero, List.toList_toArray]
    rw [List.take_set]

/-! ### operations without effect -/
theorem PureOp.move {c : Nat} {dst : Option Tmp} {x : Operand} {ty : TypeId} {pos : String} {after : Array Edge} {g : Option (Nat × Bool)} {v : Value} (hx : ev E Γ c x = some v) : PureOp P N w0 E Γ H c ⟨dst, .move x, ty, pos, after, g⟩ v :=
  fun a w he hw hc => by simp [execOp, ev_ok he hx hc]
theorem PureOp.assign {c : Nat} {dst : Option Tmp} {x : Operand} {ty : TypeId} {pos : String} {after : Array Edge} {g : Option (Nat × Bool)} {v : Value} (hx : ev E Γ c x = some v) : PureOp P N w0 E Γ H c ⟨dst, .assign x, ty, pos, after, g⟩ v :=
  fun a w he hw hc => by simp [execOp, ev_ok he hx hc]

/-- '&&' -/
theorem PureOp.and_ {c k g' : Nat} {dst : Option Tmp} {x : Operand} {t : Tmp} {ty : TypeId} {pos : String} {after : Array Edge} {g : Option (Nat × Bool)} {p q : Bool} (hx : ev E Γ c x = some (.bool p)) (ht : look E t = some (k, .bool q)) (hk : gget Γ k = some (g', p == true)) (hg : anc Γ c g' = true) :
    PureOp P N w0 E Γ H c ⟨dst, .pick x (.tmp t) (.const (.bool false)), ty, pos, after, g⟩ (.bool (p && q)) := by
  intro a w he hw hc
  have h1 := ev_ok he hx hc
  have h2 := (he.at_ t k _ ht).2
  rw [(gget_ok hk).1, anc_ok hg hc] at h2
  have h0 : a.eval (.const (.bool false)) = .bool false := rfl
  cases p with
  | false => simp [execOp, h1, asBool, h0]
  | true =>
    have h3 : a.eval (.tmp t) = .bool q := by simpa [Act.eval] using h2
    simp [execOp, h1, asBool, h3]
/-- '||' -/
theorem PureOp.or_ {c k g' : Nat} {dst : Option Tmp} {x : Operand} {t : Tmp} {ty : TypeId} {pos : String} {after : Array Edge} {g : Option (Nat × Bool)} {p q : Bool} (hx : ev E Γ c x = some (.bool p)) (ht : look E t = some (k, .bool q)) (hk : gget Γ k = some (g', p == false)) (hg : anc Γ c g' = true) :
    PureOp P N w0 E Γ H c ⟨dst, .pick x (.const (.bool true)) (.tmp t), ty, pos, after, g⟩ (.bool (p || q)) := by
  intro a w he hw hc
  have h1 := ev_ok he hx hc
  have h2 := (he.at_ t k _ ht).2
  rw [(gget_ok hk).1, anc_ok hg hc] at h2
  have h0 : a.eval (.const (.bool true)) = .bool true := rfl
  cases p with
  | true => simp [execOp, h1, asBool, h0]
  | false =>
    have h3 : a.eval (.tmp t) = .bool q := by simpa [Act.eval] using h2
    simp [execOp, h1, asBool, h3]
/-- '&&', '||' of operands that are there in any case -/
theorem PureOp.and0 {c : Nat} {dst : Option Tmp} {x y : Operand} {ty : TypeId} {pos : String} {after : Array Edge} {g : Option (Nat × Bool)} {p q : Bool} (hx : ev E Γ c x = some (.bool p)) (hy : ev E Γ c y = some (.bool q)) :
    PureOp P N w0 E Γ H c ⟨dst, .pick x y (.const (.bool false)), ty, pos, after, g⟩ (.bool (p && q)) := by
  intro a w he hw hc
  have h0 : a.eval (.const (.bool false)) = .bool false := rfl
  cases p <;> simp [execOp, ev_ok he hx hc, ev_ok he hy hc, asBool, h0]
theorem PureOp.or0 {c : Nat} {dst : Option Tmp} {x y : Operand} {ty : TypeId} {pos : String} {after : Array Edge} {g : Option (Nat × Bool)} {p q : Bool} (hx : ev E Γ c x = some (.bool p)) (hy : ev E Γ c y = some (.bool q)) :
    PureOp P N w0 E Γ H c ⟨dst, .pick x (.const (.bool true)) y, ty, pos, after, g⟩ (.bool (p || q)) := by
  intro a w he hw hc
  have h0 : a.eval (.const (.bool true)) = .bool true := rfl
  cases p <;> simp [execOp, ev_ok he hx hc, ev_ok he hy hc, asBool, h0]

section arith
variable {c : Nat} {dst : Option Tmp} {x y : Operand} {t t' ty : TypeId} {pos : String} {after : Array Edge} {g : Option (Nat × Bool)} {m n : Int}
theorem PureOp.add (hx : ev E Γ c x = some (.int .i64 m)) (hy : ev E Γ c y = some (.int .i64 n)) (h : gval Γ c = true → -9223372036854775808 ≤ m + n ∧ m + n ≤ 9223372036854775807) : PureOp P N w0 E Γ H c ⟨dst, .binOp .add t x y t', ty, pos, after, g⟩ (.int .i64 (m + n)) := by
  intro a w he hw hc
  simp [execOp, ev_ok he hx hc, ev_ok he hy hc, eqGuard, binOp, Op.intArith, IntWalk.i64_left, IntWalk.wrap64_in _ (h hc)]
theorem PureOp.sub (hx : ev E Γ c x = some (.int .i64 m)) (hy : ev E Γ c y = some (.int .i64 n)) (h : gval Γ c = true → -9223372036854775808 ≤ m - n ∧ m - n ≤ 9223372036854775807) : PureOp P N w0 E Γ H c ⟨dst, .binOp .sub t x y t', ty, pos, after, g⟩ (.int .i64 (m - n)) := by
  intro a w he hw hc
  simp [execOp, ev_ok he hx hc, ev_ok he hy hc, eqGuard, binOp, Op.intArith, IntWalk.i64_left, IntWalk.wrap64_in _ (h hc)]
theorem PureOp.mul (hx : ev E Γ c x = some (.int .i64 m)) (hy : ev E Γ c y = some (.int .i64 n)) (h : gval Γ c = true → -9223372036854775808 ≤ m * n ∧ m * n ≤ 9223372036854775807) : PureOp P N w0 E Γ H c ⟨dst, .binOp .mul t x y t', ty, pos, after, g⟩ (.int .i64 (m * n)) := by
  intro a w he hw hc
  simp [execOp, ev_ok he hx hc, ev_ok he hy hc, eqGuard, binOp, Op.intArith, IntWalk.i64_left, IntWalk.wrap64_in _ (h hc)]
theorem PureOp.addw (hx : ev E Γ c x = some (.int .i64 m)) (hy : ev E Γ c y = some (.int .i64 n)) : PureOp P N w0 E Γ H c ⟨dst, .binOp .add t x y t', ty, pos, after, g⟩ (.int .i64 (wrap64 (m + n))) := by
  intro a w he hw hc
  simp [execOp, ev_ok he hx hc, ev_ok he hy hc, eqGuard, binOp, Op.intArith, IntWalk.i64_left]
theorem PureOp.subw (hx : ev E Γ c x = some (.int .i64 m)) (hy : ev E Γ c y = some (.int .i64 n)) : PureOp P N w0 E Γ H c ⟨dst, .binOp .sub t x y t', ty, pos, after, g⟩ (.int .i64 (wrap64 (m - n))) := by
  intro a w he hw hc
  simp [execOp, ev_ok he hx hc, ev_ok he hy hc, eqGuard, binOp, Op.intArith, IntWalk.i64_left]
theorem PureOp.mulw (hx : ev E Γ c x = some (.int .i64 m)) (hy : ev E Γ c y = some (.int .i64 n)) : PureOp P N w0 E Γ H c ⟨dst, .binOp .mul t x y t', ty, pos, after, g⟩ (.int .i64 (wrap64 (m * n))) := by
  intro a w he hw hc
  simp [execOp, ev_ok he hx hc, ev_ok he hy hc, eqGuard, binOp, Op.intArith, IntWalk.i64_left]
theorem PureOp.neg (hx : ev E Γ c x = some (.int .i64 m)) (h : gval Γ c = true → -9223372036854775807 ≤ m ∧ m ≤ 9223372036854775807) : PureOp P N w0 E Γ H c ⟨dst, .unOp .neg t x, ty, pos, after, g⟩ (.int .i64 (-m)) := by
  intro a w he hw hc
  have := h hc
  have h2 : wrap64 (0 - m) = -m := by rw [IntWalk.wrap64_in _ (by omega)]; omega
  simp [execOp, ev_ok he hx hc, Op.unary, Op.intArith, IntWalk.i64_left]
  simpa using h2
theorem PureOp.negw (hx : ev E Γ c x = some (.int .i64 m)) : PureOp P N w0 E Γ H c ⟨dst, .unOp .neg t x, ty, pos, after, g⟩ (.int .i64 (wrap64 (0 - m))) := by
  intro a w he hw hc
  simp [execOp, ev_ok he hx hc, Op.unary, Op.intArith, IntWalk.i64_left]
theorem PureOp.not {b : Bool} (hx : ev E Γ c x = some (.bool b)) : PureOp P N w0 E Γ H c ⟨dst, .unOp .not t x, ty, pos, after, g⟩ (.bool (!b)) := by
  intro a w he hw hc
  simp [execOp, ev_ok he hx hc, Op.unary]
theorem PureOp.lss {k : IntKind} (hx : ev E Γ c x = some (.int k m)) (hy : ev E Γ c y = some (.int k n)) : PureOp P N w0 E Γ H c ⟨dst, .binOp .lss t x y t', ty, pos, after, g⟩ (.bool (decide (m < n))) := by
  intro a w he hw hc
  simp [execOp, ev_ok he hx hc, ev_ok he hy hc, eqGuard, binOp, Op.intCmp]
theorem PureOp.leq {k : IntKind} (hx : ev E Γ c x = some (.int k m)) (hy : ev E Γ c y = some (.int k n)) : PureOp P N w0 E Γ H c ⟨dst, .binOp .leq t x y t', ty, pos, after, g⟩ (.bool (decide (m ≤ n))) := by
  intro a w he hw hc
  simp [execOp, ev_ok he hx hc, ev_ok he hy hc, eqGuard, binOp, Op.intCmp]
theorem PureOp.gtr {k : IntKind} (hx : ev E Γ c x = some (.int k m)) (hy : ev E Γ c y = some (.int k n)) : PureOp P N w0 E Γ H c ⟨dst, .binOp .gtr t x y t', ty, pos, after, g⟩ (.bool (decide (n < m))) := by
  intro a w he hw hc
  simp [execOp, ev_ok he hx hc, ev_ok he hy hc, eqGuard, binOp, Op.intCmp]
theorem PureOp.geq {k : IntKind} (hx : ev E Γ c x = some (.int k m)) (hy : ev E Γ c y = some (.int k n)) : PureOp P N w0 E Γ H c ⟨dst, .binOp .geq t x y t', ty, pos, after, g⟩ (.bool (decide (n ≤ m))) := by
  intro a w he hw hc
  simp [execOp, ev_ok he hx hc, ev_ok he hy hc, eqGuard, binOp, Op.intCmp]
theorem PureOp.eql {k : IntKind} (hx : ev E Γ c x = some (.int k m)) (hy : ev E Γ c y = some (.int k n)) : PureOp P N w0 E Γ H c ⟨dst, .binOp .eql t x y t', ty, pos, after, g⟩ (.bool (decide (m = n))) := by
  intro a w he hw hc
  have : (m == n) = decide (m = n) := rfl
  simp [execOp, ev_ok he hx hc, ev_ok he hy hc, eqGuard, binOp, Op.intCmp, this]
theorem PureOp.neq {k : IntKind} (hx : ev E Γ c x = some (.int k m)) (hy : ev E Γ c y = some (.int k n)) : PureOp P N w0 E Γ H c ⟨dst, .binOp .neq t x y t', ty, pos, after, g⟩ (.bool (decide (m ≠ n))) := by
  intro a w he hw hc
  have : (m != n) = decide (m ≠ n) := by simp [bne, show (m == n) = decide (m = n) from rfl]
  simp [execOp, ev_ok he hx hc, ev_ok he hy hc, eqGuard, binOp, Op.intCmp, this]
/-- quotient and remainder by a number that is not 0 -/
theorem PureOp.quo (hx : ev E Γ c x = some (.int .i64 m)) (hy : ev E Γ c y = some (.int .i64 n)) (h : gval Γ c = true → n ≠ 0 ∧ -9223372036854775808 ≤ m.tdiv n ∧ m.tdiv n ≤ 9223372036854775807) : PureOp P N w0 E Γ H c ⟨dst, .binOp .quo t x y t', ty, pos, after, g⟩ (.int .i64 (m.tdiv n)) := by
  intro a w he hw hc
  have := h hc
  simp [execOp, ev_ok he hx hc, ev_ok he hy hc, eqGuard, binOp, Op.intDiv, this.1, IntWalk.i64_left, IntWalk.wrap64_in _ this.2]
theorem PureOp.rem {k : IntKind} (hx : ev E Γ c x = some (.int k m)) (hy : ev E Γ c y = some (.int k n)) (h : gval Γ c = true → n ≠ 0) : PureOp P N w0 E Γ H c ⟨dst, .binOp .rem t x y t', ty, pos, after, g⟩ (.int k (m.tmod n)) := by
  intro a w he hw hc
  simp [execOp, ev_ok he hx hc, ev_ok he hy hc, eqGuard, binOp, Op.intDiv, h hc]
theorem PureOp.max_ {k : IntKind} {ts : Array TypeId} (hx : ev E Γ c x = some (.int k m)) (hy : ev E Γ c y = some (.int k n)) : PureOp P N w0 E Γ H c ⟨dst, .call { callee := .builtin .max, args := #[x, y], argTypes := ts }, ty, pos, after, g⟩ (.int k (max m n)) := by
  intro a w he hw hc
  have : (if n > m then n else m) = max m n := by omega
  simp [execOp, ev_ok he hx hc, ev_ok he hy hc, resolve, invoke, builtin, Builtin.max_, Builtin.max2]
  omega
theorem PureOp.min_ {k : IntKind} {ts : Array TypeId} (hx : ev E Γ c x = some (.int k m)) (hy : ev E Γ c y = some (.int k n)) : PureOp P N w0 E Γ H c ⟨dst, .call { callee := .builtin .min, args := #[x, y], argTypes := ts }, ty, pos, after, g⟩ (.int k (min m n)) := by
  intro a w he hw hc
  simp [execOp, ev_ok he hx hc, ev_ok he hy hc, resolve, invoke, builtin, Builtin.min_, Builtin.min2]
  omega
theorem PureOp.len {tt e : TypeId} {ao : Option Addr} {k cap : Nat} (hx : ev E Γ c x = some (.slice ao k cap)) (ht : P.underlying tt = some (.slice e)) : PureOp P N w0 E Γ H c ⟨dst, .call { callee := .builtin .len, args := #[x], argTypes := #[tt] }, ty, pos, after, g⟩ (.int .i64 (k : Int)) := by
  intro a w he hw hc
  simp [execOp, ev_ok he hx hc, resolve, invoke, builtin, Builtin.len_, run_underlying ht, goInt]
theorem PureOp.lens {tt : TypeId} {s : ByteArray} (hx : ev E Γ c x = some (.string s)) (ht : P.underlying tt = some .string) : PureOp P N w0 E Γ H c ⟨dst, .call { callee := .builtin .len, args := #[x], argTypes := #[tt] }, ty, pos, after, g⟩ (.int .i64 (s.size : Int)) := by
  intro a w he hw hc
  simp [execOp, ev_ok he hx hc, resolve, invoke, builtin, Builtin.len_, run_underlying ht, goInt]
theorem PureOp.eqls {s u : ByteArray} (hx : ev E Γ c x = some (.string s)) (hy : ev E Γ c y = some (.string u)) : PureOp P N w0 E Γ H c ⟨dst, .binOp .eql t x y t', ty, pos, after, g⟩ (.bool (s.toList == u.toList)) := by
  intro a w he hw hc
  simp [execOp, ev_ok he hx hc, ev_ok he hy hc, eqGuard, binOp, Op.stringOp]
theorem PureOp.neqs {s u : ByteArray} (hx : ev E Γ c x = some (.string s)) (hy : ev E Γ c y = some (.string u)) : PureOp P N w0 E Γ H c ⟨dst, .binOp .neq t x y t', ty, pos, after, g⟩ (.bool (!(s.toList == u.toList))) := by
  intro a w he hw hc
  simp [execOp, ev_ok he hx hc, ev_ok he hy hc, eqGuard, binOp, Op.stringOp]
theorem run_equal_bool {t : TypeId} (ht : P.underlying t = some .bool) (p q : Bool) (w : World) : (Op.equal t (.bool p) (.bool q)).run P w = .ok (p == q) w := by
  have h : ∀ d : Nat, (Op.equalIn (d + 1) t (.bool p) (.bool q)).run P w = .ok (p == q) w := fun d => by simp [Op.equalIn, run_underlying ht]
  simp [Op.equal, Op.maxDepth, h 9999]
theorem PureOp.eqlb {p q : Bool} (hx : ev E Γ c x = some (.bool p)) (hy : ev E Γ c y = some (.bool q)) (ht : P.underlying t = some .bool) : PureOp P N w0 E Γ H c ⟨dst, .binOp .eql t x y t', ty, pos, after, g⟩ (.bool (p == q)) := by
  intro a w he hw hc
  have h1 : (binOp .eql t (.bool p) (.bool q)).run P w = .ok (.bool (p == q)) w := by
    simp only [binOp]
    simp [run_equal_bool ht]
  have h2 : (eqGuard .eql t x y (.bool p) (.bool q)).run P w = .ok () w := by simp [eqGuard]
  simp [execOp, ev_ok he hx hc, ev_ok he hy hc, h1, h2]
theorem PureOp.neqb {p q : Bool} (hx : ev E Γ c x = some (.bool p)) (hy : ev E Γ c y = some (.bool q)) (ht : P.underlying t = some .bool) : PureOp P N w0 E Γ H c ⟨dst, .binOp .neq t x y t', ty, pos, after, g⟩ (.bool (!(p == q))) := by
  intro a w he hw hc
  have h1 : (binOp .neq t (.bool p) (.bool q)).run P w = .ok (.bool (!(p == q))) w := by
    simp only [binOp]
    simp [run_equal_bool ht]
  have h2 : (eqGuard .neq t x y (.bool p) (.bool q)).run P w = .ok () w := by simp [eqGuard]
  simp [execOp, ev_ok he hx hc, ev_ok he hy hc, h1, h2]
theorem PureOp.conv {k k' : IntKind} {ds : TypeDesc} (hx : ev E Γ c x = some (.int k' m)) (ht : P.underlying t = some ds) (ht' : P.underlying t' = some (.int k)) : PureOp P N w0 E Γ H c ⟨dst, .convert t t' x, ty, pos, after, g⟩ (.int k (k.wrap m)) := by
  intro a w he hw hc
  simp [execOp, ev_ok he hx hc, convert, run_underlying ht, run_underlying ht', Conv.intToInt]
theorem PureOp.makeFunc {fn : Fn} {first captured : Array Operand} {vf vc : List Value} (h1 : evs E Γ c first.toList = some vf) (h2 : evs E Γ c captured.toList = some vc) : PureOp P N w0 E Γ H c ⟨dst, .makeFunc fn first captured, ty, pos, after, g⟩ (.func fn vf.toArray vc.toArray) := by
  intro a w he hw hc
  have e1 : first.map a.eval = vf.toArray := by rw [← evs_ok he hc h1]; exact Array.toList_inj.1 (by simp)
  have e2 : captured.map a.eval = vc.toArray := by rw [← evs_ok he hc h2]; exact Array.toList_inj.1 (by simp)
  simp [execOp, Instr.makeFunc, e1, e2]
theorem PureOp.nilCheckp {A : Addr} (hx : ev E Γ c x = some (.pointer (some A))) : PureOp P N w0 E Γ H c ⟨dst, .nilCheck x, ty, pos, after, g⟩ (.pointer (some A)) := by
  intro a w he hw hc
  simp [execOp, ev_ok he hx hc]
theorem PureOp.extract {vs : Array Value} {i : Nat} {v : Value} (hx : ev E Γ c x = some (.tuple vs)) (hv : vs[i]? = some v) : PureOp P N w0 E Γ H c ⟨dst, .extract x i, ty, pos, after, g⟩ v := by
  intro a w he hw hc
  simp [execOp, ev_ok he hx hc, Instr.extract, hv]
end arith

/-! ### == on structs and arrays whose cells are numbers, strings and bools -/
theorem bytes_eq {s u : ByteArray} : (s.toList == u.toList) = true ↔ s = u := by
  rw [beq_iff_eq]
  constructor
  · intro h
    rw [ByteArray.toList_eq, ByteArray.toList_eq] at h
    obtain ⟨x⟩ := s
    obtain ⟨y⟩ := u
    have : x = y := Array.toList_inj.1 h
    rw [this]
  · rintro rfl; rfl
def eqV : Value → Value → Bool
  | .int _ a, .int _ b => decide (a = b)
  | .string s, .string u => s.toList == u.toList
  | .bool a, .bool b => a == b
  | _, _ => false
def eqB : List Value → List Value → Bool
  | [], _ => true
  | x :: xs, y :: ys => eqV x y && eqB xs ys
  | _ :: _, [] => false
/-- what a cell must be: 0: a number, 1: a string, 2: a bool -/
def okV : Nat → Value → Value → Bool
  | 0, .int k _, .int k' _ => decide (k = k')
  | 1, .string _, .string _ => true
  | 2, .bool _, .bool _ => true
  | _, _, _ => false
def okB : List Nat → List Value → List Value → Bool
  | [], [], [] => true
  | c :: cs, x :: xs, y :: ys => okV c x y && okB cs xs ys
  | _, _, _ => false
def kindOf (P : Program) (t : TypeId) : Option Nat := match P.underlying t with
  | some (.int _) => some 0
  | some .string => some 1
  | some .bool => some 2
  | _ => none
def flatF (P : Program) (i : Nat) : List Field → Option (List Nat)
  | [] => some []
  | f :: r => match kindOf P f.type, flatF P (i + 1) r with
    | some k, some ks => if f.name ≠ "_" ∧ f.offset = i then some (k :: ks) else none
    | _, _ => none
def flatK (P : Program) (t : TypeId) : Option (List Nat) := match P.underlying t with
  | some (.struct fs) => if P.stoodInHeld t = false ∧ P.eqGuardType P.depth t = false then flatF P 0 fs.toList else none
  | some (.array n e) => match kindOf P e, (P.info? e).map (·.size) with
    | some k, some 1 => if P.eqGuardType P.depth t = false then some (List.replicate n k) else none
    | _, _ => none
  | _ => none
theorem run_equalIn_cell (d : Nat) {t : TypeId} {k : Nat} (hk : kindOf P t = some k) {x y : Value} (ho : okV k x y = true) (w : World) : (Op.equalIn (d + 1) t x y).run P w = .ok (eqV x y) w := by
  unfold kindOf at hk
  cases hu : P.underlying t with
  | none => simp [hu] at hk
  | some ds =>
    cases ds <;> simp [hu] at hk <;> subst hk
    case int k => cases x <;> cases y <;> simp [okV] at ho; subst ho; rw [run_equalIn_int w d t _ k _ _ hu]; rfl
    case string => cases x <;> cases y <;> simp [okV] at ho; rw [run_equalIn_string w d t _ _ hu]; rfl
    case bool => cases x <;> cases y <;> simp [okV] at ho; rw [run_equalIn_bool' w d t _ _ hu]; rfl
theorem run_part_cell {t : TypeId} {k : Nat} (hk : kindOf P t = some k) {cs : Array Value} {i : Nat} {v : Value} (hv : cs[i]? = some v) (w : World) : (part t cs i).run P w = .ok v w := by
  have hagg : (isAgg t).run P w = .ok false w := by
    unfold kindOf at hk
    unfold isAgg
    cases hu : P.underlying t with
    | none => simp [hu] at hk
    | some ds =>
      rw [Sem.run_bind, run_underlying hu w]
      cases ds <;> simp_all
  simp [part, hagg, hv]
theorem okB_length : ∀ {ks : List Nat} {xs ys : List Value}, okB ks xs ys = true → xs.length = ks.length ∧ ys.length = ks.length := by
  intro ks
  induction ks with
  | nil => intro xs ys h; cases xs <;> cases ys <;> simp [okB] at h <;> simp
  | cons k ks ih =>
    intro xs ys h
    cases xs <;> cases ys <;> simp [okB] at h
    obtain ⟨h1, h2⟩ := ih h.2
    simp [h1, h2]
theorem run_eqFields_flat (d : Nat) (xs ys : List Value) : ∀ (fs : List Field) (i : Nat) (ks : List Nat) (w : World), flatF P i fs = some ks → okB ks (xs.drop i) (ys.drop i) = true → (Op.eqFields (d + 1) xs.toArray ys.toArray fs).run P w = .ok (eqB (xs.drop i) (ys.drop i)) w := by
  intro fs
  induction fs with
  | nil =>
    intro i ks w hf ho
    simp [flatF] at hf
    subst hf
    have := (okB_length ho).1
    have hx : xs.drop i = [] := List.eq_nil_of_length_eq_zero this
    rw [hx]
    simp [Op.eqFields, eqB]
  | cons f r ih =>
    intro i ks w hf ho
    simp only [flatF] at hf
    cases hk : kindOf P f.type with
    | none => simp [hk] at hf
    | some k =>
      cases hr : flatF P (i + 1) r with
      | none => simp [hk, hr] at hf
      | some kr =>
        simp only [hk, hr] at hf
        split at hf
        · rename_i hn
          obtain ⟨hnm, hio⟩ := hn
          subst hio
          simp at hf
          subst hf
          obtain ⟨h1, h2⟩ := okB_length ho
          have hxl : f.offset < xs.length := by simp at h1; omega
          have hyl : f.offset < ys.length := by simp at h2; omega
          rw [List.drop_eq_getElem_cons hxl, List.drop_eq_getElem_cons hyl] at ho ⊢
          simp only [okB, Bool.and_eq_true] at ho
          have e1 := run_part_cell (P := P) hk (cs := xs.toArray) (i := f.offset) (v := xs[f.offset]) (by simp [hxl]) w
          have e2 := run_part_cell (P := P) hk (cs := ys.toArray) (i := f.offset) (v := ys[f.offset]) (by simp [hyl]) w
          have e3 := run_equalIn_cell (P := P) d hk ho.1 w
          have e4 := ih (f.offset + 1) kr w hr ho.2
          simp only [Op.eqFields, hnm, if_true, ne_eq, not_false_eq_true, Sem.run_bind, e1, Result.andThen_ok, e2, e3]
          cases hq : eqV xs[f.offset] ys[f.offset] with
          | true => simp [e4, eqB, hq]
          | false => simp [eqB, hq]
        · cases hf
theorem run_eqArray_flat (d : Nat) {e : TypeId} {k : Nat} (hk : kindOf P e = some k) (hs : (P.info? e).map (·.size) = some 1) (xs ys : List Value) (w : World) : ∀ (m i : Nat), okB (List.replicate m k) (xs.drop i) (ys.drop i) = true →
    (forIn (m := Sem) (List.range' i m) ((none, ()) : Option Bool × Unit) (fun i r => do
      if (!(← Op.equalIn (d + 1) e (← part e xs.toArray (i * 1)) (← part e ys.toArray (i * 1)))) = true then pure (ForInStep.done (some false, ())) else pure (ForInStep.yield (none, ())))).run P w =
      .ok (if eqB (xs.drop i) (ys.drop i) = true then (none, ()) else (some false, ())) w := by
  intro m
  induction m with
  | zero =>
    intro i ho
    have hx : xs.drop i = [] := List.eq_nil_of_length_eq_zero (okB_length ho).1
    rw [hx]
    simp [eqB]
  | succ m ih =>
    intro i ho
    obtain ⟨h1, h2⟩ := okB_length ho
    have hxl : i < xs.length := by simp at h1; omega
    have hyl : i < ys.length := by simp at h2; omega
    rw [List.drop_eq_getElem_cons hxl, List.drop_eq_getElem_cons hyl] at ho ⊢
    simp only [List.replicate_succ, okB, Bool.and_eq_true] at ho
    have e1 := run_part_cell (P := P) hk (cs := xs.toArray) (i := i) (v := xs[i]) (by simp [hxl]) w
    have e2 := run_part_cell (P := P) hk (cs := ys.toArray) (i := i) (v := ys[i]) (by simp [hyl]) w
    have e3 := run_equalIn_cell (P := P) d hk ho.1 w
    have e4 := ih (i + 1) ho.2
    rw [List.range'_succ, List.forIn_cons]
    simp only [Nat.mul_one, Sem.run_bind, e1, Result.andThen_ok, e2, e3] at e4 ⊢
    cases hq : eqV xs[i] ys[i] with
    | true => simpa [eqB, hq] using e4
    | false => simp [eqB, hq]
theorem run_equal_flat {t : TypeId} {ks : List Nat} (hk : flatK P t = some ks) {xs ys : List Value} (ho : okB ks xs ys = true) (w : World) : (Op.equal t (.agg xs.toArray) (.agg ys.toArray)).run P w = .ok (eqB xs ys) w ∧ P.eqGuardType P.depth t = false := by
  unfold flatK at hk
  cases hu : P.underlying t with
  | none => simp [hu] at hk
  | some ds =>
    cases ds <;> simp only [hu] at hk <;> try (cases hk; done)
    case struct fs =>
      split at hk
      · rename_i hh
        refine ⟨?_, hh.2⟩
        have hu' : P.underlying t = some (.struct (P.fieldsOf t)) := by simp [Program.fieldsOf, hu]
        have hff : P.fieldsOf t = fs := by simp [Program.fieldsOf, hu]
        have := run_equalIn_struct (P := P) w 9999 t xs.toArray ys.toArray hu' hh.1
        simp only [Op.equal, Op.maxDepth]
        rw [this, hff]
        have := run_eqFields_flat (P := P) 9998 xs ys fs.toList 0 ks w hk (by simpa using ho)
        simpa using this
      · cases hk
    case array n e =>
      cases hke : kindOf P e with
      | none => simp [hke] at hk
      | some k =>
        cases hse : (P.info? e).map (·.size) with
        | none => simp [hke, hse] at hk
        | some s =>
          simp only [hke, hse] at hk
          split at hk
          · rename_i k' heq h1
            split at hk
            · rename_i hg
              simp at hk heq
              subst heq
              subst hk
              refine ⟨?_, hg⟩
              obtain ⟨inf, hinf, hs⟩ := Option.map_eq_some_iff.1 hse
              have hs1 : inf.size = 1 := by simpa using hs.trans (by simpa using h1)
              have := run_eqArray_flat (P := P) 9998 hke (by simp [hinf, hs1]) xs ys w n 0 (by simpa using ho)
              simp only [Op.equal, Op.maxDepth]
              unfold Op.equalIn
              simp only [Sem.run_bind, run_underlying hu, Result.andThen_ok, sizeOf, typeInfo, run_program, hinf, Sem.run_pure, hs1]
              rw [Std.Legacy.Range.forIn_eq_forIn_range']
              have hrs : ([:n] : Std.Legacy.Range).size = n := by simp [Std.Legacy.Range.size]
              rw [hrs]
              simp only [Sem.run_bind] at this ⊢
              rw [this]
              simp only [List.drop_zero, Result.andThen_ok]
              cases eqB xs ys <;> simp
            · cases hk
          · cases hk
section eqs
variable {c : Nat} {dst : Option Tmp} {x y : Operand} {t t' ty : TypeId} {pos : String} {after : Array Edge} {g : Option (Nat × Bool)}
theorem PureOp.eqla {ks : List Nat} {xs ys : List Value} (hx : ev E Γ c x = some (.agg xs.toArray)) (hy : ev E Γ c y = some (.agg ys.toArray)) (hk : flatK P t = some ks) (ho : okB ks xs ys = true) : PureOp P N w0 E Γ H c ⟨dst, .binOp .eql t x y t', ty, pos, after, g⟩ (.bool (eqB xs ys)) := by
  intro a w he hw hc
  obtain ⟨h1, h2⟩ := run_equal_flat hk ho w
  have h3 : (binOp .eql t (.agg xs.toArray) (.agg ys.toArray)).run P w = .ok (.bool (eqB xs ys)) w := by
    simp only [binOp]
    simp [h1]
  simp only [execOp, ev_ok he hx hc, ev_ok he hy hc, Sem.run_bind, run_eqGuard_agg w .eql t x y _ _ h2, Result.andThen_ok, h3, Sem.run_pure]
theorem PureOp.neqa {ks : List Nat} {xs ys : List Value} (hx : ev E Γ c x = some (.agg xs.toArray)) (hy : ev E Γ c y = some (.agg ys.toArray)) (hk : flatK P t = some ks) (ho : okB ks xs ys = true) : PureOp P N w0 E Γ H c ⟨dst, .binOp .neq t x y t', ty, pos, after, g⟩ (.bool (!eqB xs ys)) := by
  intro a w he hw hc
  obtain ⟨h1, h2⟩ := run_equal_flat hk ho w
  have h3 : (binOp .neq t (.agg xs.toArray) (.agg ys.toArray)).run P w = .ok (.bool (!eqB xs ys)) w := by
    simp only [binOp]
    simp [h1]
  simp only [execOp, ev_ok he hx hc, ev_ok he hy hc, Sem.run_bind, run_eqGuard_agg w .neq t x y _ _ h2, Result.andThen_ok, h3, Sem.run_pure]
theorem run_equal_nil {e : TypeId} {ao : Option Addr} {n cap : Nat} (ht : P.underlying t = some (.slice e)) (w : World) : (Op.equal t (.slice ao n cap) (.slice none 0 0)).run P w = .ok ao.isNone w := by
  have h : ∀ d : Nat, (Op.equalIn (d + 1) t (.slice ao n cap) (.slice none 0 0)).run P w = .ok ao.isNone w := fun d => by
    cases ao <;> simp [Op.equalIn, run_underlying ht]
  simp [Op.equal, Op.maxDepth, h 9999]
theorem PureOp.eqlnil {e : TypeId} {ao : Option Addr} {n cap : Nat} (hx : ev E Γ c x = some (.slice ao n cap)) (hy : ev E Γ c y = some (.slice none 0 0)) (ht : P.underlying t = some (.slice e)) : PureOp P N w0 E Γ H c ⟨dst, .binOp .eql t x y t', ty, pos, after, g⟩ (.bool ao.isNone) := by
  intro a w he hw hc
  have h1 : (binOp .eql t (.slice ao n cap) (.slice none 0 0)).run P w = .ok (.bool ao.isNone) w := by
    simp only [binOp]
    simp [run_equal_nil ht]
  have h2 : (eqGuard .eql t x y (.slice ao n cap) (.slice none 0 0)).run P w = .ok () w := by simp [eqGuard]
  simp [execOp, ev_ok he hx hc, ev_ok he hy hc, h1, h2]
end eqs

section mem
variable {c : Nat} {dst : Option Tmp} {x y : Operand} {t t' ty : TypeId} {pos : String} {after : Array Edge} {g : Option (Nat × Bool)} {m n : Int}
theorem PureOp.fieldAddr {s : TypeId} {f b o k : Nat} {fs : Array Field} {fd : Field} (ofs : Nat) (hs : P.underlying s = some (.struct fs)) (hf : fs[f]? = some fd) (ho : fd.offset = ofs) (hz : (P.info? fd.type).map (·.size) = some (k + 1)) (hx : ev E Γ c x = some (.pointer (some ⟨b, o, none⟩))) :
    PureOp P N w0 E Γ H c ⟨dst, .fieldAddr s x f, ty, pos, after, g⟩ (.pointer (some ⟨b, o + ofs, none⟩)) := by
  intro a w he hw hc
  subst ho
  obtain ⟨i, hi, hz'⟩ := Option.map_eq_some_iff.1 hz
  simp [execOp, Instr.fieldAt, run_underlying hs, hf, Instr.sureAddr, ev_ok he hx hc, fieldPlace, sizeOf, typeInfo, hi, hz', add_lit]
/-- .. of a block of the call's own: the offset as a number -/
theorem PureOp.fieldAddrT {s : TypeId} {f b o k : Nat} {fs : Array Field} {fd : Field} (tot : Nat) (hs : P.underlying s = some (.struct fs)) (hf : fs[f]? = some fd) (hz : (P.info? fd.type).map (·.size) = some (k + 1)) (hx : ev E Γ c x = some (.pointer (some ⟨b, o, none⟩))) (ht : Nat.beq (o + fd.offset) tot = true) :
    PureOp P N w0 E Γ H c ⟨dst, .fieldAddr s x f, ty, pos, after, g⟩ (.pointer (some ⟨b, tot, none⟩)) := by
  have := PureOp.fieldAddr (P := P) (N := N) (w0 := w0) (H := H) (dst := dst) (ty := ty) (pos := pos) (after := after) (g := g) fd.offset hs hf rfl hz hx
  rwa [nat_beq_iff.1 ht] at this
def aggB : TypeDesc → Bool
  | .struct _ | .array _ _ => true
  | _ => false
theorem PureOp.load {d : TypeDesc} {A : Addr} {v : Value} (ht : P.underlying t = some d) (hd : aggB d = false) (hx : ev E Γ c x = some (.pointer (some A))) (hv : gval Γ c = true → CellIs w0 H A v) : PureOp P N w0 E Γ H c ⟨dst, .load t x, ty, pos, after, g⟩ v := by
  intro a w he hw hc
  have hcell := hv hc w hw
  have hagg : (isAgg t).run P w = .ok false w := by
    unfold isAgg
    rw [Sem.run_bind, run_underlying ht w]
    cases d <;> simp_all [aggB]
  simp [execOp, Instr.loadAt, Instr.sureAddr, ev_ok he hx hc, loadVar, hagg, hcell]
theorem PureOp.loads {d : TypeDesc} {A : Addr} {vs : List Value} (ht : P.underlying t = some d) (hd : aggB d = true) (hx : ev E Γ c x = some (.pointer (some A))) (hv : gval Γ c = true → RowIs w0 H A vs) (hsz : (P.info? t).map (·.size) = some vs.length) :
    PureOp P N w0 E Γ H c ⟨dst, .load t x, ty, pos, after, g⟩ (.agg vs.toArray) := by
  intro a w he hw hc
  obtain ⟨i, hi, hz'⟩ := Option.map_eq_some_iff.1 hsz
  have hagg : (isAgg t).run P w = .ok true w := by
    unfold isAgg
    rw [Sem.run_bind, run_underlying ht w]
    cases d <;> simp_all [aggB]
  have hl := run_loadCells_list (P := P) w A vs (fun j v hj => hv hc j v hj w hw)
  simp [execOp, Instr.loadAt, Instr.sureAddr, ev_ok he hx hc, loadVar, hagg, sizeOf, typeInfo, hi, hz', hl]
/-- the address of an element of a slice -/
theorem PureOp.indexAddr {e : TypeId} {ao : Option Addr} {k cap sz : Nat} {i : Int} {kd : IntKind} (ht : P.underlying t = some (.slice e)) (hsz : (P.info? e).map (·.size) = some sz) (hx : ev E Γ c x = some (.slice ao k cap)) (hy : ev E Γ c y = some (.int kd i)) (hA : AoOk w0 H ao k) (hi : gval Γ c = true → 0 ≤ i ∧ i < k) :
    PureOp P N w0 E Γ H c ⟨dst, .indexAddr t x y, ty, pos, after, g⟩ (.pointer (some ⟨blk ao, off ao + i.toNat * sz, none⟩)) := by
  intro a w he hw hc
  obtain ⟨inf, hinf, hs⟩ := Option.map_eq_some_iff.1 hsz
  have h1 := hi hc
  rcases hA w hw with h0 | ⟨⟨b, o, sp⟩, rfl, hsp⟩
  · omega
  · simp only at hsp
    subst hsp
    simp [execOp, Instr.indexAt, asIntOf, ev_ok he hx hc, ev_ok he hy hc, run_underlying ht, sizeOf, typeInfo, hinf, hs, h1.1, h1.2, add_lit, blk, off]
/-- .. the index a natural number -/
theorem PureOp.indexAddrN {e : TypeId} {ao : Option Addr} {k cap sz i : Nat} {kd : IntKind} (ht : P.underlying t = some (.slice e)) (hsz : (P.info? e).map (·.size) = some sz) (hx : ev E Γ c x = some (.slice ao k cap)) (hy : ev E Γ c y = some (.int kd (i : Int))) (hA : AoOk w0 H ao k) (hi : gval Γ c = true → i < k) :
    PureOp P N w0 E Γ H c ⟨dst, .indexAddr t x y, ty, pos, after, g⟩ (.pointer (some ⟨blk ao, off ao + i * sz, none⟩)) := by
  have := PureOp.indexAddr (P := P) (N := N) (w0 := w0) (H := H) (dst := dst) (ty := ty) (pos := pos) (after := after) (g := g) ht hsz hx hy hA (fun h => ⟨by omega, by have := hi h; omega⟩)
  simpa using this
/-- the address of an element of an array of the call's own -/
theorem PureOp.indexAddrA {e : TypeId} {b o n sz : Nat} {i : Int} {kd : IntKind} (ht : P.underlying t = some (.array n e)) (hsz : (P.info? e).map (·.size) = some sz) (hx : ev E Γ c x = some (.pointer (some ⟨b, o, none⟩))) (hy : ev E Γ c y = some (.int kd i)) (hi : gval Γ c = true → 0 ≤ i ∧ i < n) :
    PureOp P N w0 E Γ H c ⟨dst, .indexAddr t x y, ty, pos, after, g⟩ (.pointer (some ⟨b, o + i.toNat * sz, none⟩)) := by
  intro a w he hw hc
  obtain ⟨inf, hinf, hs⟩ := Option.map_eq_some_iff.1 hsz
  have h1 := hi hc
  simp [execOp, Instr.indexAt, Instr.sureAddr, asIntOf, ev_ok he hx hc, ev_ok he hy hc, run_underlying ht, sizeOf, typeInfo, hinf, hs, h1.1, h1.2, add_lit]
end mem
end Go.Proofs.Ytblmafknmeicfaa.Eng
