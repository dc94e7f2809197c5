/-
  More steps: a guard whose value is known; splitting on a guard; numbers without sign; parts of strings; rows stored whole; nil pointers. Of no program.
-/
import Derived.Test.YtblmafknmeicfaaMeth
namespace Go.Proofs.Ytblmafknmeicfaa.Eng
open Go Go.RowKit
set_option linter.unusedVariables false
set_option linter.unusedSimpArgs false
variable {P : Program} {N : Nat} {w0 : World} {Q : Exit → Act → World → Prop} {E : Env} {Γ : Gds} {H HS : Heap} {ops : Array Oper} {rest : List Oper} {K : Act → World → Prop} {QA : Act → Prop}

/-! ### a slot whose Bool is known -/
theorem EnvOk.known {a : Act} (he : EnvOk N E Γ a) {t : Nat} {k : Nat} {v u : Value} (hl : look E t = some (k, v)) (h : v = u) : EnvOk N ((t, k, u) :: E) Γ a := by
  subst h
  refine ⟨he.size, he.defers, fun s j x hs => ?_⟩
  cases hb : Nat.beq t s with
  | true =>
    have : t = s := nat_beq_iff.1 hb
    subst this
    simp only [look, hb, cond_true, Option.some.injEq, Prod.mk.injEq] at hs
    obtain ⟨rfl, rfl⟩ := hs
    exact he.at_ t k v hl
  | false =>
    simp only [look, hb, cond_false] at hs
    exact he.at_ s j x hs
theorem SL.lit (t : Nat) (v : Bool) {k : Nat} {b : Bool} {l : List Oper} (hl : look E t = some (k, .bool b)) (hb : b = v) (h : SL P N w0 ops Q l ((t, k, .bool v) :: E) Γ H) : SL P N w0 ops Q l E Γ H :=
  fun a w he hw => h a w (he.known hl (by rw [hb])) hw
theorem SD.lit (t : Nat) (v : Bool) {k fuel : Nat} {listed : List Bool} {b : Bool} (hl : look E t = some (k, .bool b)) (hb : b = v) (h : SD P N w0 ops K HS fuel listed ((t, k, .bool v) :: E) Γ H) : SD P N w0 ops K HS fuel listed E Γ H :=
  fun a w he hw => h a w (he.known hl (by rw [hb])) hw
theorem SL.split (t : Nat) {k : Nat} {b : Bool} {l : List Oper} (hl : look E t = some (k, .bool b)) (h1 : b = true → SL P N w0 ops Q l ((t, k, .bool true) :: E) Γ H) (h2 : b = false → SL P N w0 ops Q l ((t, k, .bool false) :: E) Γ H) : SL P N w0 ops Q l E Γ H := by
  cases hb : b with
  | true => exact SL.lit t true hl hb (h1 hb)
  | false => exact SL.lit t false hl hb (h2 hb)
theorem SD.split (t : Nat) {k fuel : Nat} {listed : List Bool} {b : Bool} (hl : look E t = some (k, .bool b)) (h1 : b = true → SD P N w0 ops K HS fuel listed ((t, k, .bool true) :: E) Γ H) (h2 : b = false → SD P N w0 ops K HS fuel listed ((t, k, .bool false) :: E) Γ H) : SD P N w0 ops K HS fuel listed E Γ H := by
  cases hb : b with
  | true => exact SD.lit t true hl hb (h1 hb)
  | false => exact SD.lit t false hl hb (h2 hb)
def consO (d : Option Tmp) (E : Env) : Env := match d with
  | some d => (d, 0, undef) :: E
  | none => E
theorem EnvOk.putO {a : Act} (he : EnvOk N E Γ a) {d : Option Tmp} (hN : (d.all fun d => Nat.blt d N) = true) : EnvOk N (consO d E) Γ (a.put d undef) := by
  cases d with
  | none => exact he
  | some d => exact he.put (by simpa using hN) (Nat.zero_le _) (by rw [gval_zero]; rfl)
theorem wanted_off {a : Act} (he : EnvOk N E Γ a) {o : Oper} {j t : Nat} {want b : Bool} (hg : o.guard = some (j, want)) (hj : (ops[j]?).bind (·.dst) = some t) (ht : Nat.blt t N = true) (hl : look E t = some (0, .bool b)) (hb : (b == want) = false) : Region.wanted o (yielded ops a.tmps) = false := by
  rw [wanted_eq he hg hj hl ht, hb]; simp
theorem wanted_on {a : Act} (he : EnvOk N E Γ a) {o : Oper} {j t : Nat} {want b : Bool} (hg : o.guard = some (j, want)) (hj : (ops[j]?).bind (·.dst) = some t) (ht : Nat.blt t N = true) (hl : look E t = some (0, .bool b)) (hb : (b == want) = true) : Region.wanted o (yielded ops a.tmps) = true := by
  rw [wanted_eq he hg hj hl ht, hb, gval_zero]; rfl
theorem SL.off {o : Oper} {j t : Nat} {want b : Bool} (hg : o.guard = some (j, want)) (hj : (ops[j]?).bind (·.dst) = some t) (ht : Nat.blt t N = true) (hl : look E t = some (0, .bool b)) (hb : (b == want) = false) (hN : (o.dst.all fun d => Nat.blt d N) = true)
    (h : SL P N w0 ops Q rest (consO o.dst E) Γ H) : SL P N w0 ops Q (o :: rest) E Γ H := by
  intro a w he hw
  refine wpList_step fun K hK => ?_
  rw [wanted_off he hg hj ht hl hb]
  simp only [Bool.false_eq_true, if_false]
  exact hK _ _ (h _ _ (he.putO hN) hw)
theorem SQ.off {o : Oper} {j t : Nat} {want b : Bool} (hg : o.guard = some (j, want)) (hj : (ops[j]?).bind (·.dst) = some t) (ht : Nat.blt t N = true) (hl : look E t = some (0, .bool b)) (hb : (b == want) = false) (hN : (o.dst.all fun d => Nat.blt d N) = true)
    (h : SQ P N w0 H ops QA rest (consO o.dst E) Γ) : SQ P N w0 H ops QA (o :: rest) E Γ := by
  intro a he
  refine wpQuiet_step fun K hK => ?_
  rw [wanted_off he hg hj ht hl hb]
  simp only [Bool.false_eq_true, if_false]
  exact hK _ (h _ (he.putO hN))
theorem SD.off (i : Nat) {o : Oper} {j t : Nat} {want b : Bool} {fuel : Nat} {listed : List Bool} (listed' : List Bool) (hi : ops[i]? = some o) (hc : chkTake ops listed i = true) (hls : listed.set i true = listed')
    (hS : ∀ w, HeapOk w0 H w → HeapOk w0 HS w) (hg : o.guard = some (j, want)) (hj : (ops[j]?).bind (·.dst) = some t) (ht : Nat.blt t N = true) (hl : look E t = some (0, .bool b)) (hb : (b == want) = false) (hN : (o.dst.all fun d => Nat.blt d N) = true)
    (h : SD P N w0 ops K HS fuel listed' (consO o.dst E) Γ H) : SD P N w0 ops K HS (fuel + 1) listed E Γ H := by
  intro a w he hw
  simp only [chkTake, Bool.and_eq_true] at hc
  refine wpAnyH_take (v := undef) hi hc.1 hc.2.1 hc.2.2 (fun c a w h => h.elim) (.inr ⟨wanted_off he hg hj ht hl hb, rfl⟩) (hS w hw) ?_
  rw [List.setIfInBounds_toArray, hls]
  exact h _ _ (he.putO hN) hw
theorem SD.takeon (i : Nat) {o : Oper} {d j t : Nat} {want b : Bool} {v : Value} {fuel : Nat} {listed : List Bool} (listed' : List Bool) (hi : ops[i]? = some o) (hc : chkTake ops listed i = true) (hls : listed.set i true = listed')
    (hS : ∀ w, HeapOk w0 H w → HeapOk w0 HS w) (hg : o.guard = some (j, want)) (hd : o.dst = some d) (hN : Nat.blt d N = true) (hj : (ops[j]?).bind (·.dst) = some t) (ht : Nat.blt t N = true) (hl : look E t = some (0, .bool b)) (hb : (b == want) = true) (hp : PureOp P N w0 E Γ HS 0 o v)
    (h : SD P N w0 ops K HS fuel listed' ((d, 0, v) :: E) Γ H) : SD P N w0 ops K HS (fuel + 1) listed E Γ H := by
  intro a w he hw
  simp only [chkTake, Bool.and_eq_true] at hc
  refine wpAnyH_take hi hc.1 hc.2.1 hc.2.2 (fun c a w h => h.elim) (.inl ⟨wanted_on he hg hj ht hl hb, fun w' hw' => hp a w' he hw' (gval_zero Γ)⟩) (hS w hw) ?_
  rw [hd, List.setIfInBounds_toArray, hls]
  exact h _ _ (he.put hN (Nat.zero_le _) (by rw [gval_zero]; rfl)) hw
theorem SQ.ung {dst : Option Tmp} {op : Op} {ty : TypeId} {pos : String} {after : Array Edge} {j : Nat} {want : Bool} {t : Nat} {b : Bool} (hj : (ops[j]?).bind (·.dst) = some t) (ht : Nat.blt t N = true) (hl : look E t = some (0, .bool b)) (hb : (b == want) = true)
    (h : SQ P N w0 H ops QA (⟨dst, op, ty, pos, after, none⟩ :: rest) E Γ) : SQ P N w0 H ops QA (⟨dst, op, ty, pos, after, some (j, want)⟩ :: rest) E Γ := by
  intro a he
  have hw := h a he
  unfold wpQuiet at hw ⊢
  rw [wanted_on he rfl hj ht hl hb]
  simp only [Region.wanted, if_true] at hw ⊢
  exact hw
theorem WC.drawH {id : Nat} {l : List Oper} (n : Nat) (listed : List Bool) (hm : P.follows .mixedOrders = true) (hn : l.length = n) (hl : List.replicate n false = listed)
    (h : SD P N w0 l.toArray (Q .normal) H n listed E Γ H) : WC P N w0 (.region id l.toArray true) Q E Γ H := WC.drawh H n listed hm hn hl h
theorem WC.condT {x : Operand} {c d : Code} (hx : ev E Γ 0 x = some (.bool true)) (h : WC P N w0 c Q E Γ H) : WC P N w0 (.cond x c d) Q E Γ H :=
  WC.cond hx (fun _ => h) (fun h => by cases h)
theorem WC.condF {x : Operand} {c d : Code} (hx : ev E Γ 0 x = some (.bool false)) (h : WC P N w0 d Q E Γ H) : WC P N w0 (.cond x c d) Q E Γ H :=
  WC.cond hx (fun h => by cases h) (fun _ => h)
/-- an own item's cells in other words -/
theorem SL.itemxs (i : Nat) {base n cap sz : Nat} {ao : Option Addr} {t : TypeId} {xs ys : List Value} {l : List Oper} (hi : H[i]? = some (.own base ao n cap t sz xs)) (e : xs = ys) (h : SL P N w0 ops Q l E Γ (H.set i (.own base ao n cap t sz ys))) : SL P N w0 ops Q l E Γ H := by
  subst e
  have : H.set i (.own base ao n cap t sz xs) = H := by
    refine List.ext_getElem? fun j => ?_
    rw [List.getElem?_set]
    split
    · rename_i hij
      subst hij
      split
      · exact hi.symm
      · rename_i h; rw [List.getElem?_eq_none (by omega)]
    · rfl
  rwa [this] at h

section ops
variable {c : Nat} {dst : Option Tmp} {x y z : Operand} {t t' ty : TypeId} {pos : String} {after : Array Edge} {g : Option (Nat × Bool)} {m n : Int}
theorem PureOp.pickT {v : Value} (hx : ev E Γ c x = some (.bool true)) (hy : ev E Γ c y = some v) : PureOp P N w0 E Γ H c ⟨dst, .pick x y z, ty, pos, after, g⟩ v := by
  intro a w he hw hc
  simp [execOp, ev_ok he hx hc, ev_ok he hy hc, asBool]
theorem PureOp.pickF {v : Value} (hx : ev E Γ c x = some (.bool false)) (hz : ev E Γ c z = some v) : PureOp P N w0 E Γ H c ⟨dst, .pick x y z, ty, pos, after, g⟩ v := by
  intro a w he hw hc
  simp [execOp, ev_ok he hx hc, ev_ok he hz hc, asBool]
/-- a sum of a natural number and a literal -/
theorem PureOp.addN {i k : Nat} (hx : ev E Γ c x = some (.int .i64 (i : Int))) (hy : ev E Γ c y = some (.int .i64 (k : Int))) (h : gval Γ c = true → (i : Int) + (k : Int) ≤ 9223372036854775807) : PureOp P N w0 E Γ H c ⟨dst, .binOp .add t x y t', ty, pos, after, g⟩ (.int .i64 ((i + k : Nat) : Int)) := by
  have := PureOp.add (P := P) (N := N) (w0 := w0) (E := E) (Γ := Γ) (H := H) (dst := dst) (t := t) (t' := t') (ty := ty) (pos := pos) (after := after) (g := g) hx hy (fun hc => ⟨by omega, h hc⟩)
  rw [show ((i + k : Nat) : Int) = (i : Int) + (k : Int) from by omega]
  exact this
/-- arithmetic of any kind of number, the result within the kind -/
theorem PureOp.addu {k : IntKind} (hx : ev E Γ c x = some (.int k m)) (hy : ev E Γ c y = some (.int k n)) (h : gval Γ c = true → k.wrap (m + n) = m + n) : PureOp P N w0 E Γ H c ⟨dst, .binOp .add t x y t', ty, pos, after, g⟩ (.int k (m + n)) := by
  intro a w he hw hc
  simp [execOp, ev_ok he hx hc, ev_ok he hy hc, eqGuard, binOp, Op.intArith, h hc]
theorem PureOp.subu {k : IntKind} (hx : ev E Γ c x = some (.int k m)) (hy : ev E Γ c y = some (.int k n)) (h : gval Γ c = true → k.wrap (m - n) = m - n) : PureOp P N w0 E Γ H c ⟨dst, .binOp .sub t x y t', ty, pos, after, g⟩ (.int k (m - n)) := by
  intro a w he hw hc
  simp [execOp, ev_ok he hx hc, ev_ok he hy hc, eqGuard, binOp, Op.intArith, h hc]
theorem PureOp.quou {k : IntKind} (hx : ev E Γ c x = some (.int k m)) (hy : ev E Γ c y = some (.int k n)) (h : gval Γ c = true → n ≠ 0 ∧ k.wrap (m.tdiv n) = m.tdiv n) : PureOp P N w0 E Γ H c ⟨dst, .binOp .quo t x y t', ty, pos, after, g⟩ (.int k (m.tdiv n)) := by
  intro a w he hw hc
  have := h hc
  simp [execOp, ev_ok he hx hc, ev_ok he hy hc, eqGuard, binOp, Op.intDiv, this.1, this.2]
theorem PureOp.neqnil {e : TypeId} {ao : Option Addr} {n cap : Nat} (hx : ev E Γ c x = some (.slice ao n cap)) (hy : ev E Γ c y = some (.slice none 0 0)) (ht : P.underlying t = some (.slice e)) : PureOp P N w0 E Γ H c ⟨dst, .binOp .neq t x y t', ty, pos, after, g⟩ (.bool (!ao.isNone)) := by
  intro a w he hw hc
  have h1 : (binOp .neq t (.slice ao n cap) (.slice none 0 0)).run P w = .ok (.bool (!ao.isNone)) w := by
    simp only [binOp]
    simp [run_equal_nil ht]
  have h2 : (eqGuard .neq t x y (.slice ao n cap) (.slice none 0 0)).run P w = .ok () w := by simp [eqGuard]
  simp [execOp, ev_ok he hx hc, ev_ok he hy hc, h1, h2]
theorem run_equal_pnil {e : TypeId} {p : Option Addr} (ht : P.underlying t = some (.pointer e)) (w : World) : (Op.equal t (.pointer p) (.pointer none)).run P w = .ok p.isNone w := by
  have h : ∀ d : Nat, (Op.equalIn (d + 1) t (.pointer p) (.pointer none)).run P w = .ok p.isNone w := fun d => by
    cases p <;> simp [Op.equalIn, run_underlying ht]
  simp [Op.equal, Op.maxDepth, h 9999]
theorem PureOp.eqlpnil {e : TypeId} {p : Option Addr} (hx : ev E Γ c x = some (.pointer p)) (hy : ev E Γ c y = some (.pointer none)) (ht : P.underlying t = some (.pointer e)) : PureOp P N w0 E Γ H c ⟨dst, .binOp .eql t x y t', ty, pos, after, g⟩ (.bool p.isNone) := by
  intro a w he hw hc
  have h1 : (binOp .eql t (.pointer p) (.pointer none)).run P w = .ok (.bool p.isNone) w := by
    simp only [binOp]
    simp [run_equal_pnil ht]
  have h2 : (eqGuard .eql t x y (.pointer p) (.pointer none)).run P w = .ok () w := by simp [eqGuard]
  simp [execOp, ev_ok he hx hc, ev_ok he hy hc, h1, h2]
theorem PureOp.neqpnil {e : TypeId} {p : Option Addr} (hx : ev E Γ c x = some (.pointer p)) (hy : ev E Γ c y = some (.pointer none)) (ht : P.underlying t = some (.pointer e)) : PureOp P N w0 E Γ H c ⟨dst, .binOp .neq t x y t', ty, pos, after, g⟩ (.bool (!p.isNone)) := by
  intro a w he hw hc
  have h1 : (binOp .neq t (.pointer p) (.pointer none)).run P w = .ok (.bool (!p.isNone)) w := by
    simp only [binOp]
    simp [run_equal_pnil ht]
  have h2 : (eqGuard .neq t x y (.pointer p) (.pointer none)).run P w = .ok () w := by simp [eqGuard]
  simp [execOp, ev_ok he hx hc, ev_ok he hy hc, h1, h2]
theorem PureOp.eqlpnil0 {e : TypeId} (hx : ev E Γ c x = some (.pointer none)) (hy : ev E Γ c y = some (.pointer none)) (ht : P.underlying t = some (.pointer e)) : PureOp P N w0 E Γ H c ⟨dst, .binOp .eql t x y t', ty, pos, after, g⟩ (.bool true) := PureOp.eqlpnil hx hy ht
theorem PureOp.neqpnil0 {e : TypeId} (hx : ev E Γ c x = some (.pointer none)) (hy : ev E Γ c y = some (.pointer none)) (ht : P.underlying t = some (.pointer e)) : PureOp P N w0 E Γ H c ⟨dst, .binOp .neq t x y t', ty, pos, after, g⟩ (.bool false) := PureOp.neqpnil hx hy ht
theorem PureOp.eqlpnil1 {e : TypeId} {A : Addr} (hx : ev E Γ c x = some (.pointer (some A))) (hy : ev E Γ c y = some (.pointer none)) (ht : P.underlying t = some (.pointer e)) : PureOp P N w0 E Γ H c ⟨dst, .binOp .eql t x y t', ty, pos, after, g⟩ (.bool false) := PureOp.eqlpnil hx hy ht
theorem PureOp.neqpnil1 {e : TypeId} {A : Addr} (hx : ev E Γ c x = some (.pointer (some A))) (hy : ev E Γ c y = some (.pointer none)) (ht : P.underlying t = some (.pointer e)) : PureOp P N w0 E Γ H c ⟨dst, .binOp .neq t x y t', ty, pos, after, g⟩ (.bool true) := PureOp.neqpnil hx hy ht
end ops
/-- a call that hands back a value with a property; and one whose new slice is known -/
theorem SL.callvM {o : Oper} {d f : Nat} {x : Operand} {xs : Array Operand} {ts : Array TypeId} {vs : List Value} {σ : Type} {V : σ → Value} {I : σ → Prop} {news : σ → Heap} (ho : o.op = .call { callee := .value x, args := xs, argTypes := ts }) (hg : o.guard = none) (hd : o.dst = some d) (hN : Nat.blt d N = true)
    (hx : ev E Γ 0 x = some (.func (.func f) #[] #[])) (hxs : evs E Γ 0 xs.toList = some vs) (hf : callable P f = true)
    (hC : MC P f vs w0 [] V (fun _ => []) I news)
    (h : ∀ t, I t → SL P N w0 ops Q rest ((d, 0, V t) :: E) Γ (H ++ news t)) : SL P N w0 ops Q (o :: rest) E Γ H :=
  SL.callM [] ho hg hd hN hx hxs hf (by simp) hC rfl (fun _ _ => rfl) (fun t ht => by simpa [putAll] using h t ht)
/-- what a call handed back: a slice of new memory -/
theorem HeapOk.addslice {w w' : World} {n cap sz : Nat} {ao : Option Addr} {t : TypeId} {cs : List Value} (hw : HeapOk w0 H w) (hb : Below w.heap.size w w') (hown : w'.ownsRow w.heap.size t sz (.slice ao n cap) n cs) : HeapOk w0 (H ++ [.own w0.heap.size ao n cap t sz cs]) w' :=
  hw.add (x := .own w0.heap.size ao n cap t sz cs) hb (ownsRow_weaken hown hw.below.size) (fun b hb' => (hown.lt b (by
    cases ao with
    | none => cases hb'
    | some a =>
      have h1 : (some a : Option Addr).map (·.block) = some b := hb'
      simpa [Value.ownBlock] using h1)).1)
end Go.Proofs.Ytblmafknmeicfaa.Eng
