/-
  A small engine for walking through code: a frame as a list of known slots, own memory as a list of items, old memory as it was when the call began. One lemma for each kind of operation. Of no program.
-/
import Derived.WalkKit
import Derived.Deep.Quiet
import Derived.Deep.LoopGhost
import Derived.Maps.AppendAt
import Derived.KernelRfl
namespace Go.Proofs.Ytblmafknmeicfaa.Eng
open Go Go.RowKit
set_option linter.unusedVariables false
set_option linter.unusedSimpArgs false
set_option linter.unusedSectionVars false

/-! ### guards -/
abbrev Gds := List (Nat × Bool)
def gval : Gds → Nat → Bool
  | [], _ => true
  | (p, b) :: r, k => bif Nat.beq k (r.length + 1) then gval r p && b else gval r k
def anc : Gds → Nat → Nat → Bool
  | [], c, k => Nat.beq c k || Nat.beq k 0
  | (p, _) :: r, c, k => Nat.beq c k || (!(Nat.beq k (r.length + 1)) && anc r (bif Nat.beq c (r.length + 1) then p else c) k)
def gget : Gds → Nat → Option (Nat × Bool)
  | [], _ => none
  | (p, b) :: r, k => bif Nat.beq k (r.length + 1) then (bif Nat.ble p r.length then some (p, b) else none) else gget r k

theorem nat_beq_iff {a b : Nat} : Nat.beq a b = true ↔ a = b := by
  constructor
  · exact Nat.eq_of_beq_eq_true
  · rintro rfl; exact Nat.beq_refl a

theorem gval_nil (k : Nat) : gval [] k = true := rfl
theorem gval_cons_ne {p : Nat} {b : Bool} {r : Gds} {k : Nat} (h : k ≠ r.length + 1) : gval ((p, b) :: r) k = gval r k := by
  have : Nat.beq k (r.length + 1) = false := by
    cases hb : Nat.beq k (r.length + 1) with
    | false => rfl
    | true => exact absurd (nat_beq_iff.1 hb) h
  simp [gval, this]
theorem gval_cons_eq {p : Nat} {b : Bool} {r : Gds} : gval ((p, b) :: r) (r.length + 1) = (gval r p && b) := by
  have : Nat.beq (r.length + 1) (r.length + 1) = true := nat_beq_iff.2 rfl
  simp [gval, this]
theorem gval_zero (Γ : Gds) : gval Γ 0 = true := by
  induction Γ with
  | nil => rfl
  | cons x r ih => obtain ⟨p, b⟩ := x; rw [gval_cons_ne (by omega)]; exact ih
theorem anc_ok {Γ : Gds} : ∀ {c k : Nat}, anc Γ c k = true → gval Γ c = true → gval Γ k = true := by
  induction Γ with
  | nil => intro c k _ _; rfl
  | cons x r ih =>
    obtain ⟨p, b⟩ := x
    intro c k h hc
    simp only [anc, Bool.or_eq_true, Bool.and_eq_true] at h
    rcases h with h | ⟨h1, h2⟩
    · rw [← nat_beq_iff.1 h]; exact hc
    · have hk : k ≠ r.length + 1 := by
        intro e
        rw [nat_beq_iff.2 e] at h1
        simp at h1
      rw [gval_cons_ne hk]
      by_cases e : c = r.length + 1
      · subst e
        rw [nat_beq_iff.2 rfl] at h2
        rw [gval_cons_eq, Bool.and_eq_true] at hc
        exact ih h2 hc.1
      · have hb : Nat.beq c (r.length + 1) = false := by
          cases hb : Nat.beq c (r.length + 1) with
          | false => rfl
          | true => exact absurd (nat_beq_iff.1 hb) e
        rw [hb] at h2
        rw [gval_cons_ne e] at hc
        exact ih h2 hc
theorem gget_ok {Γ : Gds} : ∀ {c p : Nat} {b : Bool}, gget Γ c = some (p, b) → gval Γ c = (gval Γ p && b) ∧ c ≤ Γ.length := by
  induction Γ with
  | nil => intro c p b h; simp [gget] at h
  | cons x r ih =>
    obtain ⟨p', b'⟩ := x
    intro c p b h
    by_cases e : c = r.length + 1
    · subst e
      simp only [gget, nat_beq_iff.2 rfl, cond_true] at h
      cases hb : Nat.ble p' r.length with
      | false => simp [hb] at h
      | true =>
        simp [hb] at h
        obtain ⟨rfl, rfl⟩ := h
        have hle : p' ≤ r.length := Nat.le_of_ble_eq_true hb
        rw [gval_cons_eq, gval_cons_ne (by omega)]
        exact ⟨rfl, by simp⟩
    · have hb : Nat.beq c (r.length + 1) = false := by
        cases hb : Nat.beq c (r.length + 1) with
        | false => rfl
        | true => exact absurd (nat_beq_iff.1 hb) e
      simp only [gget, hb, cond_false] at h
      obtain ⟨h1, h2⟩ := ih h
      have hp : p ≠ r.length + 1 := by
        intro hp
        have : gget r c = some (p, b) := h
        clear h1
        -- the parent lies below
        have key : ∀ (r : Gds) (c p : Nat) (b : Bool), gget r c = some (p, b) → p < r.length := by
          intro r
          induction r with
          | nil => intro c p b h; simp [gget] at h
          | cons y r ih2 =>
            obtain ⟨q, d⟩ := y
            intro c p b h
            cases hbb : Nat.beq c (r.length + 1) with
            | true =>
              simp only [gget, hbb, cond_true] at h
              cases hc2 : Nat.ble q r.length with
              | false => simp [hc2] at h
              | true =>
                simp [hc2] at h
                have := Nat.le_of_ble_eq_true hc2
                simp; omega
            | false =>
              simp only [gget, hbb, cond_false] at h
              have := ih2 c p b h
              simp; omega
        have := key r c p b this
        omega
      rw [gval_cons_ne e, gval_cons_ne hp]
      exact ⟨h1, by simp; omega⟩

/-! ### frames -/
abbrev Env := List (Nat × Nat × Value)
def look : Env → Nat → Option (Nat × Value)
  | [], _ => none
  | (s, k, v) :: r, t => bif Nat.beq s t then some (k, v) else look r t
def ev (E : Env) (Γ : Gds) (c : Nat) : Operand → Option Value
  | .const v => some v
  | .func f => some (.func (.func f) #[] #[])
  | .global g => some (.pointer (some ⟨g, 0, none⟩))
  | .tmp t => match look E t with
    | some (k, v) => bif anc Γ c k then some v else none
    | none => none
def evs (E : Env) (Γ : Gds) (c : Nat) : List Operand → Option (List Value)
  | [] => some []
  | x :: r => match ev E Γ c x, evs E Γ c r with
    | some v, some vs => some (v :: vs)
    | _, _ => none

structure EnvOk (N : Nat) (E : Env) (Γ : Gds) (a : Act) : Prop where
  size : a.tmps.size = N
  defers : a.defers = []
  at_ : ∀ t k v, look E t = some (k, v) → k ≤ Γ.length ∧ a.tmps.getD t undef = bif gval Γ k then v else undef

theorem ev_ok {N : Nat} {E : Env} {Γ : Gds} {a : Act} {c : Nat} {x : Operand} {v : Value} (he : EnvOk N E Γ a) (hx : ev E Γ c x = some v) (hc : gval Γ c = true) : a.eval x = v := by
  cases x with
  | const u => simp [ev] at hx; subst hx; rfl
  | func f => simp [ev] at hx; subst hx; rfl
  | global g => simp [ev] at hx; subst hx; rfl
  | tmp t =>
    simp only [ev] at hx
    cases hl : look E t with
    | none => simp [hl] at hx
    | some kv =>
      obtain ⟨k, u⟩ := kv
      simp only [hl] at hx
      cases ha : anc Γ c k with
      | false => simp [ha] at hx
      | true =>
        simp [ha] at hx
        subst hx
        have := (he.at_ t k u hl).2
        rw [anc_ok ha hc] at this
        simpa [Act.eval] using this
theorem evs_ok {N : Nat} {E : Env} {Γ : Gds} {a : Act} {c : Nat} (he : EnvOk N E Γ a) (hc : gval Γ c = true) : ∀ {xs : List Operand} {vs : List Value}, evs E Γ c xs = some vs → xs.map a.eval = vs := by
  intro xs
  induction xs with
  | nil => intro vs h; simp [evs] at h; simp [h]
  | cons x r ih =>
    intro vs h
    simp only [evs] at h
    cases h1 : ev E Γ c x with
    | none => simp [h1] at h
    | some v =>
      cases h2 : evs E Γ c r with
      | none => simp [h1, h2] at h
      | some us =>
        simp [h1, h2] at h
        subst h
        simp [ev_ok he h1 hc, ih h2]
theorem EnvOk.put {N : Nat} {E : Env} {Γ : Gds} {a : Act} (he : EnvOk N E Γ a) {d c : Nat} {v u : Value} (hd : Nat.blt d N = true) (hc : c ≤ Γ.length) (hu : u = bif gval Γ c then v else undef) :
    EnvOk N ((d, c, v) :: E) Γ (a.put (some d) u) := by
  have hdN : d < N := Nat.le_of_ble_eq_true hd
  refine ⟨by simp [Act.put, he.size], he.defers, fun t k w h => ?_⟩
  cases hb : Nat.beq d t with
  | true =>
    have : d = t := nat_beq_iff.1 hb
    subst this
    simp only [look, hb, cond_true, Option.some.injEq, Prod.mk.injEq] at h
    obtain ⟨rfl, rfl⟩ := h
    refine ⟨hc, ?_⟩
    have := he.size
    simp [Act.put, Array.getD, hdN, this, hu]
  | false =>
    have hne : d ≠ t := by rintro rfl; rw [nat_beq_iff.2 rfl] at hb; cases hb
    simp only [look, hb, cond_false] at h
    obtain ⟨h1, h2⟩ := he.at_ t k w h
    refine ⟨h1, ?_⟩
    rw [← h2]
    simp only [Act.put]
    simp only [Array.getD_eq_getD_getElem?]
    rw [Array.getElem?_setIfInBounds_ne hne]
theorem EnvOk.grow {N : Nat} {E : Env} {Γ : Gds} {a : Act} (he : EnvOk N E Γ a) (x : Nat × Bool) : EnvOk N E (x :: Γ) a := by
  refine ⟨he.size, he.defers, fun t k v h => ?_⟩
  obtain ⟨h1, h2⟩ := he.at_ t k v h
  obtain ⟨p, b⟩ := x
  exact ⟨by simp; omega, by rw [gval_cons_ne (by omega)]; exact h2⟩

/-- the known slots of the first frame hold in the second -/
def Sub : Env → Env → Gds → Prop
  | [], _, _ => True
  | (t, k, v) :: r, E, Γ => k = 0 ∧ ev E Γ 0 (.tmp t) = some v ∧ Sub r E Γ
theorem Sub.look {E E' : Env} {Γ : Gds} : ∀ {t k : Nat} {v : Value}, Sub E' E Γ → Eng.look E' t = some (k, v) → k = 0 ∧ ev E Γ 0 (.tmp t) = some v := by
  induction E' with
  | nil => intro t k v _ h; simp [Eng.look] at h
  | cons x r ih =>
    obtain ⟨s, k', v'⟩ := x
    intro t k v hs h
    obtain ⟨h1, h2, h3⟩ := hs
    cases hb : Nat.beq s t with
    | true =>
      have : s = t := nat_beq_iff.1 hb
      subst this
      simp only [Eng.look, hb, cond_true, Option.some.injEq, Prod.mk.injEq] at h
      obtain ⟨rfl, rfl⟩ := h
      exact ⟨h1, h2⟩
    | false =>
      simp only [Eng.look, hb, cond_false] at h
      exact ih h3 h
theorem EnvOk.sub {N : Nat} {E E' : Env} {Γ : Gds} {a : Act} (he : EnvOk N E Γ a) (hs : Sub E' E Γ) : EnvOk N E' [] a := by
  refine ⟨he.size, he.defers, fun t k v h => ?_⟩
  obtain ⟨rfl, h2⟩ := hs.look h
  have := ev_ok he h2 (gval_zero Γ)
  exact ⟨by simp, by simpa [Act.eval, gval] using this⟩

/-! ### memory -/
structure Item where
  fp : Nat → Prop
  ok : World → Prop
  inb : ∀ w, ok w → ∀ b, fp b → b < w.heap.size
  stable : ∀ w w', (∀ b, fp b → w'.heap[b]? = w.heap[b]?) → ok w → ok w'
def vcells : Value → List Value
  | .agg cs => cs.toList
  | v => [v]
theorem vcells_eq (v : Value) : v.cells = (vcells v).toArray := by cases v <;> simp [vcells, Value.cells]
def Item.cells (b : Nat) (cs : List Value) (t : TypeId) : Item where
  fp := fun k => k = b
  ok := fun w => w.heap[b]? = some (.cells cs.toArray t (0, 0))
  inb := fun w h k hk => by subst hk; exact (Array.getElem?_eq_some_iff.1 h).1
  stable := fun w w' hs h => (hs b rfl).trans h
/-- a slice of the call's own: n elements of 'sz' cells -/
def Item.own (base : Nat) (ao : Option Addr) (n cap : Nat) (t : TypeId) (sz : Nat) (xs : List Value) : Item where
  fp := fun k => ao.map (·.block) = some k
  ok := fun w => w.ownsRow base t sz (.slice ao n cap) n xs
  inb := fun w h k hk => by
    refine (h.lt k ?_).2
    cases ao with
    | none => simp at hk
    | some a => simpa [Value.ownBlock] using hk
  stable := fun w w' hs h => by
    refine ⟨h.1, ?_⟩
    rcases h.2 with h2 | ⟨g, cap', cur, hv, hg, hh, r⟩
    · exact Or.inl h2
    · refine Or.inr ⟨g, cap', cur, hv, hg, ?_, r⟩
      rw [hs g (by simp only [Value.slice.injEq] at hv; rw [hv.1]; rfl)]
      exact hh
abbrev Heap := List Item
structure HeapOk (w0 : World) (H : Heap) (w : World) : Prop where
  below : Below w0.heap.size w0 w
  ok : ∀ x ∈ H, x.ok w
  own : ∀ x ∈ H, ∀ b, x.fp b → w0.heap.size ≤ b
  disj : H.Pairwise fun x y => ∀ b, x.fp b → ¬ y.fp b

theorem HeapOk.mem {w0 : World} {H : Heap} {w : World} (h : HeapOk w0 H w) {i : Nat} {x : Item} (hi : H[i]? = some x) : x.ok w := h.ok x (List.mem_of_getElem? hi)
theorem HeapOk.start (w0 : World) : HeapOk w0 [] w0 := ⟨Below.refl _ _, by simp, by simp, List.Pairwise.nil⟩

theorem HeapOk.below_keep {w0 : World} {H : Heap} {w w' : World} (h : HeapOk w0 H w) (hb : Below w.heap.size w w') : HeapOk w0 H w' :=
  ⟨h.below.trans (hb.mono h.below.size), fun x hx => x.stable w w' (fun b hb' => hb.block b (x.inb w (h.ok x hx) b hb')) (h.ok x hx), h.own, h.disj⟩
theorem HeapOk.add {w0 : World} {H : Heap} {w w' : World} (h : HeapOk w0 H w) (hb : Below w.heap.size w w') {x : Item} (hx : x.ok w') (hf : ∀ b, x.fp b → w.heap.size ≤ b) : HeapOk w0 (H ++ [x]) w' := by
  have h' := h.below_keep hb
  refine ⟨h'.below, ?_, ?_, ?_⟩
  · intro y hy
    rcases List.mem_append.1 hy with hy | hy
    · exact h'.ok y hy
    · simp at hy; subst hy; exact hx
  · intro y hy b hb'
    rcases List.mem_append.1 hy with hy | hy
    · exact h'.own y hy b hb'
    · simp at hy; subst hy; exact Nat.le_trans h.below.size (hf b hb')
  · rw [List.pairwise_append]
    refine ⟨h'.disj, List.pairwise_singleton _ _, ?_⟩
    intro y hy z hz b hb1 hb2
    simp at hz
    subst hz
    have := y.inb w (h.ok y hy) b hb1
    have := hf b hb2
    omega
theorem HeapOk.drew {w0 : World} {H : Heap} {w : World} (h : HeapOk w0 H w) : HeapOk w0 H { w with drawn := w.drawn + 1 } :=
  ⟨⟨h.below.os, h.below.tape, h.below.output, h.below.size, h.below.block⟩, fun x hx => x.stable w _ (fun b _ => rfl) (h.ok x hx), h.own, h.disj⟩

theorem HeapOk.take {w0 : World} {H : Heap} {w : World} (h : HeapOk w0 H w) (n : Nat) : HeapOk w0 (H.take n) w :=
  ⟨h.below, fun x hx => h.ok x (List.mem_of_mem_take hx), fun x hx => h.own x (List.mem_of_mem_take hx), h.disj.sublist (List.take_sublist n H)⟩
theorem pairwise_set {α : Type} {R : α → α → Prop} {l : List α} {i : Nat} {x y : α} (hl : l.Pairwise R) (hi : l[i]? = some x) (h1 : ∀ z ∈ l, R z x → R z y) (h2 : ∀ z ∈ l, R x z → R y z) : (l.set i y).Pairwise R := by
  induction l generalizing i with
  | nil => simp
  | cons a r ih =>
    rw [List.pairwise_cons] at hl
    cases i with
    | zero =>
      simp at hi
      subst hi
      simp only [List.set_cons_zero, List.pairwise_cons]
      exact ⟨fun z hz => h2 z (List.mem_cons_of_mem _ hz) (hl.1 z hz), hl.2⟩
    | succ i =>
      simp at hi
      simp only [List.set_cons_succ, List.pairwise_cons]
      refine ⟨fun z hz => ?_, ih hl.2 hi (fun z hz => h1 z (List.mem_cons_of_mem _ hz)) (fun z hz => h2 z (List.mem_cons_of_mem _ hz))⟩
      rcases List.mem_or_eq_of_mem_set hz with hz | rfl
      · exact hl.1 z hz
      · exact h1 a (List.mem_cons_self) (hl.1 x (List.mem_of_getElem? hi))

/-- one item changes, within its own blocks or into new ones -/
theorem HeapOk.change {w0 : World} {H : Heap} {w w' : World} (h : HeapOk w0 H w) {i : Nat} {x y : Item} (hi : H[i]? = some x)
    (hsz : w.heap.size ≤ w'.heap.size) (hos : w'.os = w.os) (htape : w'.tape = w.tape) (hout : w'.output = w.output)
    (hb : ∀ b, b < w.heap.size → ¬ x.fp b → w'.heap[b]? = w.heap[b]?) (hy : y.ok w') (hf : ∀ b, y.fp b → x.fp b ∨ w.heap.size ≤ b) : HeapOk w0 (H.set i y) w' := by
  have hxm := List.mem_of_getElem? hi
  have hlt : i < H.length := (List.getElem?_eq_some_iff.1 hi).1
  refine ⟨?_, ?_, ?_, ?_⟩
  · refine h.below.trans ⟨hos, htape, hout, hsz, fun b hbb => hb b (Nat.lt_of_lt_of_le hbb h.below.size) (fun hfb => ?_)⟩
    have := h.own x hxm b hfb
    omega
  · intro z hz
    obtain ⟨j, hj⟩ := List.mem_iff_getElem?.1 hz
    rw [List.getElem?_set] at hj
    by_cases e : i = j
    · subst e
      rw [if_pos rfl, if_pos hlt] at hj
      simp at hj; subst hj; exact hy
    · rw [if_neg e] at hj
      have hzm := List.mem_of_getElem? hj
      refine z.stable w w' (fun b hfb => hb b (z.inb w (h.ok z hzm) b hfb) (fun hxb => ?_)) (h.ok z hzm)
      rcases Nat.lt_or_gt_of_ne e with hl | hl
      · have := List.pairwise_iff_getElem.1 h.disj i j hlt (List.getElem?_eq_some_iff.1 hj).1 hl b
        rw [(List.getElem?_eq_some_iff.1 hi).2, (List.getElem?_eq_some_iff.1 hj).2] at this
        exact this hxb hfb
      · have := List.pairwise_iff_getElem.1 h.disj j i (List.getElem?_eq_some_iff.1 hj).1 hlt hl b
        rw [(List.getElem?_eq_some_iff.1 hi).2, (List.getElem?_eq_some_iff.1 hj).2] at this
        exact this hfb hxb
  · intro z hz b hfb
    rcases List.mem_or_eq_of_mem_set hz with hz | rfl
    · exact h.own z hz b hfb
    · rcases hf b hfb with hx | hx
      · exact h.own x hxm b hx
      · exact Nat.le_trans h.below.size hx
  · refine pairwise_set h.disj hi (fun z hz hr b hzb hyb => ?_) (fun z hz hr b hyb hzb => ?_)
    · rcases hf b hyb with hx | hx
      · exact hr b hzb hx
      · have := z.inb w (h.ok z hz) b hzb; omega
    · rcases hf b hyb with hx | hx
      · exact hr b hx hzb
      · have := z.inb w (h.ok z hz) b hzb; omega

/-- a cell that reads so in every world of the class -/
def CellIs (w0 : World) (H : Heap) (A : Addr) (v : Value) : Prop := ∀ w, HeapOk w0 H w → w.cell? A = some v
def RowIs (w0 : World) (H : Heap) (A : Addr) (vs : List Value) : Prop := ∀ j v, vs[j]? = some v → CellIs w0 H (A.add j) v
theorem CellIs.cells {w0 : World} {H : Heap} (i : Nat) {b o : Nat} {cs : List Value} {t : TypeId} {v : Value} (hi : H[i]? = some (.cells b cs t)) (hv : cs[o]? = some v) : CellIs w0 H ⟨b, o, none⟩ v := by
  intro w h
  have hg : w.heap[b]? = some (.cells cs.toArray t (0, 0)) := h.mem hi
  rw [cell_of_row w b o _ t (0, 0) hg]
  simpa using hv
theorem CellIs.old {w0 : World} {H : Heap} {A : Addr} {v : Value} (hA : A.block < w0.heap.size) (hv : w0.cell? A = some v) : CellIs w0 H A v :=
  fun w h => (h.below.cell hA).trans hv
theorem CellIs.old' {w0 : World} {H : Heap} {A : Addr} {v : Value} (hv : w0.cell? A = some v) : CellIs w0 H A v :=
  CellIs.old (World.block_lt_of_cell? w0 A hv) hv
theorem CellIs.own {w0 : World} {H : Heap} (i : Nat) {base g n cap sz o : Nat} {t : TypeId} {xs : List Value} {v : Value} (hi : H[i]? = some (.own base (some ⟨g, 0, none⟩) n cap t sz xs)) (hv : xs[o]? = some v) : CellIs w0 H ⟨g, o, none⟩ v := by
  intro w h
  have hg : w.ownsRow base t sz (.slice (some ⟨g, 0, none⟩) n cap) n xs := h.mem hi
  have := hg.cells (g := g) rfl o v hv
  rwa [show (⟨g, 0, none⟩ : Addr).add o = ⟨g, o, none⟩ from by unfold Addr.add; split <;> simp_all] at this
theorem add_lit (b o n : Nat) : (⟨b, o, none⟩ : Addr).add n = ⟨b, o + n, none⟩ := by unfold Addr.add; split <;> simp_all
theorem RowIs.cells {w0 : World} {H : Heap} (i : Nat) {b : Nat} {cs : List Value} {t : TypeId} {vs : List Value} (o n : Nat) (hi : H[i]? = some (.cells b cs t)) (hv : (cs.drop o).take n = vs) : RowIs w0 H ⟨b, o, none⟩ vs := by
  intro j v hj
  rw [add_lit]
  refine CellIs.cells i hi ?_
  rw [← hv, List.getElem?_take] at hj
  split at hj
  · rw [List.getElem?_drop] at hj; simpa using hj
  · cases hj

/-! ### lists -/
def nth {α : Type} [Inhabited α] (l : List α) (i : Nat) : α := l.getD i default
theorem nth_mem {α : Type} [Inhabited α] {l : List α} {i : Nat} (h : i < l.length) : nth l i ∈ l := by
  unfold nth
  rw [List.getD_eq_getElem?_getD, List.getElem?_eq_getElem h]
  exact List.getElem_mem h
theorem nth_get {α : Type} [Inhabited α] {l : List α} {i : Nat} (h : i < l.length) : l[i]? = some (nth l i) := by
  unfold nth
  rw [List.getD_eq_getElem?_getD, List.getElem?_eq_getElem h]
  rfl
theorem nth_out {α : Type} [Inhabited α] {l : List α} {i : Nat} (h : l.length ≤ i) : nth l i = default := by
  unfold nth
  rw [List.getD_eq_getElem?_getD, List.getElem?_eq_none h]
  rfl
theorem drop_nth {α : Type} [Inhabited α] {l : List α} {i : Nat} (h : i < l.length) : l.drop i = nth l i :: l.drop (i + 1) := by
  rw [List.drop_eq_getElem_cons h]
  have := nth_get h
  rw [List.getElem?_eq_getElem h] at this
  injection this with this
  rw [this]
theorem nth_map {α β : Type} [Inhabited α] [Inhabited β] (f : α → β) {l : List α} {i : Nat} (h : i < l.length) : nth (l.map f) i = f (nth l i) := by
  have h1 := nth_get h
  have h2 : (l.map f)[i]? = some (nth (l.map f) i) := nth_get (by simpa using h)
  rw [List.getElem?_map, h1] at h2
  simpa using h2.symm
theorem take_nth {α : Type} [Inhabited α] {l : List α} {i : Nat} (h : i < l.length) : l.take (i + 1) = l.take i ++ [nth l i] := by
  rw [List.take_add_one, nth_get h]; rfl
def In64 (n : Int) : Prop := -9223372036854775808 ≤ n ∧ n ≤ 9223372036854775807
/-! ### slices -/
def blk : Option Addr → Nat
  | some a => a.block
  | none => 0
def off : Option Addr → Nat
  | some a => a.off
  | none => 0
/-- a slice that can be read in world w: n elements of sz cells; F i j: cell j of element i -/
structure SliceIn (w : World) (sz : Nat) (ao : Option Addr) (n cap : Nat) (F : Nat → Nat → Value) : Prop where
  le : n ≤ cap
  max : cap ≤ maxLen
  there : n = 0 ∨ ∃ a, ao = some a ∧ a.spot = none
  cell : ∀ i, i < n → ∀ j, j < sz → w.cell? ⟨blk ao, off ao + i * sz + j, none⟩ = some (F i j)
theorem SliceIn.below {w w' : World} {sz : Nat} {ao : Option Addr} {n cap : Nat} {F : Nat → Nat → Value} (h : SliceIn w sz ao n cap F) (hb : Below w.heap.size w w') : SliceIn w' sz ao n cap F :=
  ⟨h.le, h.max, h.there, fun i hi j hj => by
    have hc := h.cell i hi j hj
    rw [hb.cell (World.block_lt_of_cell? w _ hc)]; exact hc⟩
/-- the address of a slice's array is one that can be counted from -/
def AoOk (w0 : World) (H : Heap) (ao : Option Addr) (n : Nat) : Prop := ∀ w, HeapOk w0 H w → n = 0 ∨ ∃ a, ao = some a ∧ a.spot = none
theorem AoOk.in_ {w0 : World} {H : Heap} {sz : Nat} {ao : Option Addr} {n cap : Nat} {F : Nat → Nat → Value} (h : SliceIn w0 sz ao n cap F) : AoOk w0 H ao n := fun _ _ => h.there
theorem AoOk.own {w0 : World} {H : Heap} (i : Nat) {base n cap sz : Nat} {ao : Option Addr} {t : TypeId} {xs : List Value} (hi : H[i]? = some (.own base ao n cap t sz xs)) : AoOk w0 H ao n := by
  intro w h
  have hg : w.ownsRow base t sz (.slice ao n cap) n xs := h.mem hi
  rcases hg.2 with ⟨hv, h0⟩ | ⟨g, cap', cur, hv, _⟩
  · exact .inl h0
  · simp only [Value.slice.injEq] at hv
    exact .inr ⟨_, hv.1, rfl⟩
theorem CellIs.in_ {w0 : World} {H : Heap} {sz : Nat} {ao : Option Addr} {n cap : Nat} {F : Nat → Nat → Value} (h : SliceIn w0 sz ao n cap F) (i j : Nat) (hi : i < n) (hj : j < sz) : CellIs w0 H ⟨blk ao, off ao + i * sz + j, none⟩ (F i j) := CellIs.old' (h.cell i hi j hj)
def rowOf (f : Nat → Value) (s : Nat) : Nat → List Value
  | 0 => []
  | n + 1 => f s :: rowOf f (s + 1) n
theorem rowOf_get (f : Nat → Value) : ∀ (n s j : Nat) (v : Value), (rowOf f s n)[j]? = some v → j < n ∧ f (s + j) = v := by
  intro n
  induction n with
  | zero => intro s j v h; simp [rowOf] at h
  | succ n ih =>
    intro s j v h
    cases j with
    | zero => simp [rowOf] at h; exact ⟨by omega, by simpa using h⟩
    | succ j =>
      simp [rowOf] at h
      obtain ⟨h1, h2⟩ := ih (s + 1) j v h
      exact ⟨by omega, by rw [← h2]; congr 1; omega⟩
theorem RowIs.in_ {w0 : World} {H : Heap} {sz : Nat} {ao : Option Addr} {n cap : Nat} {F : Nat → Nat → Value} (h : SliceIn w0 sz ao n cap F) (i s m : Nat) (hi : i < n) (hm : s + m ≤ sz) : RowIs w0 H ⟨blk ao, off ao + i * sz + s, none⟩ (rowOf (F i) s m) := by
  intro j v hj
  rw [add_lit]
  obtain ⟨h1, h2⟩ := rowOf_get _ _ _ _ _ hj
  rw [← h2, Nat.add_assoc]
  exact CellIs.in_ h i (s + j) hi (by omega)
theorem CellIs.ownc {w0 : World} {H : Heap} (k : Nat) {base n cap sz : Nat} {ao : Option Addr} {t : TypeId} {xs : List Value} {v : Value} (hk : H[k]? = some (.own base ao n cap t sz xs)) (i j : Nat) (hv : xs[i * sz + j]? = some v) : CellIs w0 H ⟨blk ao, off ao + i * sz + j, none⟩ v := by
  intro w h
  have hg : w.ownsRow base t sz (.slice ao n cap) n xs := h.mem hk
  rcases hg.2 with ⟨hn, h0⟩ | ⟨g, cap', cur, hv', _⟩
  · have := hg.1
    rw [h0] at this
    simp at this
    subst this
    simp at hv
  · simp only [Value.slice.injEq] at hv'
    obtain ⟨rfl, _, _⟩ := hv'
    have := hg.cells (g := g) rfl _ v hv
    rw [show (⟨g, 0, none⟩ : Addr).add (i * sz + j) = ⟨g, i * sz + j, none⟩ from by unfold Addr.add; split <;> simp_all] at this
    simpa [blk, off, Nat.add_assoc] using this
theorem RowIs.ownc {w0 : World} {H : Heap} (k : Nat) {base n cap sz : Nat} {ao : Option Addr} {t : TypeId} {xs : List Value} (hk : H[k]? = some (.own base ao n cap t sz xs)) (i s m : Nat) (F : Nat → Value) (hv : ∀ j, j < m → xs[i * sz + (s + j)]? = some (F (s + j))) : RowIs w0 H ⟨blk ao, off ao + i * sz + s, none⟩ (rowOf F s m) := by
  intro j v hj
  rw [add_lit]
  obtain ⟨h1, h2⟩ := rowOf_get _ _ _ _ _ hj
  rw [← h2, Nat.add_assoc]
  exact CellIs.ownc k hk i (s + j) (hv j h1)
theorem SliceIn.of_own {w : World} {base n cap sz : Nat} {ao : Option Addr} {t : TypeId} {xs : List Value} {F : Nat → Nat → Value} (hg : w.ownsRow base t sz (.slice ao n cap) n xs) (hF : ∀ i, i < n → ∀ j, j < sz → xs[i * sz + j]? = some (F i j)) : SliceIn w sz ao n cap F := by
  rcases hg.2 with ⟨hv, h0⟩ | ⟨g, cap', cur, hv', hb, hh, hle, hmax, r⟩
  · simp only [Value.slice.injEq] at hv
    obtain ⟨_, rfl, rfl⟩ := hv
    exact ⟨Nat.le_refl _, by simp [maxLen], .inl rfl, fun i hi => absurd hi (by omega)⟩
  · simp only [Value.slice.injEq] at hv'
    obtain ⟨rfl, _, rfl⟩ := hv'
    refine ⟨hle, hmax, .inr ⟨_, rfl, rfl⟩, fun i hi j hj => ?_⟩
    have := hg.cells (g := g) rfl _ _ (hF i hi j hj)
    rw [show (⟨g, 0, none⟩ : Addr).add (i * sz + j) = ⟨g, i * sz + j, none⟩ from by unfold Addr.add; split <;> simp_all] at this
    simpa [blk, off, Nat.add_assoc] using this

/-! ### what is to be shown of an operation, of a list of operations, of code -/
variable {P : Program} {N : Nat} {w0 : World}
def PureOp (P : Program) (N : Nat) (w0 : World) (E : Env) (Γ : Gds) (H : Heap) (c : Nat) (o : Oper) (v : Value) : Prop :=
  ∀ a w, EnvOk N E Γ a → HeapOk w0 H w → gval Γ c = true → (execOp a.eval o).run P w = .ok (.value v) w
def SL (P : Program) (N : Nat) (w0 : World) (ops : Array Oper) (Q : Exit → Act → World → Prop) (l : List Oper) (E : Env) (Γ : Gds) (H : Heap) : Prop :=
  ∀ a w, EnvOk N E Γ a → HeapOk w0 H w → wpList P ops Q l a w
def SQ (P : Program) (N : Nat) (w0 : World) (H : Heap) (ops : Array Oper) (Q : Act → Prop) (l : List Oper) (E : Env) (Γ : Gds) : Prop :=
  ∀ a, EnvOk N E Γ a → wpQuiet P ops (fun w => HeapOk w0 H w) Q l a
def WC (P : Program) (N : Nat) (w0 : World) (c : Code) (Q : Exit → Act → World → Prop) (E : Env) (Γ : Gds) (H : Heap) : Prop :=
  ∀ a w, EnvOk N E Γ a → HeapOk w0 H w → c.wp P Q a w
def QX (N : Nat) (w0 : World) (Q : Exit → Act → World → Prop) (e : Exit) (E : Env) (Γ : Gds) (H : Heap) : Prop :=
  ∀ a w, EnvOk N E Γ a → HeapOk w0 H w → Q e a w

section control
variable {Q : Exit → Act → World → Prop} {E : Env} {Γ : Gds} {H : Heap} {ops : Array Oper} {rest : List Oper}
theorem WC.seq {x y : Code} (h : WC P N w0 x (Exit.then (y.wp P Q) Q) E Γ H) : WC P N w0 (.seq x y) Q E Γ H := fun a w he hw => wp_seq (h a w he hw)
theorem WC.region {id : Nat} {l : List Oper} (h : SL P N w0 l.toArray Q l E Γ H) : WC P N w0 (.region id l.toArray false) Q E Γ H := fun a w he hw => wp_region_lit (h a w he hw)
theorem WC.quiet {id : Nat} {l : List Oper} (hm : P.follows .mixedOrders = true) (hB : Region.lexB .any l.toArray = true)
    (h : SQ P N w0 H l.toArray (fun a => ∀ w', HeapOk w0 H w' → Q .normal a w') l E Γ) : WC P N w0 (.region id l.toArray true) Q E Γ H :=
  fun a w he hw => wp_region_quiet (C := fun w => HeapOk w0 H w) hm hB hw.drew (by simpa using h a he)
theorem SL.nil_then {y : Code} (h : WC P N w0 y Q E Γ H) : SL P N w0 ops (Exit.then (y.wp P Q) Q) [] E Γ H := fun a w he hw => h a w he hw
theorem SL.nil (h : QX N w0 Q .normal E Γ H) : SL P N w0 ops Q [] E Γ H := fun a w he hw => h a w he hw
theorem SQ.nil_then {y : Code} (h : WC P N w0 y Q E Γ H) : SQ P N w0 H ops (fun a => ∀ w', HeapOk w0 H w' → Exit.then (y.wp P Q) Q .normal a w') [] E Γ := fun a he w' hw' => h a w' he hw'
theorem SQ.nil (h : QX N w0 Q .normal E Γ H) : SQ P N w0 H ops (fun a => ∀ w', HeapOk w0 H w' → Q .normal a w') [] E Γ := fun a he w' hw' => h a w' he hw'
theorem QX.then_ {y : Code} (h : WC P N w0 y Q E Γ H) : QX N w0 (Exit.then (y.wp P Q) Q) .normal E Γ H := h
theorem WC.skip (h : QX N w0 Q .normal E Γ H) : WC P N w0 .skip Q E Γ H := fun a w he hw => wp_skip (h a w he hw)
theorem WC.cond {x : Operand} {c d : Code} {b : Bool} (hx : ev E Γ 0 x = some (.bool b)) (ht : b = true → WC P N w0 c Q E Γ H) (hf : b = false → WC P N w0 d Q E Γ H) : WC P N w0 (.cond x c d) Q E Γ H :=
  fun a w he hw => wp_cond_split (ev_ok he hx (gval_zero Γ)) (fun h => ht h a w he hw) (fun h => hf h a w he hw)
theorem WC.block {id : Nat} {c : Code} (h : WC P N w0 c (Exit.inBlock id Q) E Γ H) : WC P N w0 (.block id c) Q E Γ H := fun a w he hw => wp_block (h a w he hw)
theorem WC.exit {id : Nat} (h : QX N w0 Q (.exit id) E Γ H) : WC P N w0 (.exit id) Q E Γ H := fun a w he hw => wp_exit (h a w he hw)
theorem WC.ret (h : QX N w0 Q .ret E Γ H) : WC P N w0 .ret Q E Γ H := fun a w he hw => wp_ret (h a w he hw)
theorem QX.exit_then {id : Nat} {K : Act → World → Prop} (h : QX N w0 Q (.exit id) E Γ H) : QX N w0 (Exit.then K Q) (.exit id) E Γ H := h
theorem QX.exit_hit {id : Nat} (h : QX N w0 Q .normal E Γ H) : QX N w0 (Exit.inBlock id Q) (.exit id) E Γ H := fun a w he hw => by simp only [Exit.inBlock, if_true]; exact h a w he hw
theorem QX.exit_miss {id id' : Nat} (hne : Nat.beq id' id = false) (h : QX N w0 Q (.exit id') E Γ H) : QX N w0 (Exit.inBlock id Q) (.exit id') E Γ H := fun a w he hw => by
  have : ¬ id' = id := by rintro rfl; rw [nat_beq_iff.2 rfl] at hne; cases hne
  simp only [Exit.inBlock, if_neg this]; exact h a w he hw
theorem QX.ret_then {K : Act → World → Prop} (h : QX N w0 Q .ret E Γ H) : QX N w0 (Exit.then K Q) .ret E Γ H := h
theorem QX.ret_in {id : Nat} (h : QX N w0 Q .ret E Γ H) : QX N w0 (Exit.inBlock id Q) .ret E Γ H := h
theorem QX.normal_in {id : Nat} (h : QX N w0 Q .normal E Γ H) : QX N w0 (Exit.inBlock id Q) .normal E Γ H := h
/-- a piece of code is walked to a state that is said, and the rest from there -/
theorem WC.cut {x y : Code} (E' : Env) (H' : Heap) (h : WC P N w0 x (Exit.then (fun a w => EnvOk N E' [] a ∧ HeapOk w0 H' w) Q) E Γ H) (k : WC P N w0 y Q E' [] H') : WC P N w0 (.seq x y) Q E Γ H := by
  refine WC.seq fun a w he hw => wp_mono (h a w he hw) ?_
  intro e a' w' hq
  cases e <;> first | exact hq | exact k a' w' hq.1 hq.2
theorem QX.cut {E' : Env} {H' : Heap} {Q' : Exit → Act → World → Prop} (n : Nat) (hE : Sub E' E Γ) (hH : H.take n = H') : QX N w0 (Exit.then (fun a w => EnvOk N E' [] a ∧ HeapOk w0 H' w) Q') .normal E Γ H :=
  fun a w he hw => ⟨he.sub hE, by subst hH; exact hw.take n⟩
/-- the same, the state told by a parameter -/
theorem WC.cutx {σ : Type} {x y : Code} (E' : σ → Env) (H' : σ → Heap) (I : σ → Prop) (h : WC P N w0 x (Exit.then (fun a w => ∃ s, I s ∧ EnvOk N (E' s) [] a ∧ HeapOk w0 (H' s) w) Q) E Γ H) (k : ∀ s, I s → WC P N w0 y Q (E' s) [] (H' s)) : WC P N w0 (.seq x y) Q E Γ H := by
  refine WC.seq fun a w he hw => wp_mono (h a w he hw) ?_
  intro e a' w' hq
  cases e <;> first | exact hq | (obtain ⟨s, h1, h2, h3⟩ := hq; exact k s h1 a' w' h2 h3)
theorem QX.cutx {σ : Type} {E' : σ → Env} {H' : σ → Heap} {I : σ → Prop} {Q' : Exit → Act → World → Prop} (n : Nat) (s : σ) (hI : I s) (hE : Sub (E' s) E Γ) (hH : H.take n = H' s) : QX N w0 (Exit.then (fun a w => ∃ s, I s ∧ EnvOk N (E' s) [] a ∧ HeapOk w0 (H' s) w) Q') .normal E Γ H :=
  fun a w he hw => ⟨s, hI, he.sub hE, by rw [← hH]; exact hw.take n⟩
theorem WC.mono {c : Code} {E' : Env} {H' : Heap} (n : Nat) (h : WC P N w0 c Q E' [] H') (hE : Sub E' E Γ) (hH : H.take n = H') : WC P N w0 c Q E Γ H :=
  fun a w he hw => h a w (he.sub hE) (by subst hH; exact hw.take n)

theorem WC.loop {σ : Type} (Ef : σ → Env) (Hf : σ → Heap) (I : σ → Prop) (μ : σ → Nat) (n : Nat) (s0 : σ) {c : Code} (hI : I s0) (hE : Sub (Ef s0) E Γ) (hH : H.take n = Hf s0)
    (round : ∀ s, I s → WC P N w0 c (Exit.then (fun a w => ∃ s', (I s' ∧ μ s' < μ s) ∧ EnvOk N (Ef s') [] a ∧ HeapOk w0 (Hf s') w) Q) (Ef s) [] (Hf s)) : WC P N w0 (.loop c) Q E Γ H := by
  intro a w he hw
  refine wp_loop_ghost (fun n a w => ∃ s, I s ∧ μ s = n ∧ EnvOk N (Ef s) [] a ∧ HeapOk w0 (Hf s) w) (μ s0) ⟨s0, hI, rfl, he.sub hE, by rw [← hH]; exact hw.take n⟩ ?_
  rintro n a w ⟨s, h1, rfl, h2, h3⟩
  refine wp_mono (round s h1 a w h2 h3) ?_
  intro e a' w' hq
  cases e <;> first | exact hq | (obtain ⟨s', ⟨g1, g2⟩, g3, g4⟩ := hq; exact ⟨μ s', g2, s', g1, rfl, g3, g4⟩)
theorem QX.round {σ : Type} {Ef : σ → Env} {Hf : σ → Heap} {I : σ → Prop} {μ : σ → Nat} {s : σ} {Q' : Exit → Act → World → Prop} (n : Nat) (s' : σ) (hI : I s' ∧ μ s' < μ s) (hE : Sub (Ef s') E Γ) (hH : H.take n = Hf s') :
    QX N w0 (Exit.then (fun a w => ∃ s', (I s' ∧ μ s' < μ s) ∧ EnvOk N (Ef s') [] a ∧ HeapOk w0 (Hf s') w) Q') .normal E Γ H :=
  fun a w he hw => ⟨s', hI, he.sub hE, by rw [← hH]; exact hw.take n⟩

/-! the function's end -/
def tmpsOf : List ResultVar → Option (List Tmp)
  | [] => some []
  | .tmp t :: r => (tmpsOf r).map (t :: ·)
  | _ => none
theorem QX.body1 {fn : Func} {R : Ending → World → Prop} {t : Tmp} {v : Value} (hr : fn.results = #[.tmp t]) (hv : ev E Γ 0 (.tmp t) = some v) (h : ∀ w, HeapOk w0 H w → R (.returned v) w) : QX N w0 (bodyPost P fn R) .ret E Γ H :=
  fun a w he hw => bodyPost_ret (results_tmp hr _ _ _) he.defers (by rw [show a.tmps.getD t undef = v from ev_ok he hv (gval_zero Γ)]; exact h w hw)
theorem QX.body2 {fn : Func} {R : Ending → World → Prop} {t u : Tmp} {v x : Value} (hr : fn.results = #[.tmp t, .tmp u]) (hv : ev E Γ 0 (.tmp t) = some v) (hx : ev E Γ 0 (.tmp u) = some x) (h : ∀ w, HeapOk w0 H w → R (.returned (.tuple #[v, x])) w) : QX N w0 (bodyPost P fn R) .ret E Γ H :=
  fun a w he hw => bodyPost_ret (results_tmp2 hr _ _ _) he.defers (by
    rw [show a.tmps.getD t undef = v from ev_ok he hv (gval_zero Γ), show a.tmps.getD u undef = x from ev_ok he hx (gval_zero Γ)]; exact h w hw)
theorem QX.body3 {fn : Func} {R : Ending → World → Prop} {t u s : Tmp} {v x y : Value} (hr : fn.results = #[.tmp t, .tmp u, .tmp s]) (hv : ev E Γ 0 (.tmp t) = some v) (hx : ev E Γ 0 (.tmp u) = some x) (hy : ev E Γ 0 (.tmp s) = some y) (h : ∀ w, HeapOk w0 H w → R (.returned (.tuple #[v, x, y])) w) : QX N w0 (bodyPost P fn R) .ret E Γ H :=
  fun a w he hw => bodyPost_ret (results_tmp3 hr _ _ _) he.defers (by
    rw [show a.tmps.getD t undef = v from ev_ok he hv (gval_zero Γ), show a.tmps.getD u undef = x from ev_ok he hx (gval_zero Γ), show a.tmps.getD s undef = y from ev_ok he hy (gval_zero Γ)]; exact h w hw)
end control

/-- the function's end, as a contract: it returns, old memory is as it was, and R -/
abbrev FnPost (w0 : World) (R : Value → World → Prop) : Ending → World → Prop := fun e w' => ∃ v, e = .returned v ∧ Below w0.heap.size w0 w' ∧ R v w'
def FnC (P : Program) (f : Nat) (args : List Value) (w : World) (R : Value → World → Prop) : Prop := Calls P f args.toArray w (FnPost w R)
theorem FnC.mono {f : Nat} {args : List Value} {w : World} {R R' : Value → World → Prop} (h : FnC P f args w R) (hr : ∀ v w', R v w' → R' v w') : FnC P f args w R' :=
  Calls.mono h fun e w' ⟨v, h1, h2, h3⟩ => ⟨v, h1, h2, hr v w' h3⟩
section ends
variable {E : Env} {Γ : Gds} {H : Heap} {fn : Func} {R : Value → World → Prop}
theorem QX.ret1 {t : Tmp} {v : Value} (hr : fn.results = #[.tmp t]) (hv : ev E Γ 0 (.tmp t) = some v) (h : ∀ w, HeapOk w0 H w → R v w) : QX N w0 (bodyPost P fn (FnPost w0 R)) .ret E Γ H :=
  QX.body1 hr hv fun w hw => ⟨v, rfl, hw.below, h w hw⟩
theorem QX.ret2 {t u : Tmp} {v x : Value} (hr : fn.results = #[.tmp t, .tmp u]) (hv : ev E Γ 0 (.tmp t) = some v) (hx : ev E Γ 0 (.tmp u) = some x) (h : ∀ w, HeapOk w0 H w → R (.tuple #[v, x]) w) : QX N w0 (bodyPost P fn (FnPost w0 R)) .ret E Γ H :=
  QX.body2 hr hv hx fun w hw => ⟨_, rfl, hw.below, h w hw⟩
theorem QX.ret3 {t u s : Tmp} {v x y : Value} (hr : fn.results = #[.tmp t, .tmp u, .tmp s]) (hv : ev E Γ 0 (.tmp t) = some v) (hx : ev E Γ 0 (.tmp u) = some x) (hy : ev E Γ 0 (.tmp s) = some y) (h : ∀ w, HeapOk w0 H w → R (.tuple #[v, x, y]) w) : QX N w0 (bodyPost P fn (FnPost w0 R)) .ret E Γ H :=
  QX.body3 hr hv hx hy fun w hw => ⟨_, rfl, hw.below, h w hw⟩
end ends

def env0 : Nat → List Value → Env
  | _, [] => []
  | i, v :: r => (i, 0, v) :: env0 (i + 1) r
theorem look_env0 : ∀ (l : List Value) (i t k : Nat) (v : Value), look (env0 i l) t = some (k, v) → k = 0 ∧ i ≤ t ∧ l[t - i]? = some v := by
  intro l
  induction l with
  | nil => intro i t k v h; simp [env0, look] at h
  | cons x r ih =>
    intro i t k v h
    cases hb : Nat.beq i t with
    | true =>
      have := nat_beq_iff.1 hb
      subst this
      simp [env0, look, hb] at h
      obtain ⟨rfl, rfl⟩ := h
      simp
    | false =>
      have hne : i ≠ t := by rintro rfl; rw [nat_beq_iff.2 rfl] at hb; cases hb
      simp only [env0, look, hb, cond_false] at h
      obtain ⟨h1, h2, h3⟩ := ih (i + 1) t k v h
      refine ⟨h1, by omega, ?_⟩
      rw [show t - i = (t - (i + 1)) + 1 from by omega]
      simpa using h3
/-- a call, by the walk of its body -/
theorem calls {f : FuncId} {fn : Func} {c : Code} {args : List Value} {R : Ending → World → Prop} (hf : P.funcs[f]? = some fn) (hb : fn.body = some c) (hn : fn.ntmps = N) (hlen : Nat.ble args.length N = true)
    (h : WC P N w0 c (bodyPost P fn R) (env0 0 args) [] []) : Calls P f args.toArray w0 R := by
  refine calls_of_wp hf hb (h _ _ ⟨?_, rfl, ?_⟩ (HeapOk.start w0))
  · have := Nat.le_of_ble_eq_true hlen
    simp [hn]
    omega
  · intro t k v hl
    obtain ⟨rfl, _, h3⟩ := look_env0 args 0 t k v hl
    refine ⟨Nat.zero_le _, ?_⟩
    simp only [Nat.sub_zero] at h3
    have hlt := (List.getElem?_eq_some_iff.1 h3).1
    simp only [gval, cond_true, Array.getD_eq_getD_getElem?]
    rw [Array.getElem?_append_left (by simpa using hlt)]
    simp [h3]
theorem fnc {f : FuncId} {fn : Func} {c : Code} {args : List Value} {R : Value → World → Prop} (hf : P.funcs[f]? = some fn) (hb : fn.body = some c) (hn : fn.ntmps = N) (hlen : Nat.ble args.length N = true)
    (h : WC P N w0 c (bodyPost P fn (FnPost w0 R)) (env0 0 args) [] []) : FnC P f args w0 R := calls hf hb hn hlen h
end Go.Proofs.Ytblmafknmeicfaa.Eng
