import Derived.Test.YtngkbnaehkailaaRsF
namespace Go.Proofs.Ytngkbnaehkailaa
open Go Go.RowKit Eng
set_option linter.unusedVariables false
set_option linter.unusedSimpArgs false

section
variable {P : Program} {N : Nat} {w0 : World} {Q : Exit → Act → World → Prop} {E : Env} {Γ : Gds} {H : Heap} {ops : Array Oper} {rest : List Oper}
abbrev ofam (base : Nat) (a : Option Addr) (u cap : Nat) (rs : List FRow) : Eng.Item := Item.both (.own base a u cap 29 1 (rs.map FRow.val)) (.fam base 3 1 rs)
theorem ofam_weak {b b' u cap : Nat} {a : Option Addr} {rs : List FRow} {w : World} (hb : b' ≤ b) (h : (ofam b a u cap rs).ok w) : (ofam b' a u cap rs).ok w :=
  ⟨ownsRow_weaken h.1 hb, fun r hr => ownsRow_weaken (h.2.1 r hr) hb, h.2.2⟩
theorem ofam_fresh {b u cap : Nat} {a : Option Addr} {rs : List FRow} {w : World} (h : (ofam b a u cap rs).ok w) : ∀ k, (ofam b a u cap rs).fp k → b ≤ k := fun k hk => hk.elim (own_fresh h.1 k) (fun ⟨r, hr, e⟩ => own_fresh (h.2.1 r hr) k e)
theorem SL.callof {o : Oper} {d f : Nat} {x : Operand} {xs : Array Operand} {ts : Array TypeId} {vs : List Value} (u : Nat) (I : List FRow → Prop)
    (ho : o.op = .call { callee := .value x, args := xs, argTypes := ts }) (hg : o.guard = none) (hd : o.dst = some d) (hN : Nat.blt d N = true)
    (hx : ev E Γ 0 x = some (.func (.func f) #[] #[])) (hxs : evs E Γ 0 xs.toList = some vs) (hf : callable P f = true)
    (hC : ∀ w, HeapOk w0 H w → FnC P f vs w fun v w' => ∃ a cap rs, v = .slice a u cap ∧ I rs ∧ (ofam w.heap.size a u cap rs).ok w')
    (h : ∀ a cap rs, I rs → SL P N w0 ops Q rest ((d, 0, .slice a u cap) :: E) Γ (H ++ [ofam w0.heap.size a u cap rs])) : SL P N w0 ops Q (o :: rest) E Γ H :=
  SL.call (R := fun w v w' => ∃ a cap rs, v = .slice a u cap ∧ I rs ∧ (ofam w.heap.size a u cap rs).ok w') ho hg hd hN hx hxs hf hC fun _ w _ hw _ hb ⟨a, cap, rs, hv, hI, hok⟩ =>
    ⟨_, hw.add (x := ofam w0.heap.size a u cap rs) hb (ofam_weak hw.below.size hok) (ofam_fresh hok), by rw [hv]; exact h a cap rs hI⟩
end
def planC (P : List (SliceV Int)) (i kk : Nat) (y : Int) (rs : List FRow) : List (SliceV Int) := (List.range P.length).map fun t => ⟨(nth rs t).ao, (nth rs t).cap, chgP P i kk y t⟩
theorem planC_len {P : List (SliceV Int)} {i kk : Nat} {y : Int} {rs : List FRow} : (planC P i kk y rs).length = P.length := by simp [planC]
theorem planC_nth {P : List (SliceV Int)} {i kk : Nat} {y : Int} {rs : List FRow} {t : Nat} (h : t < P.length) : nth (planC P i kk y rs) t = ⟨(nth rs t).ao, (nth rs t).cap, chgP P i kk y t⟩ := by
  unfold nth planC
  rw [List.getD_eq_getElem?_getD, List.getElem?_map, List.getElem?_range h]; rfl
theorem chgP_len {P : List (SliceV Int)} {i kk : Nat} {y : Int} {t : Nat} : (chgP P i kk y t).length = (nth P t).l.length := by
  unfold chgP
  split
  · rename_i e; rw [List.length_set, e]
  · rfl
theorem cells_sl (l : List (SliceV Int)) : cellsOf encSl l = l.map SliceV.val := by
  induction l with
  | nil => rfl
  | cons x r ih => rw [List.map_cons, ← ih]; rfl
theorem FamC.out {P : List (SliceV Int)} {i kk : Nat} {y : Int} {rs : List FRow} (h : FamC P i kk y rs) : rs.map FRow.val = cellsOf encSl (planC P i kk y rs) := by
  rw [cells_sl]
  refine List.ext_getElem (by rw [List.length_map, List.length_map, planC_len, h.len]) fun t h0 h2 => ?_
  have h1 : t < P.length := by rw [List.length_map, h.len] at h0; exact h0
  have e1 : (rs.map FRow.val)[t]? = some (FRow.val (nth rs t)) := by
    have := vals_get52 (rs := rs) (i := t) (by rw [h.len]; exact h1)
    rwa [Nat.mul_one, Nat.add_zero] at this
  have e2 : ((planC P i kk y rs).map SliceV.val)[t]? = some (SliceV.val (nth (planC P i kk y rs) t)) := by
    rw [List.getElem?_map, List.getElem?_eq_getElem (by rw [planC_len]; exact h1)]
    unfold nth
    rw [List.getD_eq_getElem?_getD, List.getElem?_eq_getElem (by rw [planC_len]; exact h1)]; rfl
  have e3 : FRow.val (nth rs t) = SliceV.val (nth (planC P i kk y rs) t) := by
    rw [planC_nth h1, FRow.val, SliceV.val, (h.row t h1).1, ← chgP_len (P := P) (i := i) (kk := kk) (y := y)]
  rw [List.getElem?_eq_getElem h0] at e1
  rw [List.getElem?_eq_getElem h2] at e2
  rw [Option.some.inj e1, Option.some.inj e2, e3]
theorem FamC.outer {P : List (SliceV Int)} {i kk base cap u : Nat} {y : Int} {rs : List FRow} {a : Option Addr} {w : World} (h : FamC P i kk y rs) (hu : u = P.length) (ho : (ofam base a u cap rs).ok w) : SliceIn w 1 a u cap (rowsF encSl (planC P i kk y rs)) := by
  have h1 := ho.1
  rw [h.out] at h1
  exact SliceIn.rows h1 encSl_len (by rw [planC_len, hu]; exact Nat.le_refl _)
theorem FamC.inner {P : List (SliceV Int)} {i kk base cap u : Nat} {y : Int} {rs : List FRow} {a : Option Addr} {w : World} (h : FamC P i kk y rs) (hu : u = P.length) (ho : (ofam base a u cap rs).ok w) : ∀ t, t < u → SliceIn w 1 (nth (planC P i kk y rs) t).ao (nth (planC P i kk y rs) t).l.length (nth (planC P i kk y rs) t).cap (rowsF encI (nth (planC P i kk y rs) t).l) := fun t ht => by
  have hr := h.row t (by omega)
  have h1 := ho.2.1 (nth rs t) (nth_mem (by rw [h.len]; omega))
  rw [hr.1, hr.2] at h1
  rw [planC_nth (by omega)]
  dsimp only
  rw [chgP_len]
  exact SliceIn.rows h1 encI_len (by rw [chgP_len]; exact Nat.le_refl _)
end Go.Proofs.Ytngkbnaehkailaa
