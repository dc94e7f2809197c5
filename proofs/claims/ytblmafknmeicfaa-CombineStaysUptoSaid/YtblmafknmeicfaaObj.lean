/-
  Objects that are read through a pointer; calls through an interface. Of no program.
-/
import Derived.Test.YtblmafknmeicfaaTab
namespace Go.Proofs.Ytblmafknmeicfaa.Eng
open Go Go.RowKit
set_option linter.unusedVariables false
set_option linter.unusedSimpArgs false
variable {P : Program} {N : Nat} {w0 : World} {Q : Exit → Act → World → Prop} {E : Env} {Γ : Gds} {H : Heap} {ops : Array Oper} {rest : List Oper} {QA : Act → Prop}
/-- an object in memory: these cells from the block's begin -/
def ObjIn (w : World) (b : Nat) (cs : List Value) : Prop := ∀ j v, cs[j]? = some v → w.cell? ⟨b, j, none⟩ = some v
theorem ObjIn.of {w : World} (hw : HeapOk w0 H w) (i : Nat) {b : Nat} {cs : List Value} {t : TypeId} (hi : H[i]? = some (.cells b cs t)) : ObjIn w b cs := by
  intro j v hj
  exact CellIs.cells i hi hj w hw
theorem ObjIn.cell {b : Nat} {cs : List Value} {v : Value} (h : ObjIn w0 b cs) (j : Nat) (hv : cs[j]? = some v) : CellIs w0 H ⟨b, j, none⟩ v := CellIs.old' (h j v hv)
theorem ObjIn.row {b : Nat} {cs vs : List Value} (h : ObjIn w0 b cs) (o n : Nat) (hv : (cs.drop o).take n = vs) : RowIs w0 H ⟨b, o, none⟩ vs := by
  intro j v hj
  rw [add_lit]
  refine h.cell (o + j) ?_
  rw [← hv, List.getElem?_take] at hj
  split at hj
  · rw [List.getElem?_drop] at hj; exact hj
  · cases hj
theorem ObjIn.below {w w' : World} {b : Nat} {cs : List Value} (h : ObjIn w b cs) (hb : Below w.heap.size w w') : ObjIn w' b cs := fun j v hj => (hb.cell (World.block_lt_of_cell? w _ (h j v hj))).trans (h j v hj)

/-! ### calls through an interface -/
def methB (P : Program) (t : TypeId) (name : String) : Option (FuncId × Bool) := match P.info? t with
  | some i => match i.methods.find? (·.name == name) with
    | some m => if m.path.toList = [] then m.func else none
    | none => none
  | none => none
theorem run_callI {a : Act} {w : World} {o : Oper} {x : Operand} {ts : Array TypeId} {name : String} {f t : Nat} {v rv : Value} (ho : o.op = .call { callee := .invoke x name, args := #[], argTypes := ts }) (hf : callable P f = true)
    (hx : a.eval x = .iface t v) (hm : (method (P.types.size + Made.depth) t v name).run P w = .ok (f, rv) w) : (execOp a.eval o).run P w = .ok (.enter f #[rv]) w := by
  unfold execOp
  simp [ho, resolve, hx, invoke, callMethod, hm, run_callFunc hf]
theorem SL.callI {o : Oper} {d f t : Nat} {x : Operand} {ts : Array TypeId} {name : String} {v rv u : Value} (ho : o.op = .call { callee := .invoke x name, args := #[], argTypes := ts }) (hg : o.guard = none) (hd : o.dst = some d) (hN : Nat.blt d N = true)
    (hx : ev E Γ 0 x = some (.iface t v)) (hf : callable P f = true) (hm : ∀ w, (method (P.types.size + Made.depth) t v name).run P w = .ok (f, rv) w)
    (hC : ∀ w, HeapOk w0 H w → FnC P f [rv] w fun v _ => v = u)
    (h : SL P N w0 ops Q rest ((d, 0, u) :: E) Γ H) : SL P N w0 ops Q (o :: rest) E Γ H := by
  intro a w he hw
  refine wpList_plain hg fun K hK => ?_
  unfold Oper.wp
  rw [run_callI ho hf (ev_ok he hx (gval_zero Γ)) (hm w)]
  simp only [Oper.upon]
  refine (show Calls P f #[rv] w _ from hC w hw).mono ?_
  rintro e w' ⟨v, rfl, hb, rfl⟩
  simp only [hd]
  exact hK _ _ (h _ _ (he.put hN (Nat.zero_le _) (by rw [gval_zero]; rfl)) (hw.below_keep hb))
theorem SQ.callI {o : Oper} {d f t : Nat} {x : Operand} {ts : Array TypeId} {name : String} {v rv u : Value} (ho : o.op = .call { callee := .invoke x name, args := #[], argTypes := ts }) (hg : o.guard = none) (hd : o.dst = some d) (hN : Nat.blt d N = true)
    (hx : ev E Γ 0 x = some (.iface t v)) (hf : callable P f = true) (hm : ∀ w, (method (P.types.size + Made.depth) t v name).run P w = .ok (f, rv) w)
    (hC : ∀ w, HeapOk w0 H w → FnC P f [rv] w fun v _ => v = u)
    (h : SQ P N w0 H ops QA rest ((d, 0, u) :: E) Γ) : SQ P N w0 H ops QA (o :: rest) E Γ := by
  intro a he
  refine wpQuiet_step fun K hK => ?_
  simp only [Region.wanted, hg, if_true]
  refine ⟨u, fun w hw => ?_, hK _ ?_⟩
  · unfold Oper.quietAt
    rw [run_callI ho hf (ev_ok he hx (gval_zero Γ)) (hm w)]
    refine ⟨rfl, (show Calls P f #[rv] w _ from hC w hw).mono ?_⟩
    rintro e w' ⟨v, rfl, hb, rfl⟩
    exact ⟨rfl, hw.below_keep hb⟩
  · rw [hd]; exact h _ (he.put hN (Nat.zero_le _) (by rw [gval_zero]; rfl))
theorem PureOp.makeIface {c : Nat} {dst : Option Tmp} {x : Operand} {t ty : TypeId} {pos : String} {after : Array Edge} {g : Option (Nat × Bool)} {e : TypeId} {v : Value} (hu : P.underlying t = some (.pointer e)) (hx : ev E Γ c x = some v) : PureOp P N w0 E Γ H c ⟨dst, .makeInterface t x, ty, pos, after, g⟩ (.iface t v) := by
  intro a w he hw hc
  simp [execOp, Instr.makeInterface, run_underlying hu, ev_ok he hx hc]
/-- the first elements of a slice of the call's own -/
theorem PureOp.sliceho (i : Nat) {c : Nat} {dst : Option Tmp} {x y : Operand} {t ty : TypeId} {pos : String} {after : Array Edge} {g : Option (Nat × Bool)} {e e' : TypeId} {ao : Option Addr} {base n cap sz sz' : Nat} {xs : List Value} {h : Int} {k : IntKind} (ht : P.underlying t = some (.slice e)) (hsz : (P.info? e).map (·.size) = some sz) (hx : ev E Γ c x = some (.slice ao n cap)) (hy : ev E Γ c y = some (.int k h)) (hi : H[i]? = some (.own base ao n cap e' sz' xs)) (hb : gval Γ c = true → 0 ≤ h ∧ h ≤ n) :
    PureOp P N w0 E Γ H c ⟨dst, .slice t x none (some y) none, ty, pos, after, g⟩ (.slice (subAo ao cap 0 sz) (h.toNat - 0) (cap - 0)) := by
  intro a w he hw hc
  obtain ⟨inf, hinf, hs⟩ := Option.map_eq_some_iff.1 hsz
  obtain ⟨b1, b2⟩ := hb hc
  have hown : w.ownsRow base e' sz' (.slice ao n cap) n xs := hw.mem hi
  have hle : n ≤ cap := by
    rcases hown.2 with ⟨hv, h0⟩ | ⟨g', cap', cur, hv, _, _, hnc, _⟩
    · omega
    · simp only [Value.slice.injEq] at hv
      obtain ⟨_, _, rfl⟩ := hv
      exact hnc
  have hel : P.elem t = e := by simp [Program.elem, ht]
  have ht' : P.underlying t = some (.slice (P.elem t)) := by rw [hel]; exact ht
  have := run_slice_h (P := P) w t ao n cap ht' k h b1 (by omega)
  simp only [execOp, Option.map_some, Option.map_none, ev_ok he hx hc, ev_ok he hy hc]
  rw [Sem.run_bind, run_sliceAt_slice w t _ _ _ _ ht', this]
  simp [sizeOf, typeInfo, hel, hinf, hs, sliced, subAo]
/-- a slot's value in other words -/
theorem SL.reval (t : Nat) (u : Value) {k : Nat} {v : Value} {l : List Oper} (hl : look E t = some (k, v)) (e : v = u) (h : SL P N w0 ops Q l ((t, k, u) :: E) Γ H) : SL P N w0 ops Q l E Γ H :=
  fun a w he hw => h a w (he.known hl e) hw
/-- the items written out -/
theorem SL.norm {l : List Oper} (H' : Heap) (e : H = H') (h : SL P N w0 ops Q l E Γ H') : SL P N w0 ops Q l E Γ H := by rw [e]; exact h
theorem WC.norm {c : Code} (H' : Heap) (e : H = H') (h : WC P N w0 c Q E Γ H') : WC P N w0 c Q E Γ H := by rw [e]; exact h
end Go.Proofs.Ytblmafknmeicfaa.Eng
