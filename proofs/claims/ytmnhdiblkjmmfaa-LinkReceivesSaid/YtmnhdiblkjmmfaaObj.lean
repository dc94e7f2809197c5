/-
  Objects that are read through a pointer; calls through an interface. Of no program.
-/
import Derived.Test.YtmnhdiblkjmmfaaTab
namespace Go.Proofs.Ytmnhdiblkjmmfaa.Eng
open Go Go.RowKit
set_option linter.unusedVariables false
set_option linter.unusedSimpArgs false
variable {P : Program} {N : Nat} {w0 : World} {Q : Exit → Act → World → Prop} {E : Env} {Γ : Gds} {H : Heap} {ops : Array Oper} {rest : List Oper} {QA : Act → Prop}
/-- an object in memory: these cells from the block's begin -/
def ObjIn (w : World) (b : Nat) (cs : List Value) : Prop := ∀ j v, cs[j]? = some v → w.cell? ⟨b, j, none⟩ = some v
theorem ObjIn.of {w : World} (hw : HeapOk w0 H w) (i : Nat) {b : Nat} {cs : List Value} {t : TypeId} (hi : H[i]? = some (.cells b cs t)) : ObjIn w b cs := by
  intro j v hj
  exact CellIs.cells i hi hj w hw
theorem ObjIn.cell {b : Nat} {cs : List Value} {v : Value} (h : ObjIn w0 b cs) (j : Nat) (hv : cs[j]? = some v) : CellIs w0 H ⟨b, j, none⟩ v := CellIs.old' (h j v hv)
theorem ObjIn.row {b : Nat} {cs vs : List Value} (h : ObjIn w0 b cs) (o n : Nat) (hv : (cs.drop o).take n = vs) : RowIs w0 H ⟨b, o, none⟩ vs := by
  intro j v hj
  rw [add_lit]
  refine h.cell (o + j) ?_
  rw [← hv, List.getElem?_take] at hj
  split at hj
  · rw [List.getElem?_drop] at hj; exact hj
  · cases hj
theorem ObjIn.below {w w' : World} {b : Nat} {cs : List Value} (h : ObjIn w b cs) (hb : Below w.heap.size w w') : ObjIn w' b cs := fun j v hj => (hb.cell (World.block_lt_of_cell? w _ (h j v hj))).trans (h j v hj)

/-! ### calls through an interface -/
def methB (P : Program) (t : TypeId) (name : String) : Option (FuncId × Bool) := match P.info? t with
  | some i => match i.methods.find? (·.name == name) with
    | some m => if m.path.toList = [] then m.func else none
    | none => none
  | none => none
theorem run_callI {a : Act} {w : World} {o : Oper} {x : Operand} {ts : Array TypeId} {name : String} {f t : Nat} {v rv : Value} (ho : o.op = .call { callee := .invoke x name, args := #[], argTypes := ts }) (hf : callable P f = true)
    (hx : a.eval x = .iface t v) (hm : (method (P.types.size + Made.depth) t v name).run P w = .ok (f, rv) w) : (execOp a.eval o).run P w = .ok (.enter f #[rv]) w := by
  unfold execOp
  simp [ho, resolve, hx, invoke, callMethod, hm, run_callFunc hf]
theorem SL.callI {o : Oper} {d f t : Nat} {x : Operand} {ts : Array TypeId} {name : String} {v rv u : Value} (ho : o.op = .call { callee := .invoke x name, args := #[], argTypes := ts }) (hg : o.guard = none) (hd : o.dst = some d) (hN : Nat.blt d N = true)
    (hx : ev E Γ 0 x = some (.iface t v)) (hf : callable P f = true) (hm : ∀ w, (method (P.types.size + Made.depth) t v name).run P w = .ok (f, rv) w)
    (hC : ∀ w, HeapOk w0 H w → FnC P f [rv] w fun v _ => v = u)
    (h : SL P N w0 ops Q rest ((d, 0, u) :: E) Γ H) : SL P N w0 ops Q (o :: rest) E Γ H := by
  intro a w he hw
  refine wpList_plain hg fun K hK => ?_
  unfold Oper.wp
  rw [run_callI ho hf (ev_ok he hx (gval_zero Γ)) (hm w)]
  simp only [Oper.upon]
  refine (show Calls P f #[rv] w _ from hC w hw).mono ?_
  rintro e w' ⟨v, rfl, hb, rfl⟩
  simp only [hd]
  exact hK _ _ (h _ _ (he.put hN (Nat.zero_le _) (by rw [gval_zero]; rfl)) (hw.below_keep hb))
theorem SQ.callI {o : Oper} {d f t : Nat} {x : Operand} {ts : Array TypeId} {name : String} {v rv u : Value} (ho : o.op = .call { callee := .invoke x name, args := #[], argTypes := ts }) (hg : o.guard = none) (hd : o.dst = some d) (hN : Nat.blt d N = true)
    (hx : ev E Γ 0 x = some (.iface t v)) (hf : callable P f = true) (hm : ∀ w, (method (P.types.size + Made.depth) t v name).run P w = .ok (f, rv) w)
    (hC : ∀ w, HeapOk w0 H w → FnC P f [rv] w fun v _ => v = u)
    (h : SQ P N w0 H ops QA rest ((d, 0, u) :: E) Γ) : SQ P N w0 H ops QA (o :: rest) E Γ := by
  intro a he
  refine wpQuiet_step fun K hK => ?_
  simp only [Region.wanted, hg, if_true]
  refine ⟨u, fun w hw => ?_, hK _ ?_⟩
  · unfold Oper.quietAt
    rw [run_callI ho hf (ev_ok he hx (gval_zero Γ)) (hm w)]
    refine ⟨rfl, (show Calls P f #[rv] w _ from hC w hw).mono ?_⟩
    rintro e w' ⟨v, rfl, hb, rfl⟩
    exact ⟨rfl, hw.below_keep hb⟩
  · rw [hd]; exact h _ (he.put hN (Nat.zero_le _) (by rw [gval_zero]; rfl))
theorem PureOp.makeIface {c : Nat} {dst : Option Tmp} {x : Operand} {t ty : TypeId} {pos : String} {after : Array Edge} {g : Option (Nat × Bool)} {e : TypeId} {v : Value} (hu : P.underlying t = some (.pointer e)) (hx : ev E Γ c x = some v) : PureOp P N w0 E Γ H c ⟨dst, .makeInterface t x, ty, pos, after, g⟩ (.iface t v) := by
  intro a w he hw hc
  simp [execOp, Instr.makeInterface, run_underlying hu, ev_ok he hx hc]
/-- the items written out -/
theorem SL.norm {l : List Oper} (H' : Heap) (e : H = H') (h : SL P N w0 ops Q l E Γ H') : SL P N w0 ops Q l E Γ H := by rw [e]; exact h
theorem WC.norm {c : Code} (H' : Heap) (e : H = H') (h : WC P N w0 c Q E Γ H') : WC P N w0 c Q E Γ H := by rw [e]; exact h
end Go.Proofs.Ytmnhdiblkjmmfaa.Eng
