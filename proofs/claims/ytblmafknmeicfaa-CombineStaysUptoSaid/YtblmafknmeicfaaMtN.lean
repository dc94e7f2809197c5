import Derived.Test.YtblmafknmeicfaaFew
namespace Go.Proofs.Ytblmafknmeicfaa
open Go Go.RowKit Eng
set_option linter.unusedVariables false
set_option linter.unusedSimpArgs false

open Go.ChangeShapes Go.WideShapes Go.Deep
theorem bk76 : Bk Try.prog 76 fun w cs => (∀ ao n cap, (cs.drop 9).take 1 = [.slice ao n cap] → n ≤ 1048576) ∧ (∀ ao n cap, (cs.drop 14).take 1 = [.slice ao n cap] → n ≤ 1048576) := by
  have h1 := Bk.field Try.underlying76 2 _ rfl (Bk.slice Try.underlying73)
  have h2 := Bk.field Try.underlying76 7 _ rfl (Bk.slice Try.underlying74)
  have h := Bk.both h1 h2
  intro H en w sp hd fuel cs y hy hb
  have q := h H en w sp hd fuel cs y hy hb
  exact ⟨fun ao n cap e => q.1 ao n cap (by show List.take (Try.prog.cellsOf 73) (List.drop 9 cs) = _; rw [co73]; exact e), fun ao n cap e => q.2 ao n cap (by show List.take (Try.prog.cellsOf 74) (List.drop 14 cs) = _; rw [co74]; exact e)⟩
theorem tariff_bulk {H : Type} {en : TypeId × Value → H} {W : World} {sp : Nat → Bool} {hd : Bool} {x : ((SliceV Fa) × (SliceV Ru) × (SliceV Unit) × (SliceV Unit))} {d : DataW H} {p : List MemPlace} (k : DataW.Trod en Try.prog W 0 sp hd 27 (.agg (enc27 x).toArray) d p) (hb : Rows.uptoBulk d ≤ 1048576)
    (hin : SliceV.In 15 enc76 W x.2.1) : ∀ i, i < x.2.1.l.length → (nth x.2.1.l i).2.2.1.l.length ≤ 1048576 ∧ (nth x.2.1.l i).2.2.2.2.2.2.2.l.length ≤ 1048576 := by
  obtain ⟨fuel, hf⟩ := k
  have h := Bk.field Try.underlying27 1 _ rfl (Bk.rows (α := Ru) Try.underlying23 co76 (by decide) enc76_len bk76)
  intro i hi
  have q := h H en W sp hd fuel _ _ hf hb x.2.1.ao x.2.1.l.length x.2.1.cap x.2.1.l (by show List.take (Try.prog.cellsOf 23) (List.drop 1 (enc27 x)) = _; rw [co23]; rfl) rfl hin i hi
  exact ⟨q.1 _ _ _ rfl, q.2 _ _ _ rfl⟩
theorem Half.imp {α : Type} [Inhabited α] {sz : Nat} {enc : α → List Value} {G G2 : World → α → Prop} {w : World} {x : SliceV Unit} (h : Half sz enc G w x) (hi : ∀ y, G w y → G2 w y) : Half sz enc G2 w x := by
  obtain ⟨l, h1, h2, h3⟩ := h
  exact ⟨l, h1, h2, fun y hy => hi y (h3 y hy)⟩
end Go.Proofs.Ytblmafknmeicfaa
