/-
  What the form's own reach gives: no slice that came in weighs more than the reach. Of no program.
-/
import Derived.Test.YtngkbnaehkailaaRead
import Derived.SizedLaws
namespace Go.Proofs.Ytngkbnaehkailaa.Eng
open Go Go.RowKit Go.ChangeShapes Go.WideShapes Go.Deep
set_option linter.unusedVariables false
variable {P : Program}
/-- cells that read at type t, with no weight above the reach, are as B says -/
def Wt (P : Program) (t : TypeId) (B : List Value → Prop) : Prop :=
  ∀ (H : Type) (en : TypeId × Value → H) (w : World) (spare : Nat → Bool) (held : Bool) (fuel : Nat) (cs : List Value) (y : DataW H × List MemPlace), DataW.trod en P w 0 spare held fuel t cs = some y → (∀ n ∈ y.1.weights P t, n ≤ reachBytes) → B cs
theorem Wt.slice {t e : TypeId} {b : Nat} (hu : P.underlying t = some (.slice e)) (hb : P.bytesOf e = b) : Wt P t fun cs => ∀ ao n cap, cs = [.slice ao n cap] → n * b ≤ reachBytes := by
  intro H en w sp hd fuel cs y h hw ao n cap hcs
  rcases open_slice hu h with ⟨rfl, _⟩ | ⟨a, len, cap', m, k, D, Pl, rfl, _, hle, hmax, hm, rfl, hi⟩
  · simp only [List.cons.injEq, Value.slice.injEq, and_true] at hcs
    obtain ⟨_, rfl, _⟩ := hcs
    simp
  · simp only [List.cons.injEq, Value.slice.injEq, and_true] at hcs
    obtain ⟨_, rfl, _⟩ := hcs
    have h1 := hw _ (by simp only [DataW.weights, hu]; exact List.mem_cons_self)
    simp only [List.length_map, List.length_range, hb] at h1
    exact Nat.le_trans (Nat.mul_le_mul_right _ (Nat.le_add_right _ _)) h1
theorem Wt.field {t : TypeId} {fs : Array Field} {B : List Value → Prop} (hu : P.underlying t = some (.struct fs)) (j : Nat) (f : Field) (hj : fs[j]? = some f) (h : Wt P f.type B) : Wt P t fun cs => B ((cs.drop f.offset).take (P.cellsOf f.type)) := by
  intro H en w sp hd fuel cs y hy hw
  obtain ⟨xs, n, _, rfl, hl, hlen, hf⟩ := DataW.trod_struct hu hy
  have hjl : j < fs.size := (Array.getElem?_eq_some_iff.1 hj).1
  have h1 := hf j f hj
  rw [List.getElem?_eq_getElem (by omega)] at h1
  refine h H en w sp hd n _ _ h1 fun k hk => hw k ?_
  simp only [DataW.weights, hu]
  exact DataW.weights_mem_each (j := j) (t := f.type) (by rw [List.getElem?_map, Array.getElem?_toList, hj]; rfl) (by rw [List.getElem?_map, List.getElem?_eq_getElem (by omega)]; rfl) k hk
theorem weightsAll_mem {H : Type} {e : TypeId} {l : List (DataW H)} {d : DataW H} (h : d ∈ l) : ∀ n ∈ d.weights P e, n ∈ DataW.weightsAll P e l := by
  induction l with
  | nil => cases h
  | cons x r ih =>
    intro n hn
    simp only [DataW.weightsAll, List.mem_append]
    rcases List.mem_cons.1 h with rfl | h
    · exact .inl hn
    · exact .inr (ih h n hn)
theorem Wt.rows {α : Type} [Inhabited α] {t e : TypeId} {sz : Nat} {enc : α → List Value} {B : List Value → Prop} (hu : P.underlying t = some (.slice e)) (hc : P.cellsOf e = sz) (hpos : 0 < sz) (he : ∀ x, (enc x).length = sz) (hB : Wt P e B)
    {H : Type} {en : TypeId × Value → H} {w : World} {sp : Nat → Bool} {hd : Bool} {x : SliceV α} {d : DataW H} {p : List MemPlace} (h : DataW.Trod en P w 0 sp hd t x.val d p) (hin : SliceV.In sz enc w x) (hw : ∀ n ∈ d.weights P t, n ≤ reachBytes) : ∀ i, i < x.l.length → B (enc (nth x.l i)) := by
  intro i hil
  obtain ⟨fuel, hf⟩ := h
  have hcs : x.val.cells.toList = [.slice x.ao x.l.length x.cap] := by simp [SliceV.val, Value.cells]
  rw [hcs] at hf
  rcases open_slice hu hf with ⟨h0, _⟩ | ⟨a, len, cap, m, n, D, Pl, h0, _, hle, hmax, hm, hy, hi⟩
  · simp only [List.cons.injEq, Value.slice.injEq, and_true] at h0
    omega
  · simp only [List.cons.injEq, Value.slice.injEq, and_true] at h0
    obtain ⟨hao, hlen, hcap⟩ := h0
    have hlm : len ≤ m := by rw [hm]; split <;> omega
    obtain ⟨cs', h1, h2⟩ := hi i (by omega)
    obtain ⟨hl', hcl, hat⟩ := World.cells?_some h1
    have hd1 : d = .slice ((List.range len).map D) ((List.range (m - len)).map fun j => D (len + j)) := congrArg Prod.fst hy
    have hmem : D i ∈ (List.range len).map D := List.mem_map.2 ⟨i, List.mem_range.2 (by omega), rfl⟩
    have hb : B cs' := hB H en w sp hd n cs' _ h2 fun k hk => hw k (by
      rw [hd1]
      simp only [DataW.weights, hu, List.mem_cons, List.mem_append]
      exact .inr (.inl (weightsAll_mem hmem k hk)))
    have hsp : a.spot = none := by
      rcases hin.there with h0 | ⟨a', ha', hs'⟩
      · omega
      · rw [hao] at ha'
        injection ha' with ha'
        rw [ha']; exact hs'
    have e : cs' = enc (nth x.l i) := by
      refine List.ext_getElem? fun j => ?_
      by_cases hj : j < sz
      · have h3 := hat j (by omega)
        have h4 := hin.cell i hil j hj
        have h6 : (enc (nth x.l i))[j]? = some (rowsF enc x.l i j) := by
          unfold rowsF
          rw [List.getD_eq_getElem?_getD, List.getElem?_eq_getElem (by rw [he]; exact hj)]; rfl
        rw [h6, ← h3]
        rw [hao] at h4
        obtain ⟨b, o, s⟩ := a
        simp only at hsp
        subst hsp
        rw [hc]
        have e0 : (Addr.add ⟨b, o, none⟩ (i * sz)).add j = Addr.add ⟨b, o, none⟩ (i * sz + j) := by
          unfold Addr.add
          split <;> split <;> simp_all <;> (try omega)
          all_goals (split <;> simp_all <;> omega)
        rw [e0, add_lit]
        simpa [blk, off, Nat.add_assoc] using h4
      · rw [List.getElem?_eq_none (by omega), List.getElem?_eq_none (by rw [he]; omega)]
    rw [← e]
    exact hb
end Go.Proofs.Ytngkbnaehkailaa.Eng
