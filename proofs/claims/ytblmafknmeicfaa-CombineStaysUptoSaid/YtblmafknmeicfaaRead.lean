/-
  How arguments read: from the form's reading of a value to plain data. Of no program.
-/
import Derived.Test.YtblmafknmeicfaaMem
import Derived.Deep.Slices
import Derived.ChangeSame
import Derived.WideShapes
import Derived.ProofKit
import Derived.OpenShut
import Derived.Lib.LaidTab
namespace Go.Proofs.Ytblmafknmeicfaa.Eng
open Go Go.RowKit Go.ChangeShapes Go.WideShapes Go.Deep
set_option linter.unusedVariables false
set_option linter.unusedSimpArgs false

/-- a value of type t reads as x : α, which lies in the cells 'enc x'; G: what is known of it in that world -/
def Reads {α : Type} (P : Program) (t : TypeId) (enc : α → List Value) (G : World → α → Prop) : Prop :=
  ∀ (H : Type) (en : TypeId × Value → H) (w : World) (spare : Nat → Bool) (held : Bool) (fuel : Nat) (cs : List Value) (y : DataW H × List MemPlace), DataW.trod en P w 0 spare held fuel t cs = some y → ∃ x : α, cs = enc x ∧ G w x
theorem in64_of_wf {n : Int} (h : (Lit.int .i64 n).wf = true) : In64 n := bounds_i64 h
variable {P : Program}
theorem Reads.int {t : TypeId} (hu : P.underlying t = some (.int .i64)) : Reads P t encI (fun _ n => In64 n) := by
  intro H en w sp hd fuel cs y h
  obtain ⟨n, rfl, _, hwf⟩ := DataW.trod_int hu h
  exact ⟨n, rfl, in64_of_wf hwf⟩
def encK (k : IntKind) (n : Int) : List Value := [.int k n]
theorem Reads.intk {t : TypeId} {k : IntKind} (hu : P.underlying t = some (.int k)) : Reads P t (encK k) (fun _ n => (Lit.int k n).wf = true) := by
  intro H en w sp hd fuel cs y h
  obtain ⟨n, rfl, _, hwf⟩ := DataW.trod_int hu h
  exact ⟨n, rfl, hwf⟩
def encB (b : Bool) : List Value := [.bool b]
theorem Reads.bool {t : TypeId} (hu : P.underlying t = some .bool) : Reads P t encB (fun _ _ => True) := by
  intro H en w sp hd fuel cs y h
  obtain ⟨n, rfl, _⟩ := DataW.trod_bool hu h
  exact ⟨n, rfl, trivial⟩
def encStr (s : ByteArray) : List Value := [.string s]
theorem Reads.str {t : TypeId} (hu : P.underlying t = some .string) : Reads P t encStr (fun _ s => s.size ≤ maxLen) := by
  intro H en w sp hd fuel cs y h
  obtain ⟨n, rfl, _, hs⟩ := DataW.trod_string hu h
  exact ⟨n, rfl, hs⟩
/-- a slice that came in -/
structure SliceV (α : Type) where
  ao : Option Addr
  cap : Nat
  l : List α
instance {α : Type} : Inhabited (SliceV α) := ⟨⟨none, 0, []⟩⟩
def SliceV.val {α : Type} (x : SliceV α) : Value := .slice x.ao x.l.length x.cap
def encSl {α : Type} (x : SliceV α) : List Value := [.slice x.ao x.l.length x.cap]
def SliceV.In {α : Type} [Inhabited α] (sz : Nat) (enc : α → List Value) (w : World) (x : SliceV α) : Prop := SliceIn w sz x.ao x.l.length x.cap (rowsF enc x.l)
theorem encK_len (k : IntKind) (n : Int) : (encK k n).length = 1 := rfl
theorem encB_len (b : Bool) : (encB b).length = 1 := rfl
theorem encStr_len (s : ByteArray) : (encStr s).length = 1 := rfl
theorem encSl_len {α : Type} (x : SliceV α) : (encSl x).length = 1 := rfl
theorem choose_list {α : Type} [Inhabited α] (n : Nat) (R : Nat → α → Prop) (h : ∀ i, i < n → ∃ x, R i x) : ∃ l : List α, l.length = n ∧ ∀ i, i < n → R i (nth l i) := by
  induction n with
  | zero => exact ⟨[], rfl, fun i hi => absurd hi (by omega)⟩
  | succ n ih =>
    obtain ⟨l, hl, hr⟩ := ih (fun i hi => h i (by omega))
    obtain ⟨x, hx⟩ := h n (by omega)
    refine ⟨l ++ [x], by simp [hl], fun i hi => ?_⟩
    rcases Nat.lt_or_ge i n with hlt | hge
    · have : nth (l ++ [x]) i = nth l i := by
        have h1 : (l ++ [x])[i]? = some (nth (l ++ [x]) i) := nth_get (by simp; omega)
        rw [List.getElem?_append_left (by omega), nth_get (by omega)] at h1
        injection h1 with h1
        exact h1.symm
      rw [this]
      exact hr i hlt
    · have hin : i = n := by omega
      subst hin
      have : nth (l ++ [x]) i = x := by
        have h1 : (l ++ [x])[i]? = some (nth (l ++ [x]) i) := nth_get (by simp; omega)
        rw [List.getElem?_append_right (by omega), hl] at h1
        simp at h1
        exact h1.symm
      rw [this]
      exact hx
theorem mem_nth {α : Type} [Inhabited α] {l : List α} {x : α} (h : x ∈ l) : ∃ i, i < l.length ∧ nth l i = x := by
  obtain ⟨i, hi, rfl⟩ := List.getElem_of_mem h
  refine ⟨i, hi, ?_⟩
  have := nth_get hi
  rw [List.getElem?_eq_getElem hi] at this
  injection this with this
  exact this.symm
theorem Reads.slice {α : Type} [Inhabited α] {t e : TypeId} {sz : Nat} {enc : α → List Value} {G : World → α → Prop} (hu : P.underlying t = some (.slice e)) (hc : P.cellsOf e = sz) (hpos : 0 < sz) (hr : Reads P e enc G) (he : ∀ x, (enc x).length = sz) :
    Reads P t encSl (fun w x => SliceV.In sz enc w x ∧ ∀ y ∈ x.l, G w y) := by
  intro H en w sp hd fuel cs y h
  rcases open_slice hu h with ⟨rfl, _⟩ | ⟨a, len, cap, m, n, D, Pl, rfl, _, hle, hmax, hm, _, hi⟩
  · exact ⟨⟨none, 0, []⟩, rfl, ⟨Nat.le_refl _, by simp [maxLen], .inl rfl, fun i hi => absurd hi (by simp)⟩, by simp⟩
  · have hlm : len ≤ m := by rw [hm]; split <;> omega
    have key : ∀ i, i < len → ∃ x : α, G w x ∧ ∀ j, j < sz → w.cell? (a.add (i * sz + j)) = (enc x)[j]? := by
      intro i hil
      obtain ⟨cs', h1, h2⟩ := hi i (by omega)
      obtain ⟨x, rfl, hg⟩ := hr H en w sp hd n cs' _ h2
      obtain ⟨_, hcl, hat⟩ := World.cells?_some h1
      refine ⟨x, hg, fun j hj => ?_⟩
      rw [← hat j (by omega), hc]
      congr 1
      unfold Addr.add
      split <;> split <;> simp_all <;> (try omega)
      all_goals (split <;> simp_all <;> omega)
    obtain ⟨l, hl, hR⟩ := choose_list len _ key
    subst hl
    refine ⟨⟨some a, cap, l⟩, rfl, ⟨hle, hmax, ?_, ?_⟩, ?_⟩
    · rcases Nat.eq_zero_or_pos l.length with h0 | h0
      · exact .inl h0
      · refine .inr ⟨a, rfl, ?_⟩
        have := (hR 0 h0).2 0 hpos
        have hx : (enc (nth l 0))[0]? = some _ := List.getElem?_eq_getElem (by rw [he]; exact hpos)
        rw [hx] at this
        simpa [Addr.add] using World.cell?_spot this
    · intro i hi0 j hj
      have hi : i < l.length := hi0
      have h1 := (hR i hi).2 j hj
      have h2 := (hR 0 (by omega)).2 0 hpos
      have hx : (enc (nth l 0))[0]? = some _ := List.getElem?_eq_getElem (by rw [he]; exact hpos)
      rw [hx] at h2
      have hsp : a.spot = none := by simpa [Addr.add] using World.cell?_spot h2
      obtain ⟨b, o, s⟩ := a
      simp only at hsp
      subst hsp
      rw [add_lit] at h1
      have hy : (enc (nth l i))[j]? = some (rowsF enc l i j) := by
        unfold rowsF
        rw [List.getD_eq_getElem?_getD, List.getElem?_eq_getElem (by rw [he]; exact hj)]; rfl
      rw [hy] at h1
      simpa [blk, off, Nat.add_assoc] using h1
    · intro x hx
      obtain ⟨i, hi, rfl⟩ := mem_nth hx
      exact (hR i hi).1
theorem trod_field {t : TypeId} {fs : Array Field} {H : Type} {en : TypeId × Value → H} {w : World} {sp : Nat → Bool} {hd : Bool} {fuel : Nat} {cs : List Value} {y : DataW H × List MemPlace} (hu : P.underlying t = some (.struct fs)) (h : DataW.trod en P w 0 sp hd fuel t cs = some y) :
    cs.length = P.cellsOf t ∧ ∃ n, ∀ (j : Nat) (f : Field), fs[j]? = some f → ∃ z, DataW.trod en P w 0 sp hd n f.type ((cs.drop f.offset).take (P.cellsOf f.type)) = some z := by
  obtain ⟨ys, n, _, _, hl, hlen, hf⟩ := DataW.trod_struct hu h
  refine ⟨hl, n, fun j f hj => ?_⟩
  have hjl : j < fs.size := (Array.getElem?_eq_some_iff.1 hj).1
  have := hf j f hj
  rw [List.getElem?_eq_getElem (by omega)] at this
  exact ⟨_, this⟩
theorem cut_ {cs E : List Value} {o s : Nat} (h : (cs.drop o).take s = E) : cs.drop o = E ++ cs.drop (o + s) := by
  rw [← h, ← List.drop_drop]
  exact (List.take_append_drop s (cs.drop o)).symm
theorem cut2 {cs E : List Value} {o s c : Nat} (hs : c = s) (h : (cs.drop o).take c = E) : cs.drop o = E ++ cs.drop (o + s) := cut_ (by rw [← hs]; exact h)
/-- an argument -/
theorem Reads.agg {α : Type} {t : TypeId} {fs : Array Field} {enc : α → List Value} {G : World → α → Prop} (hr : Reads P t enc G) (hu : P.underlying t = some (.struct fs)) {H : Type} {en : TypeId × Value → H} {w : World} {r : Reach} {b0 : Nat} {v : Value} {d : DataW H} {p : List MemPlace} {sp : Nat → Bool} {hd : Bool}
    (hv : Value.okWide P w r b0 t v) (h : DataW.Trod en P w 0 sp hd t v d p) : ∃ x, v = .agg (enc x).toArray ∧ G w x := by
  obtain ⟨cs, rfl, _⟩ := okWide_struct hu hv
  obtain ⟨fuel, hf⟩ := h
  obtain ⟨x, hx, hg⟩ := hr H en w sp hd fuel _ _ hf
  refine ⟨x, ?_, hg⟩
  rw [← hx]
  simp [Value.cells]
theorem Reads.slicev {α : Type} {t e : TypeId} {G : World → SliceV α → Prop} (hr : Reads P t (encSl (α := α)) G) (hu : P.underlying t = some (.slice e)) {H : Type} {en : TypeId × Value → H} {w : World} {r : Reach} {b0 : Nat} {v : Value} {d : DataW H} {p : List MemPlace} {sp : Nat → Bool} {hd : Bool}
    (hv : Value.okWide P w r b0 t v) (h : DataW.Trod en P w 0 sp hd t v d p) : ∃ x : SliceV α, v = x.val ∧ G w x := by
  obtain ⟨a, n, c, rfl⟩ := okWide_slice hu hv
  obtain ⟨fuel, hf⟩ := h
  obtain ⟨x, hx, hg⟩ := hr H en w sp hd fuel _ _ hf
  refine ⟨x, ?_, hg⟩
  simpa [Value.cells, encSl, SliceV.val] using hx
theorem trod_lt {H : Type} {en : TypeId × Value → H} {w : World} {t : TypeId} {v : Value} {d : DataW H} {p : List MemPlace} {sp : Nat → Bool} {hd : Bool} (h : DataW.Trod en P w 0 sp hd t v d p) : ∀ x ∈ p, x.block < w.heap.size := by
  obtain ⟨m, hm⟩ := h
  exact DataW.trod_lt m _ _ _ hm
/-- an array of strings that reads as listed holds just these strings -/
theorem arr_strings {H : Type} {enc : TypeId × Value → H} {w : World} {base : Nat} {sp : Nat → Bool} {held : Bool} {fuel : Nat} {t e : TypeId} {n : Nat} {cs : List Value} {zs : List ByteArray} {p : List MemPlace} {d : DataW H}
    (ht : P.underlying t = some (.array n e)) (he : P.underlying e = some .string) (hce : P.cellsOf e = 1) (hct : P.cellsOf t = n)
    (h : DataW.trod enc P w base sp held fuel t cs = some (d, p)) (hd : d = .agg (zs.map fun z => .lit (.string z.data.toList))) : cs = zs.map Value.string := by
  subst hd
  cases fuel with
  | zero => simp [DataW.trod] at h
  | succ fuel =>
    simp only [DataW.trod, ht, hce, hct, Nat.mul_one] at h
    split at h
    · rename_i hl
      obtain ⟨xs, hm, hx⟩ := Option.map_eq_some_iff.1 h
      have hxs : xs.map (·.1) = zs.map fun z => (DataW.lit (.string z.data.toList) : DataW H) := by
        have := congrArg Prod.fst hx
        simpa using this
      have hxl : xs.length = n := by simpa using Go.Lib.mapM_length hm
      have hzl : zs.length = n := by
        have := congrArg List.length hxs
        simp at this
        omega
      apply List.ext_getElem?
      intro i
      by_cases hi : i < n
      · obtain ⟨b, hb, hf⟩ := Go.Lib.mapM_at hm i i (by simp [hi])
        obtain ⟨z, hc, hbd, _⟩ := DataW.trod_string he hf
        have h1 : cs[i]? = some (.string z) := by
          have := congrArg (·[0]?) hc
          simpa [List.getElem?_take, List.getElem?_drop] using this
        have h2 : (xs.map (·.1))[i]? = some b.1 := by simp [hb]
        rw [hxs, hbd] at h2
        simp only [List.getElem?_map, Option.map_eq_some_iff, DataW.lit.injEq, Lit.string.injEq] at h2
        obtain ⟨z', hz', h3⟩ := h2
        have h4 : z' = z := by
          have : z'.data = z.data := Array.toList_inj.1 h3
          cases z'; cases z; simp_all
        simp [h1, hz', h4]
      · rw [List.getElem?_eq_none (by omega), List.getElem?_eq_none (by simp; omega)]
    · cases h
end Go.Proofs.Ytblmafknmeicfaa.Eng
