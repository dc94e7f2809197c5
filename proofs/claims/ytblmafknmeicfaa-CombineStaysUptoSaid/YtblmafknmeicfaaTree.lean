/-
  Slices of which only some walk needs the elements; conditions, which hold conditions; what a bound on the bulk gives.
-/
import Derived.Test.YtblmafknmeicfaaTypes
import Derived.Test.YtblmafknmeicfaaRows
namespace Go.Proofs.Ytblmafknmeicfaa.Eng
open Go Go.RowKit Go.ChangeShapes Go.WideShapes Go.Deep
set_option linter.unusedVariables false
set_option linter.unusedSimpArgs false
variable {P : Program}
/-- the head of a slice; its elements are there -/
def Half {α : Type} [Inhabited α] (sz : Nat) (enc : α → List Value) (G : World → α → Prop) (w : World) (x : SliceV Unit) : Prop :=
  ∃ l : List α, l.length = x.l.length ∧ SliceIn w sz x.ao x.l.length x.cap (rowsF enc l) ∧ ∀ y ∈ l, G w y
theorem Reads.half {α : Type} [Inhabited α] {t e : TypeId} {sz : Nat} {enc : α → List Value} {G : World → α → Prop} (hu : P.underlying t = some (.slice e)) (hc : P.cellsOf e = sz) (hpos : 0 < sz) (hr : Reads P e enc G) (he : ∀ x, (enc x).length = sz) :
    Reads P t (encSl (α := Unit)) (Half sz enc G) := by
  intro H en w sp hd fuel cs y h
  obtain ⟨x, rfl, h1, h2⟩ := Reads.slice hu hc hpos hr he H en w sp hd fuel cs y h
  refine ⟨⟨x.ao, x.cap, List.replicate x.l.length ()⟩, by simp [encSl], x.l, by simp, ?_, h2⟩
  unfold SliceV.In at h1
  rw [show (List.replicate x.l.length ()).length = x.l.length from List.length_replicate]
  exact h1
/-- reading with little fuel -/
def ReadsN {α : Type} (P : Program) (k : Nat) (t : TypeId) (enc : α → List Value) (G : World → α → Prop) : Prop :=
  ∀ (H : Type) (en : TypeId × Value → H) (w : World) (spare : Nat → Bool) (held : Bool) (fuel : Nat) (cs : List Value) (y : DataW H × List MemPlace), fuel ≤ k → DataW.trod en P w 0 spare held fuel t cs = some y → ∃ x : α, cs = enc x ∧ G w x
theorem Reads.all {α : Type} {t : TypeId} {enc : α → List Value} {G : World → α → Prop} (h : ∀ k, ReadsN P k t enc G) : Reads P t enc G := fun H en w sp hd fuel cs y hy => h fuel H en w sp hd fuel cs y (Nat.le_refl _) hy
theorem Reads.fuel {α : Type} {t : TypeId} {enc : α → List Value} {G : World → α → Prop} (h : Reads P t enc G) (k : Nat) : ReadsN P k t enc G := fun H en w sp hd fuel cs y _ hy => h H en w sp hd fuel cs y hy
theorem ReadsN.half {α : Type} [Inhabited α] {k : Nat} {t e : TypeId} {sz : Nat} {enc : α → List Value} {G : World → α → Prop} (hu : P.underlying t = some (.slice e)) (hc : P.cellsOf e = sz) (hpos : 0 < sz) (hr : ReadsN P k e enc G) (he : ∀ x, (enc x).length = sz) :
    ReadsN P (k + 1) t (encSl (α := Unit)) (Half sz enc G) := by
  intro H en w sp hd fuel cs y hf h
  rcases DataW.trod_slice hu h with ⟨rfl, _⟩ | ⟨a, len, cap, els, rest, n, hn, rfl, _, _, hle, hmax, hlen, hel, _⟩
  · exact ⟨⟨none, 0, []⟩, rfl, [], rfl, ⟨Nat.le_refl _, by simp [maxLen], .inl rfl, fun i hi => absurd hi (by simp)⟩, by simp⟩
  · have key : ∀ i, i < len → ∃ x : α, G w x ∧ ∀ j, j < sz → w.cell? (a.add (i * sz + j)) = (enc x)[j]? := by
      intro i hil
      have h1 := hel i hil
      rw [List.getElem?_eq_getElem (by omega)] at h1
      obtain ⟨cs', h2, h3⟩ := Option.bind_eq_some_iff.1 h1
      obtain ⟨x, rfl, hg⟩ := hr H en w sp hd n cs' _ (by omega) h3
      obtain ⟨_, hcl, hat⟩ := World.cells?_some h2
      refine ⟨x, hg, fun j hj => ?_⟩
      rw [← hat j (by omega), hc]
      congr 1
      unfold Addr.add
      split <;> split <;> simp_all <;> (try omega)
      all_goals (split <;> simp_all <;> omega)
    obtain ⟨l, hl, hR⟩ := choose_list len _ key
    subst hl
    refine ⟨⟨some a, cap, List.replicate l.length ()⟩, by simp [encSl], l, by simp, ?_, ?_⟩
    · refine ⟨by simpa using hle, hmax, ?_, ?_⟩
      · rcases Nat.eq_zero_or_pos l.length with h0 | h0
        · exact .inl (by simpa using h0)
        · refine .inr ⟨a, rfl, ?_⟩
          have := (hR 0 h0).2 0 hpos
          have hx : (enc (nth l 0))[0]? = some _ := List.getElem?_eq_getElem (by rw [he]; exact hpos)
          rw [hx] at this
          simpa [Addr.add] using World.cell?_spot this
      · intro i hi0 j hj
        have hi : i < l.length := by simpa using hi0
        have h1 := (hR i hi).2 j hj
        have h2 := (hR 0 (by omega)).2 0 hpos
        have hx : (enc (nth l 0))[0]? = some _ := List.getElem?_eq_getElem (by rw [he]; exact hpos)
        rw [hx] at h2
        have hsp : a.spot = none := by simpa [Addr.add] using World.cell?_spot h2
        obtain ⟨b, o, s⟩ := a
        simp only at hsp
        subst hsp
        rw [add_lit] at h1
        have hy : (enc (nth l i))[j]? = some (rowsF enc l i j) := by
          unfold rowsF
          rw [List.getD_eq_getElem?_getD, List.getElem?_eq_getElem (by rw [he]; exact hj)]; rfl
        rw [hy] at h1
        simpa [blk, off, Nat.add_assoc] using h1
    · intro x hx
      obtain ⟨i, hi, rfl⟩ := mem_nth hx
      exact (hR i hi).1
theorem trod_fieldN {t : TypeId} {fs : Array Field} {H : Type} {en : TypeId × Value → H} {w : World} {sp : Nat → Bool} {hd : Bool} {fuel : Nat} {cs : List Value} {y : DataW H × List MemPlace} (hu : P.underlying t = some (.struct fs)) (h : DataW.trod en P w 0 sp hd fuel t cs = some y) :
    cs.length = P.cellsOf t ∧ ∃ n, fuel = n + 1 ∧ ∀ (j : Nat) (f : Field), fs[j]? = some f → ∃ z, DataW.trod en P w 0 sp hd n f.type ((cs.drop f.offset).take (P.cellsOf f.type)) = some z := by
  obtain ⟨ys, n, hn, _, hl, hlen, hf⟩ := DataW.trod_struct hu h
  refine ⟨hl, n, hn, fun j f hj => ?_⟩
  have hjl : j < fs.size := (Array.getElem?_eq_some_iff.1 hj).1
  have := hf j f hj
  rw [List.getElem?_eq_getElem (by omega)] at this
  exact ⟨_, this⟩
/-- what a bulk of at most a million gives -/
def Bk (P : Program) (t : TypeId) (B : World → List Value → Prop) : Prop :=
  ∀ (H : Type) (en : TypeId × Value → H) (w : World) (spare : Nat → Bool) (held : Bool) (fuel : Nat) (cs : List Value) (y : DataW H × List MemPlace), DataW.trod en P w 0 spare held fuel t cs = some y → Rows.uptoBulk y.1 ≤ 1048576 → B w cs
theorem bulk_part {H : Type} {d : DataW H} {l : List (DataW H)} (h : d ∈ l) : Rows.uptoBulk d ≤ Rows.uptoBulkAll l := by
  induction l with
  | nil => cases h
  | cons x r ih =>
    simp only [Rows.uptoBulkAll]
    rcases List.mem_cons.1 h with e | e
    · subst e; omega
    · have := ih e; omega
theorem bulk_pos {H : Type} (d : DataW H) : 1 ≤ Rows.uptoBulk d := by
  cases d with
  | lit l => cases l <;> simp [Rows.uptoBulk]
  | _ => simp [Rows.uptoBulk]
theorem bulk_len {H : Type} (l : List (DataW H)) : l.length ≤ Rows.uptoBulkAll l := by
  induction l with
  | nil => simp [Rows.uptoBulkAll]
  | cons x r ih => have := bulk_pos x; simp only [Rows.uptoBulkAll, List.length_cons]; omega
theorem Bk.slice {t e : TypeId} (hu : P.underlying t = some (.slice e)) : Bk P t fun _ cs => ∀ ao n cap, cs = [.slice ao n cap] → n ≤ 1048576 := by
  intro H en w sp hd fuel cs y h hb ao n cap hcs
  rcases open_slice hu h with ⟨rfl, _⟩ | ⟨a, len, cap', m, k, D, Pl, rfl, _, hle, hmax, hm, rfl, hi⟩
  · simp only [List.cons.injEq, Value.slice.injEq, and_true] at hcs
    obtain ⟨_, rfl, _⟩ := hcs
    omega
  · simp only [List.cons.injEq, Value.slice.injEq, and_true] at hcs
    obtain ⟨_, rfl, _⟩ := hcs
    simp only [Rows.uptoBulk] at hb
    have := bulk_len ((List.range len).map D)
    simp only [List.length_map, List.length_range] at this
    omega
theorem Bk.field {t : TypeId} {fs : Array Field} {B : World → List Value → Prop} (hu : P.underlying t = some (.struct fs)) (j : Nat) (f : Field) (hj : fs[j]? = some f) (h : Bk P f.type B) : Bk P t fun w cs => B w ((cs.drop f.offset).take (P.cellsOf f.type)) := by
  intro H en w sp hd fuel cs y hy hb
  obtain ⟨xs, n, _, rfl, hl, hlen, hf⟩ := DataW.trod_struct hu hy
  have hjl : j < fs.size := (Array.getElem?_eq_some_iff.1 hj).1
  have h1 := hf j f hj
  rw [List.getElem?_eq_getElem (by omega)] at h1
  refine h H en w sp hd n _ _ h1 ?_
  simp only [Rows.uptoBulk] at hb
  have h2 : (xs[j]'(by omega)).1 ∈ xs.map (·.1) := List.mem_map_of_mem (List.getElem_mem _)
  have := bulk_part h2
  omega
theorem Bk.both {t : TypeId} {B C : World → List Value → Prop} (h1 : Bk P t B) (h2 : Bk P t C) : Bk P t fun w cs => B w cs ∧ C w cs := fun H en w sp hd fuel cs y hy hb => ⟨h1 H en w sp hd fuel cs y hy hb, h2 H en w sp hd fuel cs y hy hb⟩
theorem Bk.rows {α : Type} [Inhabited α] {t e : TypeId} {sz : Nat} {enc : α → List Value} {B : World → List Value → Prop} (hu : P.underlying t = some (.slice e)) (hc : P.cellsOf e = sz) (hpos : 0 < sz) (he : ∀ x, (enc x).length = sz) (hB : Bk P e B) :
    Bk P t fun w cs => ∀ ao n cap (l : List α), cs = [.slice ao n cap] → n = l.length → SliceIn w sz ao n cap (rowsF enc l) → ∀ i, i < n → B w (enc (nth l i)) := by
  intro H en w sp hd fuel cs y hy hb ao n cap l hcs hn hin i hil
  rcases open_slice hu hy with ⟨h0, _⟩ | ⟨a, len, cap', m, k, D, Pl, h0, _, hle, hmax, hm, hy2, hi⟩
  · rw [h0] at hcs
    simp only [List.cons.injEq, Value.slice.injEq, and_true] at hcs
    omega
  · rw [h0] at hcs
    simp only [List.cons.injEq, Value.slice.injEq, and_true] at hcs
    obtain ⟨hao, hlen, hcap⟩ := hcs
    have hlm : len ≤ m := by rw [hm]; split <;> omega
    obtain ⟨cs', h1, h2⟩ := hi i (by omega)
    obtain ⟨hl', hcl, hat⟩ := World.cells?_some h1
    have hd1 : y.1 = .slice ((List.range len).map D) ((List.range (m - len)).map fun j => D (len + j)) := congrArg Prod.fst hy2
    have hmem : D i ∈ (List.range len).map D := List.mem_map.2 ⟨i, List.mem_range.2 (by omega), rfl⟩
    have hbi : B w cs' := hB H en w sp hd k cs' _ h2 (by
      rw [hd1] at hb
      simp only [Rows.uptoBulk] at hb
      have := bulk_part hmem
      show Rows.uptoBulk (D i) ≤ _
      omega)
    have hsp : a.spot = none := by
      rcases hin.there with h0 | ⟨a', ha', hs'⟩
      · omega
      · rw [← hao] at ha'
        injection ha' with ha'
        rw [ha']; exact hs'
    have e : cs' = enc (nth l i) := by
      refine List.ext_getElem? fun j => ?_
      by_cases hj : j < sz
      · have h3 := hat j (by omega)
        have h4 := hin.cell i hil j hj
        have h6 : (enc (nth l i))[j]? = some (rowsF enc l i j) := by
          unfold rowsF
          rw [List.getD_eq_getElem?_getD, List.getElem?_eq_getElem (by rw [he]; exact hj)]; rfl
        rw [h6, ← h3]
        rw [← hao] at h4
        obtain ⟨b, o, s⟩ := a
        simp only at hsp
        subst hsp
        rw [hc]
        have e0 : (Addr.add ⟨b, o, none⟩ (i * sz)).add j = Addr.add ⟨b, o, none⟩ (i * sz + j) := by
          unfold Addr.add
          split <;> split <;> simp_all <;> (try omega)
          all_goals (split <;> simp_all <;> omega)
        rw [e0, add_lit]
        simpa [blk, off, Nat.add_assoc] using h4
      · rw [List.getElem?_eq_none (by omega), List.getElem?_eq_none (by rw [he]; omega)]
    rw [← e]
    exact hbi
end Go.Proofs.Ytblmafknmeicfaa.Eng
namespace Go.Proofs.Ytblmafknmeicfaa
open Go Go.RowKit Eng
set_option linter.unusedVariables false
abbrev Cd := Int × SliceV Unit × Int × Int × (Int × Int × Int) × SliceV Unit
abbrev StrG : World → SliceV Unit → Prop := Half 1 encStr (fun _ s => s.size ≤ maxLen)
/-- a slice of conditions, which hold such slices -/
inductive CondSl (w : World) : Option Addr → Nat → Nat → Prop
  | mk {ao : Option Addr} {n cap : Nat} (l : List Cd) (hl : l.length = n) (hs : SliceIn w 8 ao n cap (rowsF enc72 l)) (hin : ∀ i, i < n → CondSl w (nth l i).2.1.ao (nth l i).2.1.l.length (nth l i).2.1.cap) (ht : ∀ i, i < n → StrG w (nth l i).2.2.2.2.2) : CondSl w ao n cap
def CondG (w : World) (x : SliceV Unit) : Prop := CondSl w x.ao x.l.length x.cap
def CdG (w : World) (x : Cd) : Prop := CondG w x.2.1 ∧ StrG w x.2.2.2.2.2
theorem rd72N {k : Nat} (ih : ReadsN Try.prog k 67 (encSl (α := Unit)) CondG) : ReadsN Try.prog (k + 1) 72 enc72 CdG := by
  intro H en w sp hd fuel cs y hk h
  obtain ⟨hl, n, hn, hf⟩ := trod_fieldN Try.underlying72 h
  rw [co72] at hl
  obtain ⟨z0, hz0⟩ := hf 0 _ rfl
  obtain ⟨x0, e0, g0⟩ := (Reads.int Try.underlying3) H en w sp hd n _ _ hz0
  have q0 : cs.drop 0 = encI x0 ++ cs.drop (0 + 1) := cut2 co3 e0
  obtain ⟨z1, hz1⟩ := hf 1 _ rfl
  obtain ⟨x1, e1, g1⟩ := ih H en w sp hd n _ _ (by omega) hz1
  have q1 : cs.drop 1 = encSl x1 ++ cs.drop (1 + 1) := cut2 co67 e1
  obtain ⟨z2, hz2⟩ := hf 2 _ rfl
  obtain ⟨x2, e2, g2⟩ := (Reads.int Try.underlying3) H en w sp hd n _ _ hz2
  have q2 : cs.drop 2 = encI x2 ++ cs.drop (2 + 1) := cut2 co3 e2
  obtain ⟨z3, hz3⟩ := hf 3 _ rfl
  obtain ⟨x3, e3, g3⟩ := (Reads.int Try.underlying3) H en w sp hd n _ _ hz3
  have q3 : cs.drop 3 = encI x3 ++ cs.drop (3 + 1) := cut2 co3 e3
  obtain ⟨z4, hz4⟩ := hf 4 _ rfl
  obtain ⟨x4, e4, g4⟩ := rd69 H en w sp hd n _ _ hz4
  have q4 : cs.drop 4 = enc69 x4 ++ cs.drop (4 + 3) := cut2 co69 e4
  obtain ⟨z5, hz5⟩ := hf 5 _ rfl
  obtain ⟨x5, e5, g5⟩ := (Reads.half Try.underlying70 co9 (by decide) (Reads.str Try.underlying9) encStr_len) H en w sp hd n _ _ hz5
  have q5 : cs.drop 7 = encSl x5 ++ cs.drop (7 + 1) := cut2 co70 e5
  refine ⟨⟨x0, x1, x2, x3, x4, x5⟩, ?_, g1, g5⟩
  have q : cs = cs.drop 0 := rfl
  rw [q, q0, show 0 + 1 = 1 from rfl, q1, show 1 + 1 = 2 from rfl, q2, show 2 + 1 = 3 from rfl, q3, show 3 + 1 = 4 from rfl, q4, show 4 + 3 = 7 from rfl, q5, show 7 + 1 = 8 from rfl, List.drop_eq_nil_of_le (by omega)]
  all_goals rfl
theorem Half.cond {w : World} {x : SliceV Unit} (h : Half 8 enc72 CdG w x) : CondG w x := by
  obtain ⟨l, h1, h2, h3⟩ := h
  exact .mk l h1 h2 (fun i hi => (h3 _ (nth_mem (by omega))).1) (fun i hi => (h3 _ (nth_mem (by omega))).2)
theorem condN : ∀ k, ReadsN Try.prog k 67 (encSl (α := Unit)) CondG
  | 0 => fun H en w sp hd fuel cs y hk h => by
    obtain rfl : fuel = 0 := by omega
    simp [DataW.trod] at h
  | 1 => fun H en w sp hd fuel cs y hk h => by
    have h0 : ReadsN Try.prog 0 72 enc72 CdG := fun H en w sp hd fuel cs y hk h => by
      obtain rfl : fuel = 0 := by omega
      simp [DataW.trod] at h
    obtain ⟨x, e, g⟩ := ReadsN.half Try.underlying67 co72 (by decide) h0 enc72_len H en w sp hd fuel cs y hk h
    exact ⟨x, e, Half.cond g⟩
  | k + 2 => fun H en w sp hd fuel cs y hk h => by
    obtain ⟨x, e, g⟩ := ReadsN.half Try.underlying67 co72 (by decide) (rd72N (condN k)) enc72_len H en w sp hd fuel cs y hk h
    exact ⟨x, e, Half.cond g⟩
theorem rd67c : Reads Try.prog 67 (encSl (α := Unit)) CondG := Reads.all condN
end Go.Proofs.Ytblmafknmeicfaa
