/-
  A family of rows of the call's own (the inner slices of a slice of slices), beside the outer row. Of no program.
-/
import Derived.Test.YtblmafknmeicfaaMore
namespace Go.Proofs.Ytblmafknmeicfaa.Eng
open Go Go.RowKit
set_option linter.unusedVariables false
set_option linter.unusedSimpArgs false
structure FRow where
  ao : Option Addr
  n : Nat
  cap : Nat
  xs : List Value
instance : Inhabited FRow := ⟨⟨none, 0, 0, []⟩⟩
def FRow.val (r : FRow) : Value := .slice r.ao r.n r.cap
def FRow.apart (r s : FRow) : Prop := ∀ b, r.ao.map (·.block) = some b → s.ao.map (·.block) ≠ some b
theorem FRow.apart.symm {r s : FRow} (h : r.apart s) : s.apart r := fun b h1 h2 => h b h2 h1
def Item.fam (base : Nat) (t : TypeId) (sz : Nat) (rs : List FRow) : Item where
  fp := fun k => ∃ r ∈ rs, r.ao.map (·.block) = some k
  ok := fun w => (∀ r ∈ rs, w.ownsRow base t sz (.slice r.ao r.n r.cap) r.n r.xs) ∧ rs.Pairwise FRow.apart
  inb := fun w h k ⟨r, hr, hk⟩ => (Item.own base r.ao r.n r.cap t sz r.xs).inb w (h.1 r hr) k hk
  stable := fun w w' hs h => ⟨fun r hr => (Item.own base r.ao r.n r.cap t sz r.xs).stable w w' (fun b hb => hs b ⟨r, hr, hb⟩) (h.1 r hr), h.2⟩
def Item.apart (x y : Item) : Prop := ∀ b, x.fp b → ¬ y.fp b
theorem HeapOk.apart {w0 w : World} {H : Heap} (h : HeapOk w0 H w) {i j : Nat} {x y : Item} (hi : H[i]? = some x) (hj : H[j]? = some y) (hij : i ≠ j) : x.apart y := by
  obtain ⟨h1, e1⟩ := List.getElem?_eq_some_iff.1 hi
  obtain ⟨h2, e2⟩ := List.getElem?_eq_some_iff.1 hj
  intro b hb hb2
  rcases Nat.lt_or_gt_of_ne hij with hl | hl
  · have := List.pairwise_iff_getElem.1 h.disj i j h1 h2 hl b
    rw [e1, e2] at this
    exact this hb hb2
  · have := List.pairwise_iff_getElem.1 h.disj j i h2 h1 hl b
    rw [e1, e2] at this
    exact this hb2 hb
/-- two items are dealt anew -/
theorem HeapOk.swap2 {w0 w : World} {H : Heap} (h : HeapOk w0 H w) {i j : Nat} {x y x' y' : Item} (hi : H[i]? = some x) (hj : H[j]? = some y) (hij : i ≠ j) (hx : x'.ok w) (hy : y'.ok w)
    (fx : ∀ b, x'.fp b → x.fp b ∨ y.fp b) (fy : ∀ b, y'.fp b → x.fp b ∨ y.fp b) (hd : x'.apart y') : HeapOk w0 ((H.set i x').set j y') w := by
  have hli := (List.getElem?_eq_some_iff.1 hi).1
  have hlj := (List.getElem?_eq_some_iff.1 hj).1
  have get : ∀ k z, ((H.set i x').set j y')[k]? = some z → (k = j ∧ z = y') ∨ (k = i ∧ k ≠ j ∧ z = x') ∨ (k ≠ i ∧ k ≠ j ∧ H[k]? = some z) := by
    intro k z hk
    rw [List.getElem?_set] at hk
    by_cases e : j = k
    · subst e
      rw [if_pos rfl, if_pos (by simpa using hlj)] at hk
      simp at hk; exact .inl ⟨rfl, hk.symm⟩
    · rw [if_neg e, List.getElem?_set] at hk
      by_cases e2 : i = k
      · subst e2
        rw [if_pos rfl, if_pos hli] at hk
        simp at hk; exact .inr (.inl ⟨rfl, fun h => e h.symm, hk.symm⟩)
      · rw [if_neg e2] at hk
        exact .inr (.inr ⟨fun h => e2 h.symm, fun h => e h.symm, hk⟩)
  have oldx : ∀ b, x.fp b → w0.heap.size ≤ b := h.own x (List.mem_of_getElem? hi)
  have oldy : ∀ b, y.fp b → w0.heap.size ≤ b := h.own y (List.mem_of_getElem? hj)
  refine ⟨h.below, ?_, ?_, ?_⟩
  · intro z hz
    obtain ⟨k, hk⟩ := List.mem_iff_getElem?.1 hz
    rcases get k z hk with ⟨_, rfl⟩ | ⟨_, _, rfl⟩ | ⟨_, _, hk⟩
    · exact hy
    · exact hx
    · exact h.ok z (List.mem_of_getElem? hk)
  · intro z hz b hb
    obtain ⟨k, hk⟩ := List.mem_iff_getElem?.1 hz
    rcases get k z hk with ⟨_, rfl⟩ | ⟨_, _, rfl⟩ | ⟨_, _, hk⟩
    · rcases fy b hb with q | q
      · exact oldx b q
      · exact oldy b q
    · rcases fx b hb with q | q
      · exact oldx b q
      · exact oldy b q
    · exact h.own z (List.mem_of_getElem? hk) b hb
  · rw [List.pairwise_iff_getElem]
    intro p q hp hq hpq b hb1 hb2
    have gp := get p _ (List.getElem?_eq_getElem hp)
    have gq := get q _ (List.getElem?_eq_getElem hq)
    revert hb1 hb2 gp gq
    generalize ((H.set i x').set j y')[p] = zp
    generalize ((H.set i x').set j y')[q] = zq
    intro hb1 hb2 gp gq
    have far : ∀ k z, k ≠ i → k ≠ j → H[k]? = some z → z.fp b → (x.fp b ∨ y.fp b) → False := by
      intro k z h1 h2 h3 h4 h5
      rcases h5 with h5 | h5
      · exact h.apart hi h3 (fun e => h1 e.symm) b h5 h4
      · exact h.apart hj h3 (fun e => h2 e.symm) b h5 h4
    rcases gp with ⟨rfl, rfl⟩ | ⟨rfl, e1, rfl⟩ | ⟨p1, p2, p3⟩ <;> rcases gq with ⟨rfl, rfl⟩ | ⟨rfl, e2, rfl⟩ | ⟨q1, q2, q3⟩
    · omega
    · exact hd b hb2 hb1
    · exact far q zq q1 q2 q3 hb2 (fy b hb1)
    · exact hd b hb1 hb2
    · omega
    · exact far q zq q1 q2 q3 hb2 (fx b hb1)
    · exact far p zp p1 p2 p3 hb1 (fy b hb2)
    · exact far p zp p1 p2 p3 hb1 (fx b hb2)
    · exact h.apart p3 q3 (by omega) b hb1 hb2
abbrev nilOwn (base : Nat) (t : TypeId) (sz : Nat) : Item := .own base none 0 0 t sz []
theorem nilOwn_ok (w : World) (base : Nat) (t : TypeId) (sz : Nat) : (nilOwn base t sz).ok w := ownsRow_nil
theorem nilOwn_fp {base : Nat} {t : TypeId} {sz b : Nat} (h : (nilOwn base t sz).fp b) : False := by
  have h : (none : Option Addr).map (·.block) = some b := h
  cases h
/-- an own row joins the family (i: the family, j: the row) -/
theorem HeapOk.famAdd {w0 w : World} {H : Heap} (h : HeapOk w0 H w) (i j : Nat) {base n cap sz : Nat} {t : TypeId} {ao : Option Addr} {xs : List Value} {rs : List FRow}
    (hi : H[i]? = some (.fam base t sz rs)) (hj : H[j]? = some (.own base ao n cap t sz xs)) (hij : Nat.beq i j = false) :
    HeapOk w0 ((H.set i (.fam base t sz (rs ++ [⟨ao, n, cap, xs⟩]))).set j (nilOwn base t sz)) w := by
  have hij : i ≠ j := fun e => by rw [e, nat_beq_iff.2 rfl] at hij; cases hij
  have hF : (∀ r ∈ rs, w.ownsRow base t sz (.slice r.ao r.n r.cap) r.n r.xs) ∧ rs.Pairwise FRow.apart := h.mem hi
  have hO : w.ownsRow base t sz (.slice ao n cap) n xs := h.mem hj
  have hap := h.apart hi hj hij
  refine h.swap2 hi hj hij ⟨?_, ?_⟩ (nilOwn_ok w base t sz) ?_ (fun b hb => (nilOwn_fp hb).elim) (fun b _ hb => nilOwn_fp hb)
  · intro r hr
    rcases List.mem_append.1 hr with hr | hr
    · exact hF.1 r hr
    · simp at hr; subst hr; exact hO
  · rw [List.pairwise_append]
    refine ⟨hF.2, List.pairwise_singleton _ _, fun r hr s hs b h1 h2 => ?_⟩
    simp at hs; subst hs
    exact hap b ⟨r, hr, h1⟩ h2
  · rintro b ⟨r, hr, hb⟩
    rcases List.mem_append.1 hr with hr | hr
    · exact .inl ⟨r, hr, hb⟩
    · simp at hr; subst hr; exact .inr hb
/-- an own row takes place k of the family -/
theorem HeapOk.famPut {w0 w : World} {H : Heap} (h : HeapOk w0 H w) (i j k : Nat) {base n cap sz : Nat} {t : TypeId} {ao : Option Addr} {xs : List Value} {rs : List FRow}
    (hi : H[i]? = some (.fam base t sz rs)) (hj : H[j]? = some (.own base ao n cap t sz xs)) (hij : Nat.beq i j = false) :
    HeapOk w0 ((H.set i (.fam base t sz (rs.set k ⟨ao, n, cap, xs⟩))).set j (nilOwn base t sz)) w := by
  have hij : i ≠ j := fun e => by rw [e, nat_beq_iff.2 rfl] at hij; cases hij
  have hF : (∀ r ∈ rs, w.ownsRow base t sz (.slice r.ao r.n r.cap) r.n r.xs) ∧ rs.Pairwise FRow.apart := h.mem hi
  have hO : w.ownsRow base t sz (.slice ao n cap) n xs := h.mem hj
  have hap := h.apart hi hj hij
  refine h.swap2 hi hj hij ⟨?_, ?_⟩ (nilOwn_ok w base t sz) ?_ (fun b hb => (nilOwn_fp hb).elim) (fun b _ hb => nilOwn_fp hb)
  · intro r hr
    rcases List.mem_or_eq_of_mem_set hr with hr | rfl
    · exact hF.1 r hr
    · exact hO
  · rcases Nat.lt_or_ge k rs.length with hk | hk
    · refine pairwise_set hF.2 (List.getElem?_eq_getElem hk) (fun z hz _ b h1 h2 => hap b ⟨z, hz, h1⟩ h2) (fun z hz _ b h1 h2 => hap b ⟨z, hz, h2⟩ h1)
    · rw [List.set_eq_of_length_le hk]; exact hF.2
  · rintro b ⟨r, hr, hb⟩
    rcases List.mem_or_eq_of_mem_set hr with hr | rfl
    · exact .inl ⟨r, hr, hb⟩
    · exact .inr hb
/-- row k leaves the family -/
theorem HeapOk.famTake {w0 w : World} {H : Heap} (h : HeapOk w0 H w) (i k : Nat) {base sz : Nat} {t : TypeId} {rs : List FRow} (hbase : base = w0.heap.size)
    (hi : H[i]? = some (.fam base t sz rs)) (hk : k < rs.length) :
    HeapOk w0 (H.set i (.fam base t sz (rs.set k default)) ++ [.own base (nth rs k).ao (nth rs k).n (nth rs k).cap t sz (nth rs k).xs]) w := by
  subst hbase
  have hi' : (H ++ [nilOwn w0.heap.size t sz])[i]? = some (.fam w0.heap.size t sz rs) := by
    rw [List.getElem?_append_left (List.getElem?_eq_some_iff.1 hi).1]; exact hi
  have hlt := (List.getElem?_eq_some_iff.1 hi).1
  have hj' : (H ++ [nilOwn w0.heap.size t sz])[H.length]? = some (nilOwn w0.heap.size t sz) := by simp
  have h2 := h.addnil t sz
  have hF : (∀ r ∈ rs, w.ownsRow w0.heap.size t sz (.slice r.ao r.n r.cap) r.n r.xs) ∧ rs.Pairwise FRow.apart := h.mem hi
  have hrk : rs[k]? = some (nth rs k) := nth_get hk
  have key := h2.swap2 (x' := .fam w0.heap.size t sz (rs.set k default)) (y' := .own w0.heap.size (nth rs k).ao (nth rs k).n (nth rs k).cap t sz (nth rs k).xs) hi' hj' (by omega) ?_ (hF.1 _ (nth_mem hk)) ?_ ?_ ?_
  · rw [List.set_append_left _ _ hlt] at key
    rw [List.set_append_right _ _ (by simp)] at key
    simpa using key
  · refine ⟨fun r hr => ?_, ?_⟩
    · rcases List.mem_or_eq_of_mem_set hr with hr | rfl
      · exact hF.1 r hr
      · exact ownsRow_nil
    · refine pairwise_set hF.2 hrk (fun z _ _ b h1 h2 => by cases h2) (fun z _ _ b h1 h2 => by cases h1)
  · rintro b ⟨r, hr, hb⟩
    rcases List.mem_or_eq_of_mem_set hr with hr | rfl
    · exact .inl ⟨r, hr, hb⟩
    · cases hb
  · intro b hb
    exact .inl ⟨_, nth_mem hk, hb⟩
  · rintro b ⟨r, hr, hb⟩ hb2
    obtain ⟨q, hq⟩ := List.mem_iff_getElem?.1 hr
    rw [List.getElem?_set] at hq
    by_cases e : k = q
    · subst e
      rw [if_pos rfl, if_pos hk] at hq
      simp at hq
      subst hq
      cases hb
    · rw [if_neg e] at hq
      have hb2 : (nth rs k).ao.map (·.block) = some b := hb2
      obtain ⟨hql, hqe⟩ := List.getElem?_eq_some_iff.1 hq
      obtain ⟨hkl, hke⟩ := List.getElem?_eq_some_iff.1 hrk
      rcases Nat.lt_or_gt_of_ne e with hl | hl
      · have := List.pairwise_iff_getElem.1 hF.2 k q hkl hql hl b
        rw [hqe, hke] at this
        exact this hb2 hb
      · have := List.pairwise_iff_getElem.1 hF.2 q k hql hkl hl b
        rw [hqe, hke] at this
        exact this hb hb2
/-- an empty family -/
theorem HeapOk.famNew {w0 w : World} {H : Heap} (h : HeapOk w0 H w) (base : Nat) (t : TypeId) (sz : Nat) : HeapOk w0 (H ++ [.fam base t sz []]) w := by
  refine h.add (x := .fam base t sz []) (Below.refl _ _) ⟨fun r hr => by simp at hr, List.Pairwise.nil⟩ ?_
  rintro b ⟨r, hr, _⟩
  simp at hr
section
variable {P : Program} {N : Nat} {w0 : World} {E : Env} {Γ : Gds} {H H' : Heap} {Q : Exit → Act → World → Prop} {ops : Array Oper} {rest : List Oper}
theorem WC.heap {c : Code} (hh : ∀ w, HeapOk w0 H w → HeapOk w0 H' w) (h : WC P N w0 c Q E Γ H') : WC P N w0 c Q E Γ H := fun a w he hw => h a w he (hh w hw)
theorem SL.heap (hh : ∀ w, HeapOk w0 H w → HeapOk w0 H' w) (h : SL P N w0 ops Q rest E Γ H') : SL P N w0 ops Q rest E Γ H := fun a w he hw => h a w he (hh w hw)
theorem QX.heap {e : Exit} (hh : ∀ w, HeapOk w0 H w → HeapOk w0 H' w) (h : QX N w0 Q e E Γ H') : QX N w0 Q e E Γ H := fun a w he hw => h a w he (hh w hw)
/-- a row of the family reads -/
theorem fam_in {w : World} (hw : HeapOk w0 H w) (i : Nat) {base sz : Nat} {t : TypeId} {rs : List FRow} {F : Nat → Nat → Value} (hi : H[i]? = some (.fam base t sz rs)) (k : Nat) (hk : k < rs.length)
    (hF : ∀ p, p < (nth rs k).n → ∀ q, q < sz → (nth rs k).xs[p * sz + q]? = some (F p q)) : SliceIn w sz (nth rs k).ao (nth rs k).n (nth rs k).cap F := by
  have h : (∀ r ∈ rs, w.ownsRow base t sz (.slice r.ao r.n r.cap) r.n r.xs) ∧ rs.Pairwise FRow.apart := hw.mem hi
  exact SliceIn.of_own (h.1 _ (nth_mem hk)) hF
theorem CellIs.fam (i : Nat) {base sz : Nat} {t : TypeId} {rs : List FRow} {v : Value} (hi : H[i]? = some (.fam base t sz rs)) (k : Nat) (hk : k < rs.length) (p q : Nat) (hv : (nth rs k).xs[p * sz + q]? = some v) : CellIs w0 H ⟨blk (nth rs k).ao, off (nth rs k).ao + p * sz + q, none⟩ v := by
  intro w hw
  have h : (∀ r ∈ rs, w.ownsRow base t sz (.slice r.ao r.n r.cap) r.n r.xs) ∧ rs.Pairwise FRow.apart := hw.mem hi
  have h2 := h.1 _ (nth_mem hk)
  rcases h2.2 with ⟨h3, h4⟩ | ⟨g, cap', cur, hv', hg, r⟩
  · have := h2.1
    rw [h4] at this
    simp only [Nat.zero_mul] at this
    rw [List.eq_nil_of_length_eq_zero this] at hv
    simp at hv
  · simp only [Value.slice.injEq] at hv'
    have := h2.cells (g := g) (by rw [hv'.1]; rfl) _ _ hv
    rw [add_lit] at this
    rw [hv'.1]
    simpa [blk, off, Nat.add_assoc] using this
theorem AoOk.fam (i : Nat) {base sz : Nat} {t : TypeId} {rs : List FRow} (hi : H[i]? = some (.fam base t sz rs)) (k : Nat) (hk : k < rs.length) : AoOk w0 H (nth rs k).ao (nth rs k).n := by
  intro w hw
  have h : (∀ r ∈ rs, w.ownsRow base t sz (.slice r.ao r.n r.cap) r.n r.xs) ∧ rs.Pairwise FRow.apart := hw.mem hi
  rcases (h.1 _ (nth_mem hk)).2 with ⟨h3, h4⟩ | ⟨g, cap', cur, hv', hg, r⟩
  · exact .inl h4
  · simp only [Value.slice.injEq] at hv'
    exact .inr ⟨_, hv'.1, rfl⟩
/-- what a function hands back that gives a slice of slices -/
structure FamOut (w' : World) (base : Nat) (t ti : TypeId) (sz : Nat) (ao : Option Addr) (cap : Nat) (rs : List FRow) : Prop where
  outer : w'.ownsRow base t 1 (.slice ao rs.length cap) rs.length (rs.map FRow.val)
  inner : (Item.fam base ti sz rs).ok w'
  apart : (Item.own base ao rs.length cap t 1 (rs.map FRow.val)).apart (.fam base ti sz rs)
theorem FamOut.of {w : World} (hw : HeapOk w0 H w) (i j : Nat) {t ti : TypeId} {sz n : Nat} {ao : Option Addr} {cap : Nat} {rs : List FRow} (hi : H[i]? = some (.own w0.heap.size ao n cap t 1 (rs.map FRow.val))) (hj : H[j]? = some (.fam w0.heap.size ti sz rs)) (hij : Nat.beq i j = false) (hn : n = rs.length) : FamOut w w0.heap.size t ti sz ao cap rs := by
  subst hn
  exact ⟨hw.mem hi, hw.mem hj, hw.apart hi hj (fun e => by rw [e, nat_beq_iff.2 rfl] at hij; cases hij)⟩
theorem own_fp_ge {w : World} {base n cap sz b : Nat} {t : TypeId} {ao : Option Addr} {xs : List Value} (h : w.ownsRow base t sz (.slice ao n cap) n xs) (hb : ao.map (·.block) = some b) : base ≤ b :=
  (h.lt b (by cases ao with
    | none => cases hb
    | some a =>
      have h1 : (some a : Option Addr).map (·.block) = some b := hb
      simpa [Value.ownBlock] using h1)).1
theorem SL.callg {o : Oper} {d f : Nat} {x : Operand} {xs : Array Operand} {ts : Array TypeId} {vs : List Value} {sz : Nat} {t ti : TypeId} (V : Option Addr → Nat → List FRow → Value) (R : List FRow → Prop) (ho : o.op = .call { callee := .value x, args := xs, argTypes := ts }) (hg : o.guard = none) (hd : o.dst = some d) (hN : Nat.blt d N = true)
    (hx : ev E Γ 0 x = some (.func (.func f) #[] #[])) (hxs : evs E Γ 0 xs.toList = some vs) (hf : callable P f = true)
    (hC : ∀ w, HeapOk w0 H w → FnC P f vs w fun v w' => ∃ ao cap rs, v = V ao cap rs ∧ R rs ∧ FamOut w' w.heap.size t ti sz ao cap rs)
    (h : ∀ ao cap rs, R rs → SL P N w0 ops Q rest ((d, 0, V ao cap rs) :: E) Γ (H ++ [.own w0.heap.size ao rs.length cap t 1 (rs.map FRow.val)] ++ [.fam w0.heap.size ti sz rs])) : SL P N w0 ops Q (o :: rest) E Γ H :=
  SL.call (R := fun w v w' => ∃ ao cap rs, v = V ao cap rs ∧ R rs ∧ FamOut w' w.heap.size t ti sz ao cap rs) ho hg hd hN hx hxs hf hC fun v w w' hw hw' hb ⟨ao, cap, rs, hv, hR, ho⟩ => by
    have hsz := hw.below.size
    have ho1 := ownsRow_weaken ho.outer hsz
    have hi1 : (Item.fam w0.heap.size ti sz rs).ok w' := ⟨fun r hr => ownsRow_weaken (ho.inner.1 r hr) hsz, ho.inner.2⟩
    refine ⟨H ++ [.own w0.heap.size ao rs.length cap t 1 (rs.map FRow.val)] ++ [.fam w0.heap.size ti sz rs], ?_, by rw [hv]; exact h ao cap rs hR⟩
    have k1 := hw.add (x := .own w0.heap.size ao rs.length cap t 1 (rs.map FRow.val)) hb ho1 (fun b hb' => own_fp_ge ho.outer hb')
    refine ⟨k1.below, ?_, ?_, ?_⟩
    · intro z hz
      rcases List.mem_append.1 hz with hz | hz
      · exact k1.ok z hz
      · simp at hz; subst hz; exact hi1
    · intro z hz b hfb
      rcases List.mem_append.1 hz with hz | hz
      · exact k1.own z hz b hfb
      · simp at hz; subst hz
        obtain ⟨r, hr, hrb⟩ := hfb
        exact Nat.le_trans hsz (own_fp_ge (ho.inner.1 r hr) hrb)
    · rw [List.pairwise_append]
      refine ⟨k1.disj, List.pairwise_singleton _ _, ?_⟩
      intro y hy z hz b h1 h2
      simp at hz; subst hz
      obtain ⟨r, hr, hrb⟩ := h2
      have hge := own_fp_ge (ho.inner.1 r hr) hrb
      rcases List.mem_append.1 hy with hy | hy
      · have := y.inb w (hw.ok y hy) b h1; omega
      · simp at hy; subst hy
        exact ho.apart b h1 ⟨r, hr, hrb⟩
/-- an operation whose guard is known to hold goes as one without a guard -/
theorem SL.ung {dst : Option Tmp} {op : Op} {ty : TypeId} {pos : String} {after : Array Edge} {j : Nat} {want : Bool} {t : Nat} {b : Bool} (hj : (ops[j]?).bind (·.dst) = some t) (ht : Nat.blt t N = true) (hl : look E t = some (0, .bool b)) (hb : (b == want) = true)
    (h : SL P N w0 ops Q (⟨dst, op, ty, pos, after, none⟩ :: rest) E Γ H) : SL P N w0 ops Q (⟨dst, op, ty, pos, after, some (j, want)⟩ :: rest) E Γ H := by
  intro a w he hw
  have h1 := h a w he hw
  have hw1 : Region.wanted (⟨dst, op, ty, pos, after, some (j, want)⟩ : Oper) (yielded ops a.tmps) = true := by
    rw [wanted_eq he rfl hj hl ht, gval_zero, hb]; rfl
  have hw2 : Region.wanted (⟨dst, op, ty, pos, after, none⟩ : Oper) (yielded ops a.tmps) = true := rfl
  unfold wpList at h1 ⊢
  rw [if_pos hw1]
  rw [if_pos hw2] at h1
  exact h1
/-! parts of slices -/
abbrev subAo (ao : Option Addr) (cap lo sz : Nat) : Option Addr := if cap = lo then ao else ao.map (·.add (lo * sz))
theorem SliceIn.sub {w : World} {sz : Nat} {ao : Option Addr} {n cap : Nat} {F : Nat → Nat → Value} (h : SliceIn w sz ao n cap F) (lo hi : Nat) (h1 : lo ≤ hi) (h2 : hi ≤ n) : SliceIn w sz (subAo ao cap lo sz) (hi - lo) (cap - lo) (fun i j => F (lo + i) j) := by
  have hle := h.le
  have hmax := h.max
  refine ⟨by omega, by omega, ?_, fun i hi' j hj => ?_⟩
  · unfold subAo
    split
    · exact .inl (by omega)
    · rcases h.there with h0 | ⟨a, rfl, hs⟩
      · exact .inl (by omega)
      · refine .inr ⟨_, rfl, ?_⟩
        obtain ⟨b, o, sp⟩ := a
        simp only at hs
        subst hs
        show ((⟨b, o, none⟩ : Addr).add (lo * sz)).spot = none
        rw [add_lit]
  · have hc := h.cell (lo + i) (by omega) j hj
    have e : (⟨blk (subAo ao cap lo sz), off (subAo ao cap lo sz) + i * sz + j, none⟩ : Addr) = ⟨blk ao, off ao + (lo + i) * sz + j, none⟩ := by
      unfold subAo
      rw [if_neg (by omega)]
      rcases h.there with h0 | ⟨a, rfl, hs⟩
      · omega
      · obtain ⟨b, o, sp⟩ := a
        simp only at hs
        subst hs
        simp only [Option.map_some, add_lit, blk, off]
        rw [Nat.add_mul, Nat.add_assoc o]
    rw [e]
    exact hc
theorem SliceIn.congr {w : World} {sz : Nat} {ao : Option Addr} {n cap : Nat} {F F' : Nat → Nat → Value} (h : SliceIn w sz ao n cap F) (he : ∀ i, i < n → ∀ j, j < sz → F i j = F' i j) : SliceIn w sz ao n cap F' :=
  ⟨h.le, h.max, h.there, fun i hi j hj => by rw [← he i hi j hj]; exact h.cell i hi j hj⟩
theorem SliceIn.subrows {α : Type} [Inhabited α] {enc : α → List Value} {l : List α} {w : World} {sz : Nat} {ao : Option Addr} {n cap : Nat} (h : SliceIn w sz ao n cap (rowsF enc l)) (hn : n = l.length) (lo hi : Nat) (h1 : lo ≤ hi) (h2 : hi ≤ n) : SliceIn w sz (subAo ao cap lo sz) (hi - lo) (cap - lo) (rowsF enc ((l.drop lo).take (hi - lo))) :=
  (h.sub lo hi h1 h2).congr fun i hi' j _ => by
    unfold rowsF
    congr 2
    unfold nth
    rw [List.getD_eq_getElem?_getD, List.getD_eq_getElem?_getD, List.getElem?_take, if_pos hi', List.getElem?_drop]
variable {c : Nat} {dst : Option Tmp} {x y z : Operand} {t ty : TypeId} {pos : String} {after : Array Edge} {g : Option (Nat × Bool)}
theorem PureOp.slicel {e : TypeId} {ao : Option Addr} {n cap sz : Nat} {lo : Int} {k : IntKind} (ht : P.underlying t = some (.slice e)) (hsz : (P.info? e).map (·.size) = some sz) (hx : ev E Γ c x = some (.slice ao n cap)) (hy : ev E Γ c y = some (.int k lo)) (hb : gval Γ c = true → 0 ≤ lo ∧ lo ≤ n) :
    PureOp P N w0 E Γ H c ⟨dst, .slice t x (some y) none none, ty, pos, after, g⟩ (.slice (subAo ao cap lo.toNat sz) (n - lo.toNat) (cap - lo.toNat)) := by
  intro a w he hw hc
  obtain ⟨i, hi, hs⟩ := Option.map_eq_some_iff.1 hsz
  obtain ⟨b1, b2⟩ := hb hc
  have hel : P.elem t = e := by simp [Program.elem, ht]
  have ht' : P.underlying t = some (.slice (P.elem t)) := by rw [hel]; exact ht
  have := run_slice_l (P := P) w t ao n cap ht' k lo b1 b2
  simp only [execOp, Option.map_some, Option.map_none, ev_ok he hx hc, ev_ok he hy hc]
  rw [Sem.run_bind, run_sliceAt_slice w t _ _ _ _ ht', this]
  simp [sizeOf, typeInfo, hel, hi, hs, sliced, subAo]
theorem PureOp.slicelh {e : TypeId} {ao : Option Addr} {n cap sz : Nat} {lo hi : Int} {k k' : IntKind} (ht : P.underlying t = some (.slice e)) (hsz : (P.info? e).map (·.size) = some sz) (hx : ev E Γ c x = some (.slice ao n cap)) (hy : ev E Γ c y = some (.int k lo)) (hz : ev E Γ c z = some (.int k' hi)) (hb : gval Γ c = true → 0 ≤ lo ∧ lo ≤ hi ∧ hi ≤ cap) :
    PureOp P N w0 E Γ H c ⟨dst, .slice t x (some y) (some z) none, ty, pos, after, g⟩ (.slice (subAo ao cap lo.toNat sz) (hi.toNat - lo.toNat) (cap - lo.toNat)) := by
  intro a w he hw hc
  obtain ⟨i, hi', hs⟩ := Option.map_eq_some_iff.1 hsz
  obtain ⟨b1, b2, b3⟩ := hb hc
  have hel : P.elem t = e := by simp [Program.elem, ht]
  have ht' : P.underlying t = some (.slice (P.elem t)) := by rw [hel]; exact ht
  have := run_slice_lh (P := P) w t ao n cap ht' k k' lo hi b1 b2 b3
  simp only [execOp, Option.map_some, Option.map_none, ev_ok he hx hc, ev_ok he hy hc, ev_ok he hz hc]
  rw [Sem.run_bind, run_sliceAt_slice w t _ _ _ _ ht', this]
  simp [sizeOf, typeInfo, hel, hi', hs, sliced, subAo]
end
end Go.Proofs.Ytblmafknmeicfaa.Eng
