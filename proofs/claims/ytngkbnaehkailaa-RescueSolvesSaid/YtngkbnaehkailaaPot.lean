/-
  Flows: a search settles one more node with each sweep, where prices exist. Plain Lean.
-/
import Derived.Test.YtngkbnaehkailaaPrices
namespace Go.Proofs.Ytngkbnaehkailaa
open Go Go.RowKit Eng
set_option linter.unusedVariables false
set_option linter.unusedSimpArgs false
abbrev FAR : Int := 1152921504606846976
/-- the arcs of the residual network, of the first k edges -/
def ArcK (l : List Ed) (f : List Int) (k u v : Nat) (w : Int) : Prop := ∃ i, i < k ∧ ((nth f i < (nth l i).2.2.1 ∧ u = (nth l i).1.toNat ∧ v = (nth l i).2.1.toNat ∧ w = (nth l i).2.2.2) ∨ (0 < nth f i ∧ u = (nth l i).2.1.toNat ∧ v = (nth l i).1.toNat ∧ w = -(nth l i).2.2.2))
def Arc (l : List Ed) (f : List Int) (u v : Nat) (w : Int) : Prop := ArcK l f l.length u v w
theorem ArcK.fw {l : List Ed} {f : List Int} {k i : Nat} (hi : i < k) (h : nth f i < (nth l i).2.2.1) : ArcK l f k (nth l i).1.toNat (nth l i).2.1.toNat (nth l i).2.2.2 := ⟨i, hi, .inl ⟨h, rfl, rfl, rfl⟩⟩
theorem ArcK.bw {l : List Ed} {f : List Int} {k i : Nat} (hi : i < k) (h : 0 < nth f i) : ArcK l f k (nth l i).2.1.toNat (nth l i).1.toNat (-(nth l i).2.2.2) := ⟨i, hi, .inr ⟨h, rfl, rfl, rfl⟩⟩
def Pot (l : List Ed) (f : List Int) (π : Nat → Int) : Prop := ∀ u v w, Arc l f u v w → π v ≤ π u + w
def rlx (ok : Bool) (x y : Nat) (w : Int) (c : List Int) : List Int := if ok = true ∧ nth c x ≠ FAR ∧ nth c x + w < nth c y then c.set y (nth c x + w) else c
theorem fwS_rlx {l : List Ed} {f c : List Int} {i : Nat} : fwS l f i c = rlx (decide (nth f i < (nth l i).2.2.1)) (nth l i).1.toNat (nth l i).2.1.toNat (nth l i).2.2.2 c := by
  unfold fwS rlx fwC
  simp only [Bool.and_eq_true, decide_eq_true_iff]
theorem bwS_rlx {l : List Ed} {f c : List Int} {i : Nat} : bwS l f i c = rlx (decide (0 < nth f i)) (nth l i).2.1.toNat (nth l i).1.toNat (-(nth l i).2.2.2) c := by
  unfold bwS rlx bwC
  simp only [Bool.and_eq_true, decide_eq_true_iff, Int.sub_eq_add_neg]
theorem rlx_len {ok : Bool} {x y : Nat} {w : Int} {c : List Int} : (rlx ok x y w c).length = c.length := by unfold rlx; split <;> simp
theorem rlx_le {ok : Bool} {x y : Nat} {w : Int} {c : List Int} (v : Nat) : nth (rlx ok x y w c) v ≤ nth c v := by
  unfold rlx
  split
  · rename_i h
    rcases Nat.lt_or_ge y c.length with q | q
    · rw [nth_set q]
      split
      · rename_i e; subst e; omega
      · exact Int.le_refl _
    · rw [List.set_eq_of_length_le q]; exact Int.le_refl _
  · exact Int.le_refl _
theorem rlx_no {ok : Bool} {x y : Nat} {w : Int} {c : List Int} (h : nth c x = FAR ∨ nth c y ≤ nth c x + w ∨ ok = false) : rlx ok x y w c = c := by
  unfold rlx
  rw [if_neg]
  rintro ⟨h1, h2, h3⟩
  rcases h with h | h | h
  · exact h2 h
  · omega
  · rw [h1] at h; cases h
theorem rlx_other {ok : Bool} {x y v : Nat} {w : Int} {c : List Int} (h : v ≠ y) : nth (rlx ok x y w c) v = nth c v := by
  unfold rlx
  split
  · rcases Nat.lt_or_ge y c.length with q | q
    · rw [nth_set q, if_neg (fun e => h e.symm)]
    · rw [List.set_eq_of_length_le q]
  · rfl
/-- a step is relaxed -/
def Rel (c : List Int) (u v : Nat) (w : Int) : Prop := nth c u = FAR ∨ nth c v ≤ nth c u + w
theorem rlx_does {x y : Nat} {w : Int} {c : List Int} (hy : y < c.length) (hx : nth c x ≠ FAR) : nth (rlx true x y w c) y ≤ nth c x + w := by
  unfold rlx
  split
  · rw [nth_set hy, if_pos rfl]; exact Int.le_refl _
  · rename_i h
    have : ¬ nth c x + w < nth c y := fun q => h ⟨rfl, hx, q⟩
    omega
def LEk (π : Nat → Int) (c : List Int) (a v : Nat) : Prop := nth c v = FAR ∨ (nth c a ≠ FAR ∧ nth c a - π a ≤ nth c v - π v)
theorem LEk.total {π : Nat → Int} {c : List Int} (a v : Nat) : LEk π c a v ∨ LEk π c v a := by
  unfold LEk
  by_cases h1 : nth c v = FAR
  · exact .inl (.inl h1)
  · by_cases h2 : nth c a = FAR
    · exact .inr (.inl h2)
    · by_cases h3 : nth c a - π a ≤ nth c v - π v
      · exact .inl (.inr ⟨h2, h3⟩)
      · exact .inr (.inr ⟨h1, by omega⟩)
theorem LEk.trans {π : Nat → Int} {c : List Int} {a b v : Nat} (h1 : LEk π c a b) (h2 : LEk π c b v) : LEk π c a v := by
  unfold LEk at *
  rcases h2 with h2 | ⟨h2, h3⟩
  · exact .inl h2
  · rcases h1 with h1 | ⟨h1, h4⟩
    · exact absurd h1 h2
    · exact .inr ⟨h1, by omega⟩
theorem least {π : Nat → Int} {c : List Int} : ∀ (U : List Nat), U ≠ [] → ∃ u ∈ U, ∀ v ∈ U, LEk π c u v
  | [], h => absurd rfl h
  | [x], _ => ⟨x, by simp, fun v hv => by
      obtain rfl : v = x := by simpa using hv
      rcases LEk.total (π := π) (c := c) v v with h | h <;> exact h⟩
  | x :: y :: r, _ => by
    obtain ⟨u, hu, hl⟩ := least (π := π) (c := c) (y :: r) (by simp)
    rcases LEk.total (π := π) (c := c) x u with h | h
    · refine ⟨x, List.mem_cons_self, fun v hv => ?_⟩
      rcases List.mem_cons.1 hv with rfl | hv
      · rcases LEk.total (π := π) (c := c) v v with h | h <;> exact h
      · exact h.trans (hl v hv)
    · refine ⟨u, List.mem_cons_of_mem _ hu, fun v hv => ?_⟩
      rcases List.mem_cons.1 hv with rfl | hv
      · exact h
      · exact hl v hv
/-- the nodes outside U are settled -/
structure Settled (l : List Ed) (f : List Int) (π : Nat → Int) (nu : Nat) (U : List Nat) (c : List Int) : Prop where
  ord : ∀ a, a < nu → a ∉ U → ∀ v, v ∈ U → LEk π c a v
  rel : ∀ a, a < nu → a ∉ U → ∀ v w, Arc l f a v w → Rel c a v w
/-- within a sweep that began with c0: u is the least of the others -/
structure Mid (l : List Ed) (f : List Int) (π : Nat → Int) (nu : Nat) (U : List Nat) (u : Nat) (c0 : List Int) (k : Nat) (c : List Int) : Prop where
  len : c.length = nu
  same : ∀ a, a < nu → (a ∉ U ∨ a = u) → nth c a = nth c0 a
  low : ∀ v, v < nu → v ∈ U → nth c v = FAR ∨ (nth c0 u ≠ FAR ∧ nth c0 u - π u ≤ nth c v - π v)
  le : ∀ v, nth c v ≤ nth c0 v
  done : ∀ v w, ArcK l f k u v w → Rel c u v w
theorem mid_rlx {l : List Ed} {f : List Int} {π : Nat → Int} {nu : Nat} {U : List Nat} {u k : Nat} {c0 c : List Int} {ok : Bool} {x y : Nat} {w : Int} (hS : Settled l f π nu U c0) (hP : Pot l f π) (huU : u ∈ U) (hu : u < nu) (hmin : ∀ v ∈ U, LEk π c0 u v) (h : Mid l f π nu U u c0 k c) (hx : x < nu) (hy : y < nu) (ha : ok = true → Arc l f x y w) : Mid l f π nu U u c0 k (rlx ok x y w c) := by
  by_cases hok : ok = true
  · have hA := ha hok
    have hp := hP x y w hA
    have hq : nth c x ≠ FAR → (y ∉ U ∨ y = u) → nth c y ≤ nth c x + w := by
      intro hxf hyu
      have hcy := h.same y hy hyu
      by_cases hxU : x ∈ U
      · have hl := (h.low x hx hxU).resolve_left hxf
        have hky : nth c0 y - π y ≤ nth c0 u - π u := by
          rcases hyu with hyu | rfl
          · exact ((hS.ord y hy hyu u huU).resolve_left hl.1).2
          · exact Int.le_refl _
        rw [hcy]; omega
      · have hcx := h.same x hx (.inl hxU)
        have hr := hS.rel x hx hxU y w hA
        rcases hr with hr | hr
        · rw [← hcx] at hr; exact absurd hr hxf
        · rw [hcy, hcx]; exact hr
    by_cases hup : nth c x ≠ FAR ∧ nth c x + w < nth c y
    · have hyu : ¬ (y ∉ U ∨ y = u) := fun q => by have := hq hup.1 q; omega
      have hyU : y ∈ U := by
        by_cases q : y ∈ U
        · exact q
        · exact absurd (.inl q) hyu
      have hxU : x ∈ U := by
        by_cases q : x ∈ U
        · exact q
        · exfalso
          have hcx := h.same x hx (.inl q)
          rcases hS.rel x hx q y w hA with hr | hr
          · rw [← hcx] at hr; exact hup.1 hr
          · have := h.le y
            have h2 := hup.2
            rw [hcx] at h2; omega
      have hl := (h.low x hx hxU).resolve_left hup.1
      refine ⟨by rw [rlx_len]; exact h.len, fun a ha' hau => ?_, fun v hv hvU => ?_, fun v => Int.le_trans (rlx_le v) (h.le v), fun v w' hA' => ?_⟩
      · rw [rlx_other (fun e => hyu (by rw [← e]; exact hau))]; exact h.same a ha' hau
      · by_cases e : v = y
        · subst e
          right
          refine ⟨hl.1, ?_⟩
          have e2 : nth (rlx ok x v w c) v = nth c x + w := by
            unfold rlx
            rw [if_pos ⟨hok, hup.1, hup.2⟩, nth_set (by rw [h.len]; exact hv), if_pos rfl]
          rw [e2]; omega
        · rw [rlx_other e]; exact h.low v hv hvU
      · have hr := h.done v w' hA'
        have hun : nth (rlx ok x y w c) u = nth c u := rlx_other (fun e => hyu (.inr e.symm))
        unfold Rel at *
        rw [hun]
        rcases hr with hr | hr
        · exact .inl hr
        · exact .inr (Int.le_trans (rlx_le v) hr)
    · rw [rlx_no (by
        by_cases q : nth c x = FAR
        · exact .inl q
        · exact .inr (.inl (by have : ¬ nth c x + w < nth c y := fun z => hup ⟨q, z⟩; omega)))]
      exact h
  · rw [rlx_no (.inr (.inr (by simpa using hok)))]
    exact h
theorem mid_next {l : List Ed} {f : List Int} {π : Nat → Int} {nu : Nat} {U : List Nat} {u k : Nat} {c0 c : List Int} (hE : EdOk nu l) (hS : Settled l f π nu U c0) (hP : Pot l f π) (huU : u ∈ U) (hu : u < nu) (hmin : ∀ v ∈ U, LEk π c0 u v) (hk : k < l.length) (h : Mid l f π nu U u c0 k c) : Mid l f π nu U u c0 (k + 1) (bwS l f k (fwS l f k c)) := by
  have hEk := hE k hk
  have h1 : Mid l f π nu U u c0 k (fwS l f k c) := by
    rw [fwS_rlx]
    exact mid_rlx hS hP huU hu hmin h (by omega) (by omega) (fun q => ArcK.fw hk (of_decide_eq_true q))
  have h2 : Mid l f π nu U u c0 k (bwS l f k (fwS l f k c)) := by
    rw [bwS_rlx]
    exact mid_rlx hS hP huU hu hmin h1 (by omega) (by omega) (fun q => ArcK.bw hk (of_decide_eq_true q))
  refine ⟨h2.len, h2.same, h2.low, h2.le, ?_⟩
  rintro v w ⟨i, hi, hA⟩
  by_cases e : i = k
  · subst e
    have hu0 := h.same u hu (.inr rfl)
    have hu1 := h1.same u hu (.inr rfl)
    have hu2 := h2.same u hu (.inr rfl)
    unfold Rel
    by_cases hf : nth c0 u = FAR
    · exact .inl (by rw [hu2]; exact hf)
    right
    rcases hA with ⟨q, e1, e2, e3⟩ | ⟨q, e1, e2, e3⟩
    · subst e2
      have := rlx_does (x := (nth l i).1.toNat) (y := (nth l i).2.1.toNat) (w := (nth l i).2.2.2) (c := c) (by rw [h.len]; omega) (by rw [← e1, hu0]; exact hf)
      have e4 : fwS l f i c = rlx true (nth l i).1.toNat (nth l i).2.1.toNat (nth l i).2.2.2 c := by rw [fwS_rlx, decide_eq_true q]
      have h5 : nth (bwS l f i (fwS l f i c)) (nth l i).2.1.toNat ≤ nth (fwS l f i c) (nth l i).2.1.toNat := by rw [bwS_rlx]; exact rlx_le _
      rw [hu2, ← hu0, e1, e3]
      rw [e4] at h5
      rw [e4]
      omega
    · subst e2
      have := rlx_does (x := (nth l i).2.1.toNat) (y := (nth l i).1.toNat) (w := -(nth l i).2.2.2) (c := fwS l f i c) (by rw [h1.len]; omega) (by rw [← e1, hu1]; exact hf)
      have e4 : bwS l f i (fwS l f i c) = rlx true (nth l i).2.1.toNat (nth l i).1.toNat (-(nth l i).2.2.2) (fwS l f i c) := by rw [bwS_rlx, decide_eq_true q]
      rw [hu2, ← hu1, e1, e3, e4]
      omega
  · exact h2.done v w ⟨i, by omega, hA⟩
theorem mid_sweep {l : List Ed} {f la : List Int} {π : Nat → Int} {nu : Nat} {U : List Nat} {u : Nat} {c0 : List Int} (hE : EdOk nu l) (hc : c0.length = nu) (hS : Settled l f π nu U c0) (hP : Pot l f π) (huU : u ∈ U) (hu : u < nu) (hmin : ∀ v ∈ U, LEk π c0 u v) : ∀ k, k ≤ l.length → Mid l f π nu U u c0 k (sweep l f c0 la k).1
  | 0, _ => ⟨hc, fun _ _ _ => rfl, fun v hv hvU => (hmin v hvU).imp id id, fun v => Int.le_refl _, fun v w ⟨i, hi, _⟩ => absurd hi (Nat.not_lt_zero _)⟩
  | k + 1, hk => by
    rw [sweep_succ.1]
    exact mid_next hE hS hP huU hu hmin (by omega) (mid_sweep hE hc hS hP huU hu hmin k (by omega))
theorem settle {l : List Ed} {f la : List Int} {π : Nat → Int} {nu : Nat} {U : List Nat} {c0 : List Int} (hE : EdOk nu l) (hc : c0.length = nu) (hS : Settled l f π nu U c0) (hP : Pot l f π) (hU : ∀ v ∈ U, v < nu) (hne : U ≠ []) : ∃ u ∈ U, Settled l f π nu (U.filter (· ≠ u)) (sweep l f c0 la l.length).1 := by
  obtain ⟨u, huU, hmin⟩ := least (π := π) (c := c0) U hne
  have hu := hU u huU
  have hM := mid_sweep (la := la) hE hc hS hP huU hu hmin l.length (Nat.le_refl _)
  have hsu := hM.same u hu (.inr rfl)
  refine ⟨u, huU, fun a ha haU v hvU => ?_, fun a ha haU v w hA => ?_⟩
  · have hv2 := List.mem_filter.1 hvU
    have hvU' : v ∈ U := hv2.1
    rcases hM.low v (hU v hvU') hvU' with q | ⟨q1, q2⟩
    · exact .inl q
    · by_cases e : a = u
      · subst e
        exact .inr ⟨by rw [hsu]; exact q1, by rw [hsu]; exact q2⟩
      · have haU' : a ∉ U := fun q => haU (List.mem_filter.2 ⟨q, by simpa using e⟩)
        have hsa := hM.same a ha (.inl haU')
        have h3 := (hS.ord a ha haU' u huU).resolve_left q1
        exact .inr ⟨by rw [hsa]; exact h3.1, by rw [hsa]; omega⟩
  · by_cases e : a = u
    · subst e; exact hM.done v w hA
    · have haU' : a ∉ U := fun q => haU (List.mem_filter.2 ⟨q, by simpa using e⟩)
      have hsa := hM.same a ha (.inl haU')
      unfold Rel
      rw [hsa]
      rcases hS.rel a ha haU' v w hA with q | q
      · exact .inl q
      · exact .inr (Int.le_trans (hM.le v) q)
theorem settled_start {l : List Ed} {f : List Int} {π : Nat → Int} {nu : Nat} {c : List Int} : Settled l f π nu (List.range nu) c := ⟨fun a ha h => absurd (List.mem_range.2 ha) h, fun a ha h => absurd (List.mem_range.2 ha) h⟩
theorem filter_lt {U : List Nat} {u : Nat} (h : u ∈ U) : (U.filter (· ≠ u)).length < U.length := by
  induction U with
  | nil => cases h
  | cons x r ih =>
    rw [List.filter_cons]
    by_cases e : x = u
    · simp only [e, ne_eq, not_true_eq_false, decide_false, Bool.false_eq_true, if_false, List.length_cons]
      exact Nat.lt_succ_of_le (List.length_filter_le _ _)
    · simp only [ne_eq, e, not_false_eq_true, decide_true, if_true, List.length_cons]
      have := ih ((List.mem_cons.1 h).resolve_left (fun q => e q.symm))
      simp only [ne_eq] at this
      omega
/-- all steps relaxed: nothing moves any more -/
theorem rel_still {l : List Ed} {f c : List Int} (h : ∀ u v w, Arc l f u v w → Rel c u v w) : ∀ i, i < l.length → fwC l f c i = false ∧ bwC l f c i = false := by
  intro i hi
  constructor
  · cases q : fwC l f c i with
    | false => rfl
    | true =>
      rw [fwC, Bool.and_eq_true, Bool.and_eq_true, decide_eq_true_iff, decide_eq_true_iff, decide_eq_true_iff] at q
      rcases h _ _ _ (ArcK.fw hi q.1) with r | r
      · exact absurd r q.2.1
      · omega
  · cases q : bwC l f c i with
    | false => rfl
    | true =>
      rw [bwC, Bool.and_eq_true, Bool.and_eq_true, decide_eq_true_iff, decide_eq_true_iff, decide_eq_true_iff] at q
      rcases h _ _ _ (ArcK.bw hi q.1) with r | r
      · exact absurd r q.2.1
      · omega
theorem run_settles {l : List Ed} {f : List Int} {π : Nat → Int} {nu : Nat} (hE : EdOk nu l) (hP : Pot l f π) : ∀ k (U : List Nat) (c la : List Int), c.length = nu → Settled l f π nu U c → (∀ v ∈ U, v < nu) → U.length < k → (runF l f k c la).2.2 = true ∧ ∀ u v w, Arc l f u v w → Rel (runF l f k c la).1 u v w
  | 0, U, c, la, _, _, _, h => absurd h (Nat.not_lt_zero _)
  | k + 1, U, c, la, hc, hS, hU, hk => by
    by_cases q : (sweep l f c la l.length).2.2 = true
    · rw [runF, if_pos q]
      have hne : U ≠ [] := by
        rintro rfl
        have := (sweep_still (la := la) l.length (rel_still (c := c) (f := f) (l := l) fun u v w hA => by
          obtain ⟨i, hi, h⟩ := hA
          have hEi := hE i hi
          exact hS.rel u (by rcases h with ⟨_, e, _⟩ | ⟨_, e, _⟩ <;> omega) (by simp) v w ⟨i, hi, h⟩)).2
        rw [this] at q; cases q
      obtain ⟨u, hu, hS'⟩ := settle (la := la) hE hc hS hP hU hne
      have hl : (sweep l f c la l.length).1.length = nu := by
        obtain ⟨u, huU, hmin⟩ := least (π := π) (c := c) U hne
        exact (mid_sweep (la := la) hE hc hS hP huU (hU u huU) hmin l.length (Nat.le_refl _)).len
      exact run_settles hE hP k (U.filter (· ≠ u)) _ _ hl hS' (fun v hv => hU v (List.mem_filter.1 hv).1) (by have := filter_lt hu; omega)
    · have q' : (sweep l f c la l.length).2.2 = false := by simpa using q
      have h := sweep_same l.length q'
      rw [runF, if_neg q]
      refine ⟨rfl, ?_⟩
      rintro u v w ⟨i, hi, hA⟩
      rw [h.1]
      have h2 := h.2 i hi
      unfold Rel
      by_cases hf : nth c u = FAR
      · exact .inl hf
      · right
        rcases hA with ⟨r, e1, e2, e3⟩ | ⟨r, e1, e2, e3⟩
        · have h3 := h2.1
          rw [fwC, Bool.and_eq_false_iff, Bool.and_eq_false_iff, decide_eq_false_iff_not, decide_eq_false_iff_not, decide_eq_false_iff_not, ← e1, ← e2, ← e3] at h3
          rcases h3 with h3 | h3 | h3
          · exact absurd r h3
          · exact absurd hf h3
          · omega
        · have h3 := h2.2
          rw [bwC, Bool.and_eq_false_iff, Bool.and_eq_false_iff, decide_eq_false_iff_not, decide_eq_false_iff_not, decide_eq_false_iff_not, ← e1, ← e2] at h3
          rcases h3 with h3 | h3 | h3
          · exact absurd r h3
          · exact absurd hf h3
          · omega
/-- where prices exist, the search ends -/
theorem run_ends {l : List Ed} {f : List Int} {π : Nat → Int} {nu : Nat} {c la : List Int} (hE : EdOk nu l) (hP : Pot l f π) (hc : c.length = nu) : (runF l f (nu + 1) c la).2.2 = true ∧ ∀ u v w, Arc l f u v w → Rel (runF l f (nu + 1) c la).1 u v w :=
  run_settles hE hP (nu + 1) (List.range nu) c la hc settled_start (fun v hv => List.mem_range.1 hv) (by simp)
end Go.Proofs.Ytngkbnaehkailaa
