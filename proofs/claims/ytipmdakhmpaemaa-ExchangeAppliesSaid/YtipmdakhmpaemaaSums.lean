/-
  What refunds and exchanges come to: sums, and what the statements ask.
-/
import Derived.Test.YtipmdakhmpaemaaPlain
namespace Go.Proofs.Ytipmdakhmpaemaa
open Go Go.RowKit Eng
set_option linter.unusedVariables false
set_option linter.unusedSimpArgs false

theorem u16_bd {n : Int} (h : (Lit.int .u16 n).wf = true) : 0 ≤ n ∧ n ≤ 65535 := by
  simp [Lit.wf, IntKind.min, IntKind.max, IntKind.signed, IntKind.bits] at h
  omega
theorem i64_id {z : Int} (h : -9223372036854775808 ≤ z ∧ z ≤ 9223372036854775807) : IntKind.i64.wrap z = z := by
  have := IntWalk.wrap64_in z h
  simpa [IntWalk.i64_left] using this
theorem sumGo_ok : ∀ (l : List Int) (n : Int), (sumGo n l).2 = 0 → (sumGo n l).1 = n + sumV l ∧ ∀ x ∈ l, -1099511627776 ≤ x ∧ x ≤ 1099511627776
  | [], n, _ => ⟨by simp [sumGo, sumV], by simp⟩
  | x :: r, n, h => by
    rw [sumGo] at h ⊢
    split at h
    · rename_i q
      rw [if_pos q]
      obtain ⟨h1, h2⟩ := sumGo_ok r (n + x) h
      refine ⟨by rw [h1, sumV]; omega, fun y hy => ?_⟩
      rcases List.mem_cons.1 hy with rfl | hy
      · exact fitsB_iff.1 q.1
      · exact h2 y hy
    · cases h
theorem sumV_nn {l : List Int} (h : ∀ x ∈ l, 0 ≤ x) : 0 ≤ sumV l := by
  induction l with
  | nil => exact Int.le_refl _
  | cons x r ih =>
    have h1 := h x (List.mem_cons_self ..)
    have h2 := ih fun d hd => h d (List.mem_cons_of_mem _ hd)
    rw [sumV]; omega
theorem opens_le {l : List Cp} (h : ∀ c ∈ l, 0 ≤ c.2.2.2) : 0 ≤ sumV (opens l) ∧ sumV (opens l) ≤ sumV (vals l) := by
  induction l with
  | nil => exact ⟨Int.le_refl _, Int.le_refl _⟩
  | cons c r ih =>
    have h1 := h c (List.mem_cons_self ..)
    have h2 := ih fun d hd => h d (List.mem_cons_of_mem _ hd)
    simp only [opens]
    split
    · simp only [sumV, vals, List.map_cons]; simp only [vals] at h2; omega
    · simp only [sumV, vals, List.map_cons]; simp only [vals] at h2; omega
theorem opens_all {l : List Cp} (h : ∀ c ∈ l, c.2.2.1 = 1) : opens l = vals l := by
  induction l with
  | nil => rfl
  | cons c r ih =>
    rw [opens, if_pos (h c (List.mem_cons_self ..)), ih fun d hd => h d (List.mem_cons_of_mem _ hd)]; rfl
theorem open_mem {l : List Cp} {c : Cp} (hc : c ∈ l) (ho : c.2.2.1 = 1) : c.2.2.2 ∈ opens l := by
  induction l with
  | nil => cases hc
  | cons d r ih =>
    rw [opens]
    rcases List.mem_cons.1 hc with rfl | hc
    · rw [if_pos ho]; exact List.mem_cons_self ..
    · split
      · exact List.mem_cons_of_mem _ (ih hc)
      · exact ih hc
/-- a refund that is made: all its parts -/
theorem ofE_parts {l : List Cp} {x : List Ch} {fee : Int} (h : (ofE l x fee).2 = 0) (hl : ∀ c ∈ l, 0 ≤ c.2.2.2) (hx : ∀ y ∈ x, 0 ≤ y.2) :
    ∃ F T : Int, (0 ≤ F ∧ F ≤ 1099511627776) ∧ (0 ≤ T ∧ T ≤ 1099511627776) ∧ F + T ≤ 1099511627776 ∧ (0 ≤ fee ∧ fee ≤ 1099511627776) ∧ unusedE l = (F, 0) ∧ F = sumV (opens l) ∧
      (∀ c ∈ l, c.2.2.1 = 1 → c.2.2.2 ≤ 1099511627776) ∧ ((∀ c ∈ l, c.2.2.1 = 1) → F = sumV (vals l) ∧ T = sumV (amts x) ∧ ∀ y ∈ x, y.2 ≤ 1099511627776) ∧ T ≤ sumV (amts x) ∧
      ∀ f : Int, ofE l x f = if f < 0 ∨ 1099511627776 < f then (pd0, 2) else ((F, T, min f (F + T), F + T - min f (F + T)), 0) := by
  have h0 := h
  rw [ofE] at h
  repeat' split at h
  · cases h
  · rename_i h1 h2; exact absurd h h2
  · cases h
  · rename_i h1 h2 h3 h4; exact absurd h h4
  · rename_i h1 h2 h3 h4 h5; exact absurd h h5
  · rename_i h1 h2 h3 h4 h5
    have b1 := unusedE_fits l
    have b2 := taxE_fits l x
    have e2 : (unusedE l).2 = 0 := by omega
    have e4 : (taxE l x).2 = 0 := by omega
    have e5 : (addE (unusedE l).1 (taxE l x).1).2 = 0 := by omega
    have e6 : (addE (unusedE l).1 (taxE l x).1).1 = (unusedE l).1 + (taxE l x).1 ∧ fitsB ((unusedE l).1 + (taxE l x).1) = true := by
      rw [addE] at e5 ⊢
      split at e5
      · rename_i q; rw [if_pos q]; exact ⟨rfl, q.2.2⟩
      · cases e5
    have hu : unusedE l = sumE (opens l) := by
      rw [unusedE]; split; rfl
      rename_i q; rw [unusedE, if_neg q] at e2; exact absurd e2 q
    have hs := sumGo_ok (opens l) 0 (by rw [hu] at e2; exact e2)
    have hF : (unusedE l).1 = sumV (opens l) := by rw [hu]; show (sumGo 0 (opens l)).1 = _; rw [hs.1]; omega
    have hT0 : 0 ≤ (taxE l x).1 ∧ (taxE l x).1 ≤ sumV (amts x) ∧ ((∀ c ∈ l, c.2.2.1 = 1) → (taxE l x).1 = sumV (amts x) ∧ ∀ y ∈ x, y.2 ≤ 1099511627776) := by
      have hn : 0 ≤ sumV (amts x) := sumV_nn fun z hz => by obtain ⟨y, hy, rfl⟩ := amts_mem hz; exact hx y hy
      rw [taxE] at e4 ⊢
      split
      · rename_i q
        refine ⟨Int.le_refl _, hn, fun hw => ?_⟩
        exfalso
        rw [shutB, List.any_eq_true] at q
        obtain ⟨c, hc, q⟩ := q
        rw [hw c hc] at q; simp at q
      · rename_i q
        rw [if_neg q] at e4
        have ht := sumGo_ok (amts x) 0 e4
        have he : (sumE (amts x)).1 = sumV (amts x) := by show (sumGo 0 (amts x)).1 = _; rw [ht.1]; omega
        rw [he]
        refine ⟨hn, Int.le_refl _, fun _ => ⟨rfl, fun y hy => (ht.2 y.2 (List.mem_map.2 ⟨y, hy, rfl⟩)).2⟩⟩
    have hF0 := opens_le hl
    refine ⟨(unusedE l).1, (taxE l x).1, by omega, by omega, by have := fitsB_iff.1 e6.2; omega, by omega, ?_, hF, fun c hc ho => (hs.2 _ (open_mem hc ho)).2, fun hw => ⟨by rw [hF, opens_all hw], hT0.2.2 hw⟩, hT0.2.1, fun f => ?_⟩
    · rw [← e2]
    · rw [ofE]
      by_cases q : f < 0 ∨ 1099511627776 < f
      · rw [if_pos q, if_pos q]
      · rw [if_neg q, if_neg q, if_neg (by omega), if_neg h3, if_neg (by omega), if_neg (by omega), e6.1]
/-- an exchange that is made -/
theorem exE_parts {l : List Cp} {x : List Ch} {total fee ft tt : Int} (h : (exE l x total fee).2 = 0) (hf : FitsT ft tt l x) :
    ∃ R C D : Int, (exE l x total fee).1 = (R, fee, C, D) ∧ (0 ≤ R ∧ R ≤ tt) ∧ (0 ≤ C ∧ C ≤ 1099511627776) ∧ (0 ≤ D ∧ D ≤ 1099511627776) ∧ (C = 0 ∨ D = 0) ∧ R + C = total + fee + D ∧ (0 ≤ total ∧ total ≤ 1099511627776) ∧ (0 ≤ fee ∧ fee ≤ 1099511627776) := by
  obtain ⟨f1, f2, f3, f4, f5, f6, f7⟩ := hf
  rw [exE] at h ⊢
  repeat' split at h
  · cases h
  · rename_i h1 h2; exact absurd h h2
  · cases h
  · rename_i h1 h2 h3
    rw [if_neg h1, if_neg h2, if_neg h3]
    have o1 : outB fee = false := by cases q : outB fee; rfl; exact absurd (.inl q) h1
    have o2 : outB total = false := by cases q : outB total; rfl; exact absurd (.inr q) h1
    rw [outB_not] at o1 o2
    obtain ⟨F, T, p1, p2, p3, p4, p5, p6, p7, p8, p9, p10⟩ := ofE_parts (l := l) (x := x) (fee := 0) (by omega) (fun c hc => (f4 c hc).1.1) (fun y hy => (f5 y hy).1)
    have e0 := p10 0
    rw [if_neg (by omega)] at e0
    have hR : resid l x = F + T := by rw [resid, e0]
    have hV := (opens_le (l := l) (fun c hc => (f4 c hc).1.1)).2
    rw [hR] at h3 ⊢
    exact ⟨F + T, _, _, rfl, by omega, by omega, by omega, by omega, by omega, by omega, by omega⟩
theorem pd_eta (p : Pd) : p = (p.1, p.2.1, p.2.2.1, p.2.2.2) := rfl
/-- after an exchange no coupon is open -/
theorem lA_shut {l : List Cp} {ev e : Int} (he : ev = 8 ∨ ev = 9) {i : Nat} (hi : i < (lA l ev e).length) : ¬ (nth (lA l ev e) i).2.2.1 = 1 := by
  have key : ∀ c ∈ lA l ev e, ¬ c.2.2.1 = 1 := by
    intro c hc
    rw [lA] at hc
    split at hc
    · obtain ⟨d, hd, rfl⟩ := List.mem_map.1 hc
      unfold mv
      split
      · show ¬ (ev - 2 = 1); omega
      · assumption
    · cases hc
  exact key _ (nth_mem hi)
theorem lA_none {l : List Cp} {ev e : Int} (he : ev = 8 ∨ ev = 9) : anyB (lA l ev e) = false := by
  rw [anyB, List.any_eq_false]
  intro c hc
  rw [lA] at hc
  split at hc
  · obtain ⟨d, hd, rfl⟩ := List.mem_map.1 hc
    unfold mv
    split
    · show ¬ (decide (ev - 2 = 1) = true); simp; omega
    · simp; assumption
  · cases hc
theorem once_err {l : List Cp} {x : List Ch} {total fee : Int} (h : anyB l = false) : ¬ (exE l x total fee).2 = 0 := fun q => by rw [exE_ok q] at h; cases h
theorem sums_step1 {l : List Cp} {k : Nat} {s : Int} {wh : Bool} (h : k < l.length) (h0 : ∀ c ∈ l, 0 ≤ c.2.2.2) (hfit : ∀ c ∈ l, c.2.2.1 = 1 → c.2.2.2 ≤ 1099511627776) (hn : l.length ≤ 100)
    (hs : (wh = true → (∀ c ∈ l.take k, c.2.2.1 = 1) ∧ s = sumV (vals (l.take k))) ∧ ((∀ c ∈ l.take k, c.2.2.1 = 1) → wh = true)) :
    ((wh && decide ((nth l k).2.2.1 = 1)) = true → (∀ c ∈ l.take (k + 1), c.2.2.1 = 1) ∧ wrap64 (s + (nth l k).2.2.2) = sumV (vals (l.take (k + 1)))) ∧ ((∀ c ∈ l.take (k + 1), c.2.2.1 = 1) → (wh && decide ((nth l k).2.2.1 = 1)) = true) := by
  refine ⟨fun q => ?_, fun q => ?_⟩
  · simp only [Bool.and_eq_true, decide_eq_true_eq] at q
    obtain ⟨h1, h2⟩ := hs.1 q.1
    have hq := all_take h h1 q.2
    have hb := sumV_le (l := l.take (k + 1)) 1099511627776 (fun c hc => ⟨h0 c (List.mem_of_mem_take hc), hfit c (List.mem_of_mem_take hc) (hq c hc)⟩)
    rw [List.length_take] at hb
    rw [vals_take h] at hb ⊢
    refine ⟨hq, ?_⟩
    rw [h2, IntWalk.wrap64_in _ (by omega)]
  · have h1 : ∀ c ∈ l.take k, c.2.2.1 = 1 := fun c hc => q c (by rw [take_nth h]; exact List.mem_append_left _ hc)
    have h2 : (nth l k).2.2.1 = 1 := q _ (by rw [take_nth h]; exact List.mem_append_right _ (List.mem_singleton.2 rfl))
    rw [hs.2 h1, h2]; rfl
theorem amts_le {l : List Ch} (b : Int) (h : ∀ c ∈ l, 0 ≤ c.2 ∧ c.2 ≤ b) : 0 ≤ sumV (amts l) ∧ sumV (amts l) ≤ l.length * b := by
  induction l with
  | nil => simp [amts, sumV]
  | cons c r ih =>
    have h1 := h c (List.mem_cons_self ..)
    have h2 := ih fun d hd => h d (List.mem_cons_of_mem _ hd)
    simp only [amts, List.map_cons, sumV, List.length_cons] at h2 ⊢
    rw [Int.natCast_add, Int.add_mul]; omega
theorem sums_step2 {l : List Cp} {x : List Ch} {j : Nat} {s F T : Int} (h : j < x.length) (h0 : ∀ y ∈ x, 0 ≤ y.2) (hw : F = sumV (vals l) ∧ T = sumV (amts x) ∧ ∀ y ∈ x, y.2 ≤ 1099511627776) (hF : 0 ≤ F ∧ F ≤ 1099511627776) (hT : 0 ≤ T ∧ T ≤ 1099511627776) (hn : x.length ≤ 100)
    (hs : s = sumV (vals l) + sumV (amts (x.take j))) : wrap64 (s + (nth x j).2) = sumV (vals l) + sumV (amts (x.take (j + 1))) := by
  have hb := amts_le (l := x.take (j + 1)) 1099511627776 (fun c hc => ⟨h0 c (List.mem_of_mem_take hc), hw.2.2 c (List.mem_of_mem_take hc)⟩)
  rw [List.length_take] at hb
  rw [amts_take h] at hb ⊢
  rw [hs, IntWalk.wrap64_in _ (by omega)]; omega
end Go.Proofs.Ytipmdakhmpaemaa
