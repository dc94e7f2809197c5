/-
  Flows: valid flows and feasible ones are the same. Plain Lean.
-/
import Derived.Test.YtngkbnaehkailaaOpt
namespace Go.Proofs.Ytngkbnaehkailaa
open Go Go.RowKit Eng
set_option linter.unusedVariables false
set_option linter.unusedSimpArgs false
theorem balF_out {l : List Ed} {g : List Int} {nu x : Nat} (hE : EdOk nu l) (hx : nu ≤ x) : ∀ k, k ≤ l.length → balF l g k x = 0
  | 0, _ => rfl
  | k + 1, hk => by
    have := hE k (by omega)
    rw [balF, balF_out hE hx k (by omega), if_neg (by omega), if_neg (by omega)]; rfl
theorem valid_parts {n : Int} {l : List Ed} {s t b d : Int} {g : List Int} (hck : checkE n l s t = 0) (h : validR n l s t g = (b, d, 0)) : g.length = l.length ∧ withinB l g = true ∧ allK (nodeB (outK n.toNat l g l.length) s t) n.toNat = true ∧ b = nth (outK n.toNat l g l.length) s.toNat ∧ d = costK l g l.length := by
  unfold validR at h
  rw [if_neg (by rw [hck]; simp)] at h
  split at h
  · simp at h
  · split at h
    · simp at h
    · split at h
      · simp at h
      · rename_i h1 h2 h3
        simp only [Prod.mk.injEq] at h
        exact ⟨by simpa using h1, by simpa using h2, by simpa using h3, h.1.symm, h.2.1.symm⟩
theorem feas_of_valid {nu s t : Nat} {l : List Ed} {g : List Int} {b d : Int} (hck : checkE nu l (s : Int) (t : Int) = 0) (h : validR nu l (s : Int) (t : Int) g = (b, d, 0)) : Feas l nu s t g b d := by
  obtain ⟨h1, h2, h3, h4, h5⟩ := valid_parts hck h
  obtain ⟨hc, hE⟩ := check_ok hck
  rw [show (nu : Int).toNat = nu from rfl] at h3 h4
  rw [show (s : Int).toNat = s from rfl] at h4
  have hs : s < nu := by omega
  have ht : t < nu := by omega
  have hst : s ≠ t := by omega
  have hn : ∀ x, x < nu → x ≠ s → x ≠ t → balF l g l.length x = 0 := fun x hx q1 q2 => by
    have := (allK_iff _).1 h3 x hx
    rw [nodeB, Bool.or_eq_true, Bool.or_eq_true, decide_eq_true_iff, decide_eq_true_iff, decide_eq_true_iff] at this
    rw [← outK_bal hE l.length (Nat.le_refl _) x hx]
    omega
  have hb : balF l g l.length s = b := by rw [← outK_bal hE l.length (Nat.le_refl _) s hs, h4]
  have hsum : balF l g l.length s + balF l g l.length t = 0 := by
    have h6 := sum_bal (g := g) hE (fun _ => 1) l.length (Nat.le_refl _)
    have h7 : ∀ k, flowP l g (fun _ => 1) k = 0 := by
      intro k
      induction k with
      | zero => rfl
      | succ k ih => rw [flowP, ih]; simp
    rw [h7] at h6
    have h8 : sumN (fun v => (fun _ => (1 : Int)) v * balF l g l.length v) nu = sumN (fun v => (if s = v then balF l g l.length s else 0) + (if t = v then balF l g l.length t else 0)) nu := by
      refine sumN_congr nu fun v hv => ?_
      show 1 * balF l g l.length v = _
      rw [Int.one_mul]
      by_cases e1 : s = v
      · rw [if_pos e1, if_neg (by omega), e1]; omega
      · by_cases e2 : t = v
        · rw [if_neg e1, if_pos e2, e2]; omega
        · rw [if_neg e1, if_neg e2, hn v hv (fun q => e1 q.symm) (fun q => e2 q.symm)]; rfl
    rw [h8, sumN_add, sumN_at, sumN_at, if_pos hs, if_pos ht] at h6
    exact h6
  refine ⟨h1, (within_ok h2).2, fun x => ?_, h5⟩
  by_cases e1 : s = x
  · subst e1; rw [if_pos rfl, if_neg (fun q => hst q.symm), hb]; omega
  · by_cases e2 : t = x
    · subst e2; rw [if_neg e1, if_pos rfl]; omega
    · rw [if_neg e1, if_neg e2]
      rcases Nat.lt_or_ge x nu with q | q
      · rw [hn x q (fun z => e1 z.symm) (fun z => e2 z.symm)]; rfl
      · rw [balF_out hE q l.length (Nat.le_refl _)]; rfl
theorem valid_of_feas {nu s t : Nat} {l : List Ed} {g : List Int} {b d : Int} (hck : checkE nu l (s : Int) (t : Int) = 0) (h : Feas l nu s t g b d) : validR nu l (s : Int) (t : Int) g = (b, d, 0) := by
  obtain ⟨hc, hE⟩ := check_ok hck
  have hw : withinB l g = true := by
    rw [withinB, Bool.and_eq_true, decide_eq_true_iff, allK_iff]
    refine ⟨h.len, fun i hi => ?_⟩
    rw [capB, Bool.and_eq_true, decide_eq_true_iff, decide_eq_true_iff]
    exact h.wit i hi
  have ho : ∀ v, v < nu → nth (outK nu l g l.length) v = (if s = v then b else 0) - (if t = v then b else 0) := fun v hv => by rw [outK_bal hE l.length (Nat.le_refl _) v hv, h.bal]
  have ha : allK (nodeB (outK nu l g l.length) (s : Int) (t : Int)) nu = true := by
    refine (allK_iff _).2 fun v hv => ?_
    rw [nodeB, Bool.or_eq_true, Bool.or_eq_true, decide_eq_true_iff, decide_eq_true_iff, decide_eq_true_iff, ho v hv]
    by_cases e1 : s = v
    · exact .inl (.inr (by omega))
    · by_cases e2 : t = v
      · exact .inr (by omega)
      · rw [if_neg e1, if_neg e2]; exact .inl (.inl rfl)
  rw [validR, if_neg (by rw [hck]; simp), if_neg (by rw [h.len]; simp), if_neg (by rw [hw]; decide), show (nu : Int).toNat = nu from rfl, if_neg (by rw [ha]; decide), show (s : Int).toNat = s from rfl, ho s (by omega), if_pos rfl, if_neg (by omega), ← h.cost]
  simp
theorem cost32 {n : Int} {l : List Ed} (hE : EdOk n l) : CostIn l 4294967296 := fun i hi => (hE i hi).2.2.2.2.2.2.2
/-- Solve on a small network -/
theorem solve_small {n : Int} {l : List Ed} {s t most : Int} (hck : checkE n l s t = 0) (hn : n ≤ 16) (hm : (l.length : Int) ≤ 40) (hmost : 0 ≤ most) : ∃ R, slv l n.toNat s t most (most.toNat + 1) (List.replicate l.length 0) 0 0 = some R ∧ Best l n.toNat s.toNat t.toNat most R := by
  obtain ⟨hc, hE⟩ := check_ok hck
  obtain ⟨nu, rfl⟩ : ∃ k : Nat, n = (k : Int) := ⟨n.toNat, by omega⟩
  obtain ⟨s', rfl⟩ : ∃ k : Nat, s = (k : Int) := ⟨s.toNat, by omega⟩
  obtain ⟨t', rfl⟩ : ∃ k : Nat, t = (k : Int) := ⟨t.toNat, by omega⟩
  show ∃ R, slv l nu (s' : Int) (t' : Int) most (most.toNat + 1) (List.replicate l.length 0) 0 0 = some R ∧ Best l nu s' t' most R
  refine solve_best hE (cost32 hE) (by omega) (by omega) (by omega) (by decide) (by omega) ?_ hmost
  have h1 : (nu + 1) * (2 * l.length) ≤ 17 * 80 := Nat.mul_le_mul (by omega) (by omega)
  have h2 := le_mul (W := 4294967296) h1 (by decide)
  omega
theorem best_plain {n : Int} {l : List Ed} {s t most b d : Int} {R : List Int × Int × Int} {g : List Int} (hck : checkE n l s t = 0) (hR : Best l n.toNat s.toNat t.toNat most R) (hv : validR n l s t g = (b, d, 0)) (hb : b ≤ most) : R.2.1 ≤ most ∧ (b < R.2.1 ∨ (R.2.1 = b ∧ R.2.2 ≤ d)) := by
  obtain ⟨hc, hE⟩ := check_ok hck
  obtain ⟨nu, rfl⟩ : ∃ k : Nat, n = (k : Int) := ⟨n.toNat, by omega⟩
  obtain ⟨s', rfl⟩ : ∃ k : Nat, s = (k : Int) := ⟨s.toNat, by omega⟩
  obtain ⟨t', rfl⟩ : ∃ k : Nat, t = (k : Int) := ⟨t.toNat, by omega⟩
  have hg := feas_of_valid hck hv
  obtain ⟨π, hP⟩ := hR.pot
  have hs : s' < nu := by omega
  have ht : t' < nu := by omega
  have hF : Feas l nu s' t' R.1 R.2.1 R.2.2 := hR.feas
  refine ⟨hR.le.2, ?_⟩
  have hle : b ≤ R.2.1 := by
    rcases hR.max with q | q
    · omega
    · exact amount_le hE hs ht hF hg q
  rcases Int.lt_or_le b R.2.1 with q | q
  · exact .inl q
  · have e : R.2.1 = b := by omega
    rw [e] at hF
    exact .inr ⟨e, cost_le hE hs ht hF hg hP⟩
theorem best_valid {n : Int} {l : List Ed} {s t most : Int} {R : List Int × Int × Int} (hck : checkE n l s t = 0) (hR : Best l n.toNat s.toNat t.toNat most R) : validR n l s t R.1 = (R.2.1, R.2.2, 0) := by
  obtain ⟨hc, hE⟩ := check_ok hck
  obtain ⟨nu, rfl⟩ : ∃ k : Nat, n = (k : Int) := ⟨n.toNat, by omega⟩
  obtain ⟨s', rfl⟩ : ∃ k : Nat, s = (k : Int) := ⟨s.toNat, by omega⟩
  obtain ⟨t', rfl⟩ : ∃ k : Nat, t = (k : Int) := ⟨t.toNat, by omega⟩
  exact valid_of_feas hck hR.feas
theorem check01 {n : Int} {l : List Ed} {s t : Int} (hck : checkE n l s t = 0) : checkE n l 0 1 = 0 := by
  obtain ⟨hc, hE⟩ := check_ok hck
  have h := hck
  unfold checkE at h ⊢
  rw [if_neg (by omega), if_neg (by omega)] at h ⊢
  exact h
theorem prices_exist {n : Int} {l : List Ed} {f : List Int} {π : Nat → Int} (hr : rightB n l f = true) (hP : Pot l f π) : (pricesF n l f).2 = true := by
  obtain ⟨hc, hE⟩ := check_ok (right_parts hr).1
  obtain ⟨nu, rfl⟩ : ∃ k : Nat, n = (k : Int) := ⟨n.toNat, by omega⟩
  have h := (run_ends (c := List.replicate nu 0) (la := List.replicate nu 0) hE hP (by simp)).1
  rw [pricesF, if_pos ⟨hr, h⟩]
theorem prices_prove {n : Int} {l : List Ed} {f : List Int} (hn : n ≤ 16) (hm : (l.length : Int) ≤ 40) (h : (pricesF n l f).2 = true) : provesB n l f (pricesF n l f).1 = true := by
  rw [prices_eq (.inr ⟨hn, hm⟩)] at h ⊢
  unfold rpricesF at h ⊢
  split at h
  · rename_i q; rw [if_pos q]; exact q.2
  · cases h
theorem pot_of_proves {n : Int} {l : List Ed} {f p : List Int} (h : provesB n l f p = true) : Pot l f (nth p) ∧ rightB n l f = true := by
  unfold provesB at h
  rw [Bool.and_eq_true, Bool.and_eq_true, Bool.and_eq_true] at h
  refine ⟨?_, h.1.1.1⟩
  rintro u v w ⟨i, hi, hA⟩
  have ht := (allK_iff _).1 h.2 i hi
  rw [tightB, Bool.not_eq_true', Bool.or_eq_false_iff, Bool.and_eq_false_iff, Bool.and_eq_false_iff, decide_eq_false_iff_not, decide_eq_false_iff_not, decide_eq_false_iff_not, decide_eq_false_iff_not] at ht
  rcases hA with ⟨q, e1, e2, e3⟩ | ⟨q, e1, e2, e3⟩
  · have := ht.1.resolve_left (fun z => z q)
    rw [← e1, ← e2, ← e3] at this; omega
  · have := ht.2.resolve_left (fun z => z q)
    rw [← e1, ← e2] at this; omega
theorem right_of_valid {n : Int} {l : List Ed} {s t b d : Int} {g : List Int} (hck : checkE n l s t = 0) (h : validR n l s t g = (b, d, 0)) : rightB n l g = true := by
  rw [rightB, check01 hck, (valid_parts hck h).2.1]; rfl
theorem check_of_valid {n : Int} {l : List Ed} {s t : Int} {g : List Int} (h : (validR n l s t g).2.2 = 0) : checkE n l s t = 0 := by
  unfold validR at h
  split at h
  · rename_i q; exact absurd h q
  · rename_i q; simpa using q
/-- whatever prices prove a flow, no other of its amount costs less -/
theorem proofs_plain {n : Int} {l : List Ed} {s t : Int} {f g p : List Int} (hf : (validR n l s t f).2.2 = 0) (hp : provesB n l f p = true) (hg : (validR n l s t g).2.2 = 0) (ha : (validR n l s t f).1 = (validR n l s t g).1) : (validR n l s t f).2.1 ≤ (validR n l s t g).2.1 := by
  have hck := check_of_valid hf
  obtain ⟨hc, hE⟩ := check_ok hck
  obtain ⟨nu, rfl⟩ : ∃ k : Nat, n = (k : Int) := ⟨n.toNat, by omega⟩
  obtain ⟨s', rfl⟩ : ∃ k : Nat, s = (k : Int) := ⟨s.toNat, by omega⟩
  obtain ⟨t', rfl⟩ : ∃ k : Nat, t = (k : Int) := ⟨t.toNat, by omega⟩
  have h1 : Feas l nu s' t' f (validR nu l (s' : Int) (t' : Int) f).1 (validR nu l (s' : Int) (t' : Int) f).2.1 := feas_of_valid hck (by rw [← hf])
  have h2 : Feas l nu s' t' g (validR nu l (s' : Int) (t' : Int) g).1 (validR nu l (s' : Int) (t' : Int) g).2.1 := feas_of_valid hck (by rw [← hg])
  rw [← ha] at h2
  exact cost_le hE (by omega) (by omega) h1 h2 (pot_of_proves hp).1
theorem proofs_bool {e : Bool} {a b c d z : Int} (he : e = true) (h : z = 0 → a = b → c ≤ d) : (e && ((decide (z ≠ 0) || decide (a ≠ b)) || decide (c ≤ d))) = true := by
  rw [he, Bool.true_and, Bool.or_eq_true, Bool.or_eq_true, decide_eq_true_iff, decide_eq_true_iff, decide_eq_true_iff]
  by_cases q1 : z = 0
  · by_cases q2 : a = b
    · exact .inr (h q1 q2)
    · exact .inl (.inr q2)
  · exact .inl (.inl q1)
end Go.Proofs.Ytngkbnaehkailaa
