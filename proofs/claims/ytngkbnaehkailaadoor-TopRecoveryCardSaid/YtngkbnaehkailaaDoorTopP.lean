/-
  The same network with its edges in another order has the same greatest amount and least cost. Of no program.
-/
import Derived.Test.YtngkbnaehkailaaDoorPlan
namespace Go.Proofs.YtngkbnaehkailaaDoor
open Go Go.RowKit Eng
set_option linter.unusedVariables false
def zsum (F : Ed → Int → Int) : List (Ed × Int) → Int
  | [] => 0
  | p :: r => F p.1 p.2 + zsum F r
theorem zsum_perm {F : Ed → Int → Int} {a b : List (Ed × Int)} (h : a.Perm b) : zsum F a = zsum F b := by
  induction h with
  | nil => rfl
  | cons x _ ih => rw [zsum, zsum, ih]
  | swap x y l => rw [zsum, zsum, zsum, zsum]; omega
  | trans _ _ h1 h2 => rw [h1, h2]
theorem zsum_app {F : Ed → Int → Int} : ∀ a b : List (Ed × Int), zsum F (a ++ b) = zsum F a + zsum F b
  | [], b => by simp [zsum]
  | x :: a, b => by rw [List.cons_append, zsum, zsum, zsum_app a b]; omega
theorem take_nth {α : Type} [Inhabited α] {l : List α} {k : Nat} (h : k < l.length) : l.take (k + 1) = l.take k ++ [nth l k] := by
  rw [List.take_succ_eq_append_getElem h]
  unfold nth
  rw [List.getD_eq_getElem?_getD, List.getElem?_eq_getElem h]; rfl
theorem rec_zsum {F : Ed → Int → Int} {l : List Ed} {g : List Int} (f : Nat → Int) (h0 : f 0 = 0) (hs : ∀ k, f (k + 1) = f k + F (nth l k) (nth g k)) (hl : g.length = l.length) : ∀ k, k ≤ l.length → f k = zsum F ((l.take k).zip (g.take k))
  | 0, _ => by rw [h0]; rfl
  | k + 1, hk => by
    have ih := rec_zsum f h0 hs hl k (by omega)
    rw [hs, ih, take_nth (show k < l.length by omega), take_nth (show k < g.length by omega), List.zip_append (by simp; omega), zsum_app]
    simp [zsum]
theorem rec_all {F : Ed → Int → Int} {l : List Ed} {g : List Int} (f : Nat → Int) (h0 : f 0 = 0) (hs : ∀ k, f (k + 1) = f k + F (nth l k) (nth g k)) (hl : g.length = l.length) : f l.length = zsum F (l.zip g) := by
  have h := rec_zsum f h0 hs hl l.length (Nat.le_refl _)
  rw [List.take_length] at h
  rw [h, ← hl, List.take_length]
def balZ (x : Nat) (e : Ed) (y : Int) : Int := (if e.1.toNat = x then y else 0) - (if e.2.1.toNat = x then y else 0)
def cosZ (e : Ed) (y : Int) : Int := y * e.2.2.2
structure FeasZ (Z : List (Ed × Int)) (s t : Nat) (a z : Int) : Prop where
  wit : ∀ p ∈ Z, 0 ≤ p.2 ∧ p.2 ≤ p.1.2.2.1
  bal : ∀ x, zsum (balZ x) Z = (if s = x then a else 0) - (if t = x then a else 0)
  cost : z = zsum cosZ Z
theorem zip_nth {l : List Ed} {f : List Int} (hl : f.length = l.length) {i : Nat} (hi : i < l.length) : (nth l i, nth f i) ∈ l.zip f := by
  have h1 : (l.zip f)[i]? = some (nth l i, nth f i) := by
    rw [List.getElem?_zip_eq_some]
    exact ⟨nth_get hi, nth_get (by omega)⟩
  exact List.mem_of_getElem? h1
theorem zip_at {l : List Ed} {f : List Int} {p : Ed × Int} (h : p ∈ l.zip f) : ∃ i, i < l.length ∧ p = (nth l i, nth f i) := by
  obtain ⟨i, hi⟩ := List.getElem?_of_mem h
  rw [List.getElem?_zip_eq_some] at hi
  have h1 : i < l.length := (List.getElem?_eq_some_iff.1 hi.1).1
  have h2 : i < f.length := (List.getElem?_eq_some_iff.1 hi.2).1
  refine ⟨i, h1, ?_⟩
  rw [nth_get h1] at hi
  rw [nth_get h2] at hi
  have e1 := Option.some.inj hi.1
  have e2 := Option.some.inj hi.2
  exact Prod.ext e1.symm e2.symm
theorem Feas.z {l : List Ed} {nu s t : Nat} {f : List Int} {a z : Int} (h : Feas l nu s t f a z) : FeasZ (l.zip f) s t a z := by
  refine ⟨fun p hp => ?_, fun x => ?_, ?_⟩
  · obtain ⟨i, hi, rfl⟩ := zip_at hp
    exact h.wit i hi
  · rw [← h.bal x]
    exact (rec_all (F := balZ x) (fun k => balF l f k x) rfl (fun k => rfl) h.len).symm
  · rw [h.cost]
    exact rec_all (F := cosZ) (fun k => costK l f k) rfl (fun k => rfl) h.len
theorem FeasZ.feas {l : List Ed} {nu s t : Nat} {f : List Int} {a z : Int} (hl : f.length = l.length) (h : FeasZ (l.zip f) s t a z) : Feas l nu s t f a z := by
  refine ⟨hl, fun i hi => h.wit _ (zip_nth hl hi), fun x => ?_, ?_⟩
  · rw [← h.bal x]
    exact rec_all (F := balZ x) (fun k => balF l f k x) rfl (fun k => rfl) hl
  · rw [h.cost]
    exact (rec_all (F := cosZ) (fun k => costK l f k) rfl (fun k => rfl) hl).symm
theorem zip_perm {A B : List Ed} (h : A.Perm B) : ∀ f : List Int, f.length = A.length → ∃ g : List Int, g.length = B.length ∧ (A.zip f).Perm (B.zip g) := by
  induction h with
  | nil => intro f hf; exact ⟨[], rfl, by simp⟩
  | cons x _ ih =>
    intro f hf
    cases f with
    | nil => cases hf
    | cons y f =>
      obtain ⟨g, h1, h2⟩ := ih f (by simpa using hf)
      exact ⟨y :: g, by simp [h1], by simpa using h2⟩
  | swap x y l =>
    intro f hf
    match f, hf with
    | a :: b :: f, hf => exact ⟨b :: a :: f, by simpa using hf, by simpa using List.Perm.swap _ _ _⟩
  | trans _ _ i1 i2 =>
    intro f hf
    obtain ⟨g, h1, h2⟩ := i1 f hf
    obtain ⟨k, h3, h4⟩ := i2 g h1
    exact ⟨k, h3, h2.trans h4⟩
theorem FeasZ.perm {Y Z : List (Ed × Int)} {s t : Nat} {a z : Int} (hp : Y.Perm Z) (h : FeasZ Y s t a z) : FeasZ Z s t a z :=
  ⟨fun p hz => h.wit p (hp.mem_iff.2 hz), fun x => by rw [← zsum_perm hp]; exact h.bal x, by rw [← zsum_perm hp]; exact h.cost⟩
theorem feas_perm {A B : List Ed} (hp : A.Perm B) {nu s t : Nat} {f : List Int} {a z : Int} (h : Feas A nu s t f a z) : ∃ g, Feas B nu s t g a z := by
  obtain ⟨g, h1, h2⟩ := zip_perm hp f h.len
  exact ⟨g, FeasZ.feas h1 (h.z.perm h2)⟩
theorem best_le {A B : List Ed} (hp : A.Perm B) {nu s t : Nat} {most : Int} {R S : List Int × Int × Int} (hE : EdOk nu A) (hs : s < nu) (ht : t < nu) (hR : Best A nu s t most R) (hS : Best B nu s t most S) : S.2.1 ≤ R.2.1 ∧ (R.2.1 = S.2.1 → R.2.2 ≤ S.2.2) := by
  obtain ⟨g, hg⟩ := feas_perm hp.symm hS.feas
  refine ⟨?_, fun e => ?_⟩
  · rcases hR.max with h | h
    · have := hS.le.2; omega
    · exact amount_le hE hs ht hR.feas hg h
  · obtain ⟨π, hP⟩ := hR.pot
    have hf := hR.feas
    rw [e] at hf
    exact cost_le hE hs ht hf hg hP
theorem all_perm {p : Ed → Prop} {A B : List Ed} (hp : A.Perm B) (h : AllE p A) : AllE p B := fun i hi => by
  obtain ⟨j, hj, e⟩ := mem_nth (hp.mem_iff.2 (nth_mem hi))
  rw [← e]; exact h j hj
theorem best_eq {A B : List Ed} (hp : A.Perm B) {nu s t : Nat} {most : Int} {R S : List Int × Int × Int} (hE : EdOk nu A) (hE2 : EdOk nu B) (hs : s < nu) (ht : t < nu) (hR : Best A nu s t most R) (hS : Best B nu s t most S) : S.2.1 = R.2.1 ∧ S.2.2 = R.2.2 := by
  have h1 := best_le hp hE hs ht hR hS
  have h2 := best_le hp.symm hE2 hs ht hS hR
  have e : S.2.1 = R.2.1 := by have := h1.1; have := h2.1; omega
  have h3 := h1.2 e.symm
  have h4 := h2.2 e
  exact ⟨e, by omega⟩
/-- the edges as the statement lays them -/
def edT (m : Nat) (l : List Pa) : Nat → List Ed
  | 0 => []
  | i + 1 => edI m (nth l i) i (edT m l i ++ [(0, 1 + (i : Int), (nth l i).1, 0)]) (nth l i).2.2.l.length
def edU (m q : Nat) (l : List Pa) (c : List Int) : Nat → List Ed
  | 0 => edT m l m
  | k + 1 => edU m q l c k ++ [(1 + (m : Int) + (k : Int), 1 + (m : Int) + (q : Int), nth c k, 0)]
theorem edI_app {m i : Nat} {x : Pa} {e0 : List Ed} : ∀ j, edI m x i e0 j = e0 ++ edI m x i [] j
  | 0 => by simp [edI]
  | j + 1 => by rw [edI, edI, edI_app j, List.append_assoc]
def edW (m : Nat) (l : List Pa) : Nat → List Ed
  | 0 => []
  | i + 1 => edW m l i ++ edI m (nth l i) i [] (nth l i).2.2.l.length
def edS (m q : Nat) (c : List Int) : Nat → List Ed
  | 0 => []
  | k + 1 => edS m q c k ++ [(1 + (m : Int) + (k : Int), (m : Int) + (q : Int) + 1, nth c k, 0)]
theorem edB_app {m q : Nat} {l : List Pa} {c : List Int} : ∀ k, edB m q l c k = edA l m ++ edS m q c k
  | 0 => by simp [edB, edS]
  | k + 1 => by rw [edB, edS, edB_app k, List.append_assoc]
theorem edO_app {m q : Nat} {l : List Pa} {c : List Int} : ∀ n, edO m q l c n = edB m q l c q ++ edW m l n
  | 0 => by simp [edO, edW]
  | n + 1 => by rw [edO, edW, edI_app, edO_app n, List.append_assoc]
theorem edU_app {m q : Nat} {l : List Pa} {c : List Int} : ∀ k, edU m q l c k = edT m l m ++ edS m q c k
  | 0 => by simp [edU, edS]
  | k + 1 => by rw [edU, edS, edU_app k, List.append_assoc, show (1 + (m : Int) + (q : Int)) = (m : Int) + (q : Int) + 1 from by omega]
theorem edT_perm {m : Nat} {l : List Pa} : ∀ n, (edA l n ++ edW m l n).Perm (edT m l n)
  | 0 => by simp [edA, edW, edT]
  | n + 1 => by
    have ih := edT_perm (m := m) (l := l) n
    rw [edA, edW, edT, edI_app (e0 := edT m l n ++ _)]
    have h1 : (edA l n ++ [(0, 1 + (n : Int), (nth l n).1, 0)] ++ (edW m l n ++ edI m (nth l n) n [] (nth l n).2.2.l.length)).Perm (edA l n ++ edW m l n ++ ([(0, 1 + (n : Int), (nth l n).1, 0)] ++ edI m (nth l n) n [] (nth l n).2.2.l.length)) := by
      rw [List.append_assoc, List.append_assoc]
      refine List.Perm.append_left _ ?_
      rw [← List.append_assoc, ← List.append_assoc]
      exact List.Perm.append_right _ List.perm_append_comm
    refine h1.trans ?_
    rw [List.append_assoc (edT m l n)]
    exact List.Perm.append_right _ ih
theorem top_perm {m q : Nat} {l : List Pa} {c : List Int} : (edO m q l c m).Perm (edU m q l c q) := by
  rw [edO_app, edB_app, edU_app, List.append_assoc]
  have h1 : (edA l m ++ (edS m q c q ++ edW m l m)).Perm (edA l m ++ edW m l m ++ edS m q c q) := by
    rw [List.append_assoc]
    exact List.Perm.append_left _ List.perm_append_comm
  exact h1.trans (List.Perm.append_right _ (edT_perm m))
theorem edT_len {m : Nat} {l : List Pa} : ∀ n, (edT m l n).length = n + wayS l n
  | 0 => rfl
  | n + 1 => by rw [edT, edI_len, List.length_append, edT_len n, wayS]; simp; omega
theorem edU_len {m q : Nat} {l : List Pa} {c : List Int} : ∀ k, (edU m q l c k).length = m + wayS l m + k
  | 0 => by rw [edU, edT_len]; rfl
  | k + 1 => by rw [edU, List.length_append, edU_len k]; rfl
theorem top_check {m q : Nat} {l : List Pa} {c : List Int} (hm : m = l.length) (hq : q = c.length) (h : PaOk l c) (hS : wayS l m ≤ 1024) : checkE ((m : Int) + (q : Int) + 1 + 1) (edU m q l c q) 0 ((m : Int) + (q : Int) + 1) = 0 := by
  have h1 := h.nl
  have h2 := h.nc
  have hE := (check_ok (ed_check hm hq h hS)).2
  have hA := all_perm (top_perm (m := m) (q := q) (l := l) (c := c)) (p := fun x => 0 ≤ x.1 ∧ x.1 < ((m : Int) + (q : Int) + 1 + 1) ∧ 0 ≤ x.2.1 ∧ x.2.1 < ((m : Int) + (q : Int) + 1 + 1) ∧ 0 ≤ x.2.2.1 ∧ x.2.2.1 ≤ 65536 ∧ 0 ≤ x.2.2.2 ∧ x.2.2.2 ≤ 4294967296) hE
  unfold checkE
  rw [edU_len, if_neg (by omega), if_neg (by omega)]
  refine firstE_all _ fun k hk => edge_zero ?_
  have h3 := hA k (by rw [edU_len]; exact hk)
  exact ⟨⟨h3.1, h3.2.1⟩, ⟨h3.2.2.1, h3.2.2.2.1⟩, ⟨h3.2.2.2.2.1, h3.2.2.2.2.2.1⟩, h3.2.2.2.2.2.2⟩
/-- the greatest cheapest flow of the statement's network is the plan's, and its prices prove it -/
theorem top_flow {m q : Nat} {l : List Pa} {c : List Int} {R : List Int × Int × Int} (hck : rchk l c = 0) (hm : m = l.length) (hq : q = c.length) (hn : m ≤ 5) (hc : q ≤ 5) (hS : wayS l m ≤ 30) (hR : Best (edO m q l c m) (m + q + 2) 0 (m + q + 1) (peoT l m) R) :
    ∃ S : List Int × Int × Int, slv (edU m q l c q) ((m : Int) + (q : Int) + 1 + 1).toNat 0 ((m : Int) + (q : Int) + 1) (peoT l m) ((peoT l m).toNat + 1) (List.replicate (edU m q l c q).length 0) 0 0 = some S ∧ S.2.1 = R.2.1 ∧ S.2.2 = R.2.2 ∧ S.1.length = (edU m q l c q).length ∧
      (pricesF ((m : Int) + (q : Int) + 1 + 1) (edU m q l c q) S.1).2 = true ∧ provesB ((m : Int) + (q : Int) + 1 + 1) (edU m q l c q) S.1 (pricesF ((m : Int) + (q : Int) + 1 + 1) (edU m q l c q) S.1).1 = true := by
  have hok := PaOk.of hck
  have h1 := ed_check hm hq hok (by omega)
  have h2 := top_check hm hq hok (by omega)
  have hL := edU_len (m := m) (q := q) (l := l) (c := c) q
  have hpt := peoT_bd (l := l) m (fun k hk => hok.cnt k (by omega))
  obtain ⟨S, hs, hB⟩ := solve_small h2 (by omega) (by omega) (show 0 ≤ peoT l m by omega)
  have e1 : ((m : Int) + (q : Int) + 1 + 1).toNat = m + q + 2 := by omega
  have e2 : ((m : Int) + (q : Int) + 1).toNat = m + q + 1 := by omega
  have hv := best_valid h2 hB
  have hr := right_of_valid h2 hv
  obtain ⟨π, hP⟩ := hB.pot
  have hp := prices_exist hr hP
  have hpp := prices_prove (by omega) (by omega) hp
  rw [e1, e2] at hB
  have hE1 := (check_ok h1).2
  have hE2 := (check_ok h2).2
  rw [show (m : Int) + (q : Int) + 1 + 1 = ((m + q + 2 : Nat) : Int) from by omega] at hE1 hE2
  have he := best_eq top_perm hE1 hE2 (by omega) (by omega) hR (show Best _ _ 0 _ _ _ from hB)
  exact ⟨S, hs, he.1, he.2, hB.feas.len, hp, hpp⟩
end Go.Proofs.YtngkbnaehkailaaDoor
