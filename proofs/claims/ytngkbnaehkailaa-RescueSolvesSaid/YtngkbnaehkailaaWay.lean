/-
  Flows: more along a way. Plain Lean.
-/
import Derived.Test.YtngkbnaehkailaaAug
import Derived.Test.YtngkbnaehkailaaRefS
namespace Go.Proofs.Ytngkbnaehkailaa
open Go Go.RowKit Eng
set_option linter.unusedVariables false
set_option linter.unusedSimpArgs false
theorem back_fw {l : List Ed} {g c la : List Int} {v u i : Nat} (hla : nth la v = (i : Int)) (hf : (nth l i).1 = (u : Int)) (ht : (nth l i).2.1 = (v : Int)) (hg : nth g i < (nth l i).2.2.1) (hc : nth c u + (nth l i).2.2.2 = nth c v) :
    backI la (v : Int) = i ∧ backV l g c la (v : Int) = (u : Int) ∧ backR l g c la (v : Int) = (nth l i).2.2.1 - nth g i ∧ tr2C l g c la (v : Int) = true := by
  have e1 : backI la (v : Int) = i := by rw [backI, show ((v : Nat) : Int).toNat = v from by omega, hla]; omega
  have e2 : backC l g c la (v : Int) = true := by
    rw [backC, e1, Bool.and_eq_true, Bool.and_eq_true, decide_eq_true_iff, decide_eq_true_iff, decide_eq_true_iff, hf, show ((v : Nat) : Int).toNat = v from by omega, show ((u : Nat) : Int).toNat = u from by omega]
    exact ⟨⟨ht, hg⟩, hc⟩
  have e3 : backV l g c la (v : Int) = (u : Int) := by rw [backV, if_pos e2, e1, hf]
  refine ⟨e1, e3, by rw [backR, if_pos e2, e1], ?_⟩
  rw [tr2C, e1, e3, Bool.and_eq_true, Bool.and_eq_true, Bool.and_eq_true, decide_eq_true_iff, decide_eq_true_iff, decide_eq_true_iff, decide_eq_true_iff, show ((v : Nat) : Int).toNat = v from by omega, show ((u : Nat) : Int).toNat = u from by omega]
  exact ⟨⟨⟨hf.symm, ht⟩, hg⟩, hc⟩
theorem back_bw {l : List Ed} {g c la : List Int} {v u i : Nat} (hla : nth la v = (i : Int)) (ht : (nth l i).2.1 = (u : Int)) (huv : u ≠ v) :
    backI la (v : Int) = i ∧ backV l g c la (v : Int) = (u : Int) ∧ backR l g c la (v : Int) = nth g i ∧ tr2C l g c la (v : Int) = false := by
  have e1 : backI la (v : Int) = i := by rw [backI, show ((v : Nat) : Int).toNat = v from by omega, hla]; omega
  have e2 : ¬ backC l g c la (v : Int) = true := by
    rw [backC, e1, Bool.and_eq_true, Bool.and_eq_true, decide_eq_true_iff, ht]
    intro h
    have := h.1.1
    omega
  have e3 : backV l g c la (v : Int) = (u : Int) := by rw [backV, if_neg e2, e1, ht]
  refine ⟨e1, e3, by rw [backR, if_neg e2, e1], ?_⟩
  cases q : tr2C l g c la (v : Int) with
  | false => rfl
  | true =>
    rw [tr2C, e1, Bool.and_eq_true, Bool.and_eq_true, Bool.and_eq_true, decide_eq_true_iff, decide_eq_true_iff, ht] at q
    have := q.1.1.2
    omega
/-- the rank of a node by its time -/
def rk (T : Nat → Nat) (nu v : Nat) : Nat := (List.range nu).countP (fun x => decide (T x < T v))
theorem countP_lt {p q : Nat → Bool} : ∀ (L : List Nat), (∀ x ∈ L, p x = true → q x = true) → (∃ u ∈ L, q u = true ∧ p u = false) → L.countP p < L.countP q
  | [], _, ⟨u, hu, _⟩ => by cases hu
  | x :: r, h, ⟨u, hu, hq, hp⟩ => by
    rw [List.countP_cons, List.countP_cons]
    rcases List.mem_cons.1 hu with rfl | hu
    · rw [hq, hp]
      have : r.countP p ≤ r.countP q := List.countP_mono_left fun x hx => h x (List.mem_cons_of_mem _ hx)
      simp; omega
    · have ih := countP_lt r (fun x hx => h x (List.mem_cons_of_mem _ hx)) ⟨u, hu, hq, hp⟩
      have h1 := h x List.mem_cons_self
      by_cases e : p x = true
      · rw [e, h1 e]; omega
      · rw [show p x = false from by simpa using e]
        simp
        split <;> omega
theorem rk_lt {T : Nat → Nat} {nu u v : Nat} (hu : u < nu) (h : T u < T v) : rk T nu u < rk T nu v := by
  refine countP_lt _ (fun x _ hx => ?_) ⟨u, List.mem_range.2 hu, by simpa using h, by simp⟩
  have := of_decide_eq_true hx
  exact decide_eq_true (by omega)
theorem rk_le {T : Nat → Nat} {nu v : Nat} : rk T nu v ≤ nu := by
  have := List.countP_le_length (p := fun x => decide (T x < T v)) (l := List.range nu)
  simpa [rk] using this
/-- the step before a node: forwards or back -/
theorem Fnd.before {l : List Ed} {f : List Int} {nu s : Nat} {B : Int} {T : Nat → Nat} {c la : List Int} (F : Fnd l f nu s B T c la) (hE : EdOk nu l) {v : Nat} (hv : v < nu) (hvs : v ≠ s) (hvf : nth c v ≠ FAR) :
    ∃ i u, i < l.length ∧ nth la v = (i : Int) ∧ u < nu ∧ nth c u ≠ FAR ∧ T u < T v ∧ u ≠ v ∧ ((nth f i < (nth l i).2.2.1 ∧ (nth l i).1 = (u : Int) ∧ (nth l i).2.1 = (v : Int) ∧ nth c u + (nth l i).2.2.2 = nth c v) ∨ (0 < nth f i ∧ (nth l i).2.1 = (u : Int) ∧ (nth l i).1 = (v : Int) ∧ nth c u - (nth l i).2.2.2 = nth c v)) := by
  obtain ⟨i, u, w, h1, h2, h3, h4, h5, h6, h7⟩ := F.pre v hv hvs hvf
  have hEi := hE i h1
  refine ⟨i, u, h1, h2, h3, h5, h7, (fun e => by rw [e] at h7; omega), ?_⟩
  rcases h4 with ⟨a, b, d, e⟩ | ⟨a, b, d, e⟩
  · exact .inl ⟨a, by omega, by omega, by omega⟩
  · exact .inr ⟨a, by omega, by omega, by omega⟩
theorem tr1_le {l : List Ed} {f c la : List Int} {s : Int} : ∀ K v y Y, tr1 l f c la s K v y = some Y → Y ≤ y
  | 0, v, y, Y, h => by cases h
  | k + 1, v, y, Y, h => by
    rw [tr1] at h
    split at h
    · rw [Option.some.inj h]; exact Int.le_refl _
    · split at h
      · exact Int.le_trans (tr1_le k _ _ _ h) (Int.min_le_left _ _)
      · cases h
theorem way {l : List Ed} {f : List Int} {nu s : Nat} {B : Int} {T : Nat → Nat} {c la : List Int} (F : Fnd l f nu s B T c la) (hE : EdOk nu l) (hW : ∀ i, i < l.length → 0 ≤ nth f i ∧ nth f i ≤ (nth l i).2.2.1) : ∀ k v, v < nu → nth c v ≠ FAR → rk T nu v < k → ∀ y, 0 < y → ∃ Y, tr1 l f c la (s : Int) k (v : Int) y = some Y ∧ 0 < Y ∧ Y ≤ y ∧ (v ≠ s → Y ≤ 65536)
  | 0, v, _, _, h, _, _ => absurd h (Nat.not_lt_zero _)
  | k + 1, v, hv, hvf, hk, y, hy => by
    by_cases e : v = s
    · exact ⟨y, by rw [tr1, if_pos (by omega)], hy, Int.le_refl _, fun q => absurd e q⟩
    · obtain ⟨i, u, h1, h2, h3, h4, h5, h6, h7⟩ := F.before hE hv e hvf
      have hEi := hE i h1
      have hWi := hW i h1
      have hb : backV l f c la (v : Int) = (u : Int) ∧ 0 < backR l f c la (v : Int) ∧ backR l f c la (v : Int) ≤ 65536 := by
        rcases h7 with ⟨a, b, d, z⟩ | ⟨a, b, d, z⟩
        · obtain ⟨_, r1, r2, _⟩ := back_fw (g := f) h2 b d a z
          exact ⟨r1, by rw [r2]; omega, by rw [r2]; omega⟩
        · obtain ⟨_, r1, r2, _⟩ := back_bw (g := f) (c := c) h2 b h6
          exact ⟨r1, by rw [r2]; exact a, by rw [r2]; omega⟩
      have hr := rk_lt (nu := nu) h3 h5
      obtain ⟨Y, g1, g2, g3, g4⟩ := way F hE hW k u h3 h4 (by omega) (min y (backR l f c la (v : Int))) (by omega)
      refine ⟨Y, ?_, g2, by omega, fun _ => by omega⟩
      rw [tr1, if_neg (by omega), if_pos ⟨by rw [show ((v : Nat) : Int).toNat = v from by omega, h2]; omega, by rw [show ((v : Nat) : Int).toNat = v from by omega, h2]; omega⟩, hb.1]
      exact g1
/-! ### what is carried from each node -/
def balF (l : List Ed) (g : List Int) : Nat → Nat → Int
  | 0, _ => 0
  | k + 1, x => balF l g k x + ((if (nth l k).1.toNat = x then nth g k else 0) - (if (nth l k).2.1.toNat = x then nth g k else 0))
theorem balF_set {l : List Ed} {g : List Int} {i : Nat} {z : Int} (hi : i < g.length) : ∀ k x, balF l (g.set i z) k x = balF l g k x + (if i < k then (if (nth l i).1.toNat = x then z - nth g i else 0) - (if (nth l i).2.1.toNat = x then z - nth g i else 0) else 0)
  | 0, x => by simp [balF]
  | k + 1, x => by
    have ih := balF_set (l := l) (z := z) hi k x
    rw [balF, balF, ih, nth_set hi]
    by_cases e : i = k
    · subst e
      rw [if_neg (Nat.lt_irrefl _), if_pos (Nat.lt_succ_self _), if_pos rfl]
      split <;> split <;> omega
    · rw [if_neg e]
      by_cases q : i < k
      · rw [if_pos q, if_pos (show i < k + 1 by omega)]; exact Int.add_right_comm _ _ _
      · rw [if_neg q, if_neg (show ¬ i < k + 1 by omega), Int.add_zero, Int.add_zero]
theorem costK_set {l : List Ed} {g : List Int} {i : Nat} {z : Int} (hi : i < g.length) : ∀ k, costK l (g.set i z) k = costK l g k + (if i < k then (z - nth g i) * (nth l i).2.2.2 else 0)
  | 0 => by simp [costK]
  | k + 1 => by
    have ih := costK_set (l := l) (z := z) hi k
    rw [costK, costK, ih, nth_set hi]
    by_cases e : i = k
    · subst e
      rw [if_neg (Nat.lt_irrefl _), if_pos (Nat.lt_succ_self _), if_pos rfl, Int.sub_mul]
      omega
    · rw [if_neg e]
      by_cases q : i < k
      · rw [if_pos q, if_pos (show i < k + 1 by omega)]; omega
      · rw [if_neg q, if_neg (show ¬ i < k + 1 by omega)]; omega
theorem nth_addAt {o : List Int} {i x : Int} {v : Nat} (hi : i.toNat < o.length) : nth (addAt o i x) v = nth o v + (if i.toNat = v then x else 0) := by
  rw [addAt, nth_set hi]
  split
  · rename_i e; rw [e]
  · omega
theorem outK_bal {nu : Nat} {l : List Ed} {g : List Int} (hE : EdOk nu l) : ∀ k, k ≤ l.length → ∀ v, v < nu → nth (outK nu l g k) v = balF l g k v
  | 0, _, v, hv => by rw [outK, nth_rep hv, balF]
  | k + 1, hk, v, hv => by
    have hEk := hE k (by omega)
    rw [outK, nth_addAt (by rw [addAt_len, outK_len]; omega), nth_addAt (by rw [outK_len]; omega), outK_bal hE k (by omega) v hv, balF]
    split <;> split <;> omega
structure After (l : List Ed) (s v : Nat) (Y : Int) (c g G : List Int) : Prop where
  len : G.length = l.length
  wit : ∀ i, i < l.length → 0 ≤ nth G i ∧ nth G i ≤ (nth l i).2.2.1
  bal : ∀ x, balF l G l.length x = balF l g l.length x + ((if s = x then Y else 0) - (if v = x then Y else 0))
  cost : costK l G l.length = costK l g l.length + Y * (nth c v - nth c s)
  arc : ∀ a b w, Arc l G a b w → Arc l g a b w ∨ (nth c a ≠ FAR ∧ nth c b ≠ FAR ∧ nth c b = nth c a + w)
/-- a step of the residual network, as the reference keeps it -/
def IsStep (l : List Ed) (f : List Int) (x : Sp) : Prop := ∃ j, j < l.length ∧ ((nth f j < (nth l j).2.2.1 ∧ x = ((nth l j).1, (nth l j).2.1, (nth l j).2.2.2, (nth l j).2.2.1 - nth f j, (j : Int), false)) ∨ (0 < nth f j ∧ x = ((nth l j).2.1, (nth l j).1, -(nth l j).2.2.2, nth f j, (j : Int), true)))
/-- the reference's list of last steps goes with the program's list of last edges -/
def Goes (l : List Ed) (f : List Int) (nu : Nat) (S : List Sp) (la b : List Int) : Prop := ∀ v, v < nu → (nth la v = -1 ∧ nth b v = -1) ∨ ∃ j, j < S.length ∧ nth b v = (j : Int) ∧ (nth S j).2.2.2.2.1 = nth la v ∧ (nth S j).2.1.toNat = v ∧ IsStep l f (nth S j)
theorem aug {l : List Ed} {f : List Int} {nu s : Nat} {B : Int} {T : Nat → Nat} {c la : List Int} (F : Fnd l f nu s B T c la) (hE : EdOk nu l) (hW : ∀ i, i < l.length → 0 ≤ nth f i ∧ nth f i ≤ (nth l i).2.2.1) {Y : Int} (hY : 0 < Y) : ∀ (k v : Nat) (y : Int) (g : List Int), tr1 l f c la (s : Int) k (v : Int) y = some Y → v < nu → nth c v ≠ FAR → g.length = l.length → (∀ i, i < l.length → 0 ≤ nth g i ∧ nth g i ≤ (nth l i).2.2.1) → (∀ v', v' < nu → v' ≠ s → nth c v' ≠ FAR → T v' ≤ T v → nth g (backI la (v' : Int)) = nth f (backI la (v' : Int))) → ∃ G, tr2 l c la (s : Int) Y k (v : Int) g = some G ∧ After l s v Y c g G ∧ ∀ (S : List Sp) (b : List Int), Goes l f nu S la b → ∀ acc, ∃ q, rtr S b k (v : Int) acc = some (acc ++ q) ∧ q.foldl minF y = Y ∧ q.foldl (updF Y) g = G ∧ (∀ z, q.foldl (cosF Y) z = z + Y * (nth c v - nth c s)) ∧ (v ≠ s → q ≠ [])
  | 0, v, y, g, h, _, _, _, _, _ => by cases h
  | k + 1, v, y, g, h, hv, hvf, hgl, hg, hag => by
    by_cases e : v = s
    · subst e
      refine ⟨g, by rw [tr2, if_pos rfl], ⟨hgl, hg, fun x => by omega, by rw [Int.sub_self, Int.mul_zero, Int.add_zero], fun a b w q => .inl q⟩, fun S b hG acc => ⟨[], ?_, ?_, rfl, fun z => ?_, fun q => absurd rfl q⟩⟩
      · have hbs : nth b v = -1 := by
          rcases hG v hv with q | ⟨j, _, _, j3, _, hst⟩
          · exact q.2
          · obtain ⟨i, hi, h2⟩ := hst
            have hls := F.las
            rcases h2 with ⟨_, e2⟩ | ⟨_, e2⟩ <;> (rw [e2] at j3; dsimp only at j3; omega)
        rw [rtr, show ((v : Nat) : Int).toNat = v from by omega, hbs, if_neg (by decide), List.append_nil]
      · rw [tr1, if_pos rfl] at h; exact Option.some.inj h
      · show z = _
        rw [Int.sub_self, Int.mul_zero, Int.add_zero]
    · have hvs : ¬ (v : Int) = (s : Int) := by omega
      obtain ⟨k', hk', hl, ht⟩ := tr1_step h hvs
      obtain rfl : k = k' := by omega
      have hYr := tr1_le _ _ _ _ ht
      obtain ⟨i, u, h1, h2, h3, h4, h5, h6, h7⟩ := F.before hE hv e hvf
      have hEi := hE i h1
      have hgi := hg i h1
      have hbi : backI la (v : Int) = i := by rw [backI, show ((v : Nat) : Int).toNat = v from by omega, h2]; omega
      have hgf : nth g i = nth f i := by have := hag v hv e hvf (Nat.le_refl _); rw [hbi] at this; exact this
      -- the new number, and what it does
      have key : ∃ z, tr2N l g c la (v : Int) Y = z ∧ backV l f c la (v : Int) = (u : Int) ∧ backV l g c la (v : Int) = (u : Int) ∧ (0 ≤ z ∧ z ≤ (nth l i).2.2.1) ∧ (∀ x, (if (nth l i).1.toNat = x then z - nth g i else 0) - (if (nth l i).2.1.toNat = x then z - nth g i else 0) = (if u = x then Y else 0) - (if v = x then Y else 0)) ∧ (z - nth g i) * (nth l i).2.2.2 = Y * (nth c v - nth c u) ∧ (∀ a b w, ((z < (nth l i).2.2.1 ∧ a = (nth l i).1.toNat ∧ b = (nth l i).2.1.toNat ∧ w = (nth l i).2.2.2) ∨ (0 < z ∧ a = (nth l i).2.1.toNat ∧ b = (nth l i).1.toNat ∧ w = -(nth l i).2.2.2)) → nth c a ≠ FAR ∧ nth c b ≠ FAR ∧ nth c b = nth c a + w) ∧ (∀ x : Sp, IsStep l f x → x.2.2.2.2.1 = (i : Int) → x.2.1.toNat = v → x.1 = (u : Int) ∧ minF y x = min y (backR l f c la (v : Int)) ∧ updF Y g x = g.set i z ∧ x.2.2.1 = nth c v - nth c u) := by
        rcases h7 with ⟨a, b, d, q⟩ | ⟨a, b, d, q⟩
        · obtain ⟨_, r1, r2, _⟩ := back_fw (g := f) h2 b d a q
          obtain ⟨_, r3, _, r4⟩ := back_fw (g := g) h2 b d (by rw [hgf]; exact a) q
          rw [r2] at hYr
          refine ⟨nth g i + Y, by rw [tr2N, if_pos r4, hbi], r1, r3, by omega, fun x => ?_, by rw [show nth g i + Y - nth g i = Y from by omega, show (nth l i).2.2.2 = nth c v - nth c u from by omega], ?_, ?_⟩
          · rw [b, d, show ((u : Nat) : Int).toNat = u from by omega, show ((v : Nat) : Int).toNat = v from by omega, show nth g i + Y - nth g i = Y from by omega]
          · rintro a' b' w' (⟨_, p1, p2, p3⟩ | ⟨_, p1, p2, p3⟩)
            · obtain rfl : a' = u := by omega
              obtain rfl : b' = v := by omega
              exact ⟨h4, hvf, by omega⟩
            · obtain rfl : a' = v := by omega
              obtain rfl : b' = u := by omega
              exact ⟨hvf, h4, by omega⟩
          · rintro x ⟨j, hj, hx⟩ hx1 hx2
            rcases hx with ⟨q1, rfl⟩ | ⟨q1, rfl⟩
            · dsimp only at hx1 hx2 ⊢
              obtain rfl : j = i := by omega
              refine ⟨b, by rw [minF, r2], ?_, by omega⟩
              unfold updF
              dsimp only
              rw [if_neg (by decide), show ((j : Nat) : Int).toNat = j from by omega]
            · dsimp only at hx1 hx2 ⊢
              obtain rfl : j = i := by omega
              exact absurd (show u = v by omega) h6
        · obtain ⟨_, r1, r2, _⟩ := back_bw (g := f) (c := c) h2 b h6
          obtain ⟨_, r3, _, r4⟩ := back_bw (g := g) (c := c) h2 b h6
          rw [r2] at hYr
          refine ⟨nth g i - Y, by rw [tr2N, if_neg (by rw [r4]; decide), hbi], r1, r3, by omega, fun x => ?_, by rw [show nth g i - Y - nth g i = -Y from by omega, show nth c v - nth c u = -(nth l i).2.2.2 from by omega, Int.neg_mul, Int.mul_neg], ?_, ?_⟩
          · rw [b, d, show ((u : Nat) : Int).toNat = u from by omega, show ((v : Nat) : Int).toNat = v from by omega, show nth g i - Y - nth g i = -Y from by omega]
            split <;> split <;> omega
          · rintro a' b' w' (⟨_, p1, p2, p3⟩ | ⟨_, p1, p2, p3⟩)
            · obtain rfl : a' = v := by omega
              obtain rfl : b' = u := by omega
              exact ⟨hvf, h4, by omega⟩
            · obtain rfl : a' = u := by omega
              obtain rfl : b' = v := by omega
              exact ⟨h4, hvf, by omega⟩
          · rintro x ⟨j, hj, hx⟩ hx1 hx2
            rcases hx with ⟨q1, rfl⟩ | ⟨q1, rfl⟩
            · dsimp only at hx1 hx2 ⊢
              obtain rfl : j = i := by omega
              exact absurd (show u = v by omega) h6
            · dsimp only at hx1 hx2 ⊢
              obtain rfl : j = i := by omega
              refine ⟨b, by rw [minF, r2], ?_, by omega⟩
              unfold updF
              dsimp only
              rw [if_pos rfl, show ((j : Nat) : Int).toNat = j from by omega]
      obtain ⟨z, hz, hb1, hb2, hzr, hzb, hzc, hza, hzx⟩ := key
      rw [hb1] at ht
      have hil : i < g.length := by omega
      obtain ⟨G, hG, hA, hQ⟩ := aug F hE hW hY k u _ (g.set i z) ht h3 h4 (by rw [List.length_set]; exact hgl) (flow_set hg hil hzr) (fun v' hv' hvs' hvf' hT => by
        have hne : backI la (v' : Int) ≠ i := by
          intro hq
          obtain ⟨j, u', j1, j2, j3, j4, j5, j6, j7⟩ := F.before hE hv' hvs' hvf'
          have hj : backI la (v' : Int) = j := by rw [backI, show ((v' : Nat) : Int).toNat = v' from by omega, j2]; omega
          obtain rfl : j = i := by omega
          rcases h7 with ⟨_, a1, a2, _⟩ | ⟨_, a1, a2, _⟩ <;> rcases j7 with ⟨_, b1, b2, _⟩ | ⟨_, b1, b2, _⟩
          · obtain rfl : v' = v := by omega
            omega
          · obtain rfl : v' = u := by omega
            obtain rfl : u' = v := by omega
            omega
          · obtain rfl : v' = u := by omega
            obtain rfl : u' = v := by omega
            omega
          · obtain rfl : v' = v := by omega
            omega
        rw [nth_set hil, if_neg (fun q => hne q.symm)]
        exact hag v' hv' hvs' hvf' (by omega))
      refine ⟨G, ?_, ⟨hA.len, hA.wit, fun x => ?_, ?_, fun a b w hq => ?_⟩, fun S b hGo acc => ?_⟩
      · rw [tr2, if_neg hvs, hz, hbi, if_pos ⟨hl, hzr⟩, hb2]
        exact hG
      · rw [hA.bal x, balF_set hil, if_pos h1, hzb x]
        split <;> split <;> split <;> omega
      · rw [hA.cost, costK_set hil, if_pos h1, hzc, Int.add_assoc, ← Int.mul_add]
        congr 2
        omega
      · rcases hA.arc a b w hq with q | q
        · obtain ⟨j, hj, hj2⟩ := q
          by_cases ej : j = i
          · subst ej
            rw [nth_set hil, if_pos rfl] at hj2
            exact .inr (hza a b w hj2)
          · rw [nth_set hil, if_neg (fun q => ej q.symm)] at hj2
            exact .inl ⟨j, hj, hj2⟩
        · exact .inr q
      · rcases hGo v hv with q | ⟨j, j1, j2, j3, j4, j5⟩
        · rw [h2] at q; have := q.1; omega
        · obtain ⟨x1, x2, x3, x4⟩ := hzx (nth S j) j5 (by rw [j3, h2]) j4
          obtain ⟨q, q1, q2, q3, q4, _⟩ := hQ S b hGo (acc ++ [nth S j])
          refine ⟨nth S j :: q, ?_, ?_, ?_, fun w => ?_, fun _ => by simp⟩
          · rw [rtr, show ((v : Nat) : Int).toNat = v from by omega, j2, if_pos (by omega), if_pos (by omega), show ((j : Nat) : Int).toNat = j from by omega, x1, q1, List.append_assoc]; rfl
          · rw [List.foldl_cons, x2]; exact q2
          · rw [List.foldl_cons, x3]; exact q3
          · rw [List.foldl_cons, q4, cosF, x4, Int.add_assoc, ← Int.mul_add]
            congr 2
            omega
end Go.Proofs.Ytngkbnaehkailaa
