/-
  More of the engine: a store into rows; equality of structs that hold structs; equality of a thing with itself. Of no program.
-/
import Derived.Test.YtblmafknmeicfaaMem
namespace Go.Proofs.Ytblmafknmeicfaa.Eng
open Go Go.RowKit
set_option linter.unusedVariables false
set_option linter.unusedSimpArgs false
theorem cellsOf_set {α : Type} [Inhabited α] {enc : α → List Value} {sz : Nat} (he : ∀ x, (enc x).length = sz) : ∀ (l : List α) (k j : Nat) (v : Value) (x : α), k < l.length → j < sz → enc x = (enc (nth l k)).set j v → (cellsOf enc l).set (k * sz + j) v = cellsOf enc (l.set k x)
  | [], k, j, v, x, hk, _, _ => absurd hk (by simp)
  | y :: r, 0, j, v, x, _, hj, hx => by
    have h1 : enc x = (enc y).set j v := hx
    show (enc y ++ cellsOf enc r).set (0 * sz + j) v = enc x ++ cellsOf enc r
    rw [h1, Nat.zero_mul, Nat.zero_add, List.set_append_left _ _ (by rw [he]; exact hj)]
  | y :: r, k + 1, j, v, x, hk, hj, hx => by
    have ih := cellsOf_set he r k j v x (by simpa using hk) hj hx
    show (enc y ++ cellsOf enc r).set ((k + 1) * sz + j) v = enc y ++ cellsOf enc (r.set k x)
    rw [← ih, List.set_append_right _ _ (by rw [he, Nat.succ_mul]; omega), he, show (k + 1) * sz + j - sz = k * sz + j from by rw [Nat.succ_mul]; omega]
theorem ownsRow_nil {w : World} {b : Nat} {t : TypeId} {sz : Nat} : w.ownsRow b t sz (.slice none 0 0) 0 [] := ⟨by simp, .inl ⟨rfl, rfl⟩⟩
theorem eqV_refl {c : Nat} {x : Value} (h : okV c x x = true) : eqV x x = true := by
  cases x <;> first | (simp [eqV]; done) | (rcases c with _ | _ | _ | c <;> simp [okV] at h)
theorem eqB_refl : ∀ {ks : List Nat} {xs : List Value}, okB ks xs xs = true → eqB xs xs = true
  | _, [], _ => rfl
  | [], _ :: _, h => by simp [okB] at h
  | k :: ks, x :: xs, h => by
    simp only [okB, Bool.and_eq_true] at h
    simp only [eqB, eqV_refl h.1, eqB_refl h.2, Bool.and_self]

/-! structs whose fields may be structs -/
variable {P : Program}
theorem RVs.nil {N : Nat} {w0 : World} {E : Env} {Γ : Gds} {H : Heap} : RVs P N w0 E Γ H [] [] := trivial
theorem RVs.cons {N : Nat} {w0 : World} {E : Env} {Γ : Gds} {H : Heap} {r : ResultVar} {v : Value} {rs : List ResultVar} {vs : List Value} (h : RV P N w0 E Γ H r v) (h2 : RVs P N w0 E Γ H rs vs) : RVs P N w0 E Γ H (r :: rs) (v :: vs) := ⟨h, h2⟩
def deepFsW (F : TypeId → Option (List Nat)) : Nat → List Field → Option (List Nat)
  | _, [] => some []
  | i, f :: r => match F f.type, deepFsW F (i + ((F f.type).map List.length).getD 0) r with
    | some k, some ks => if f.name ≠ "_" ∧ f.offset = i then some (k ++ ks) else none
    | _, _ => none
def deepF (P : Program) : Nat → TypeId → Option (List Nat)
  | 0, _ => none
  | d + 1, t => match kindOf P t with
    | some k => some [k]
    | none => match P.underlying t, (P.info? t).map (·.size) with
      | some (.struct fs), some s => match deepFsW (deepF P d) 0 fs.toList with
        | some ks => if P.stoodInHeld t = false ∧ ks.length = s then some ks else none
        | none => none
      | _, _ => none
abbrev deepFs (P : Program) (d : Nat) := deepFsW (deepF P d)
theorem okB_append : ∀ {k ks : List Nat} {xs ys : List Value}, okB (k ++ ks) xs ys = true → okB k (xs.take k.length) (ys.take k.length) = true ∧ okB ks (xs.drop k.length) (ys.drop k.length) = true
  | [], ks, xs, ys, h => by simpa [okB] using h
  | c :: k, ks, xs, ys, h => by
    cases xs <;> cases ys <;> simp [okB] at h
    have := okB_append h.2
    simp [okB, h.1, this.1, this.2]
theorem eqB_append : ∀ {xs ys : List Value} (n : Nat), xs.length = ys.length → eqB xs ys = (eqB (xs.take n) (ys.take n) && eqB (xs.drop n) (ys.drop n))
  | xs, ys, 0, _ => by simp [eqB]
  | [], ys, n + 1, h => by simp [eqB]
  | x :: xs, [], n + 1, h => by simp at h
  | x :: xs, y :: ys, n + 1, h => by
    simp only [List.take_succ_cons, List.drop_succ_cons, eqB, eqB_append n (by simpa using h), Bool.and_assoc]
def EqOk (P : Program) (dd : Nat) (t : TypeId) (ks : List Nat) : Prop := ∀ (xs ys : List Value) (off : Nat) (w : World), okB ks ((xs.drop off).take ks.length) ((ys.drop off).take ks.length) = true →
  ∃ vx vy, (part t xs.toArray off).run P w = .ok vx w ∧ (part t ys.toArray off).run P w = .ok vy w ∧ (Op.equalIn (dd + 1) t vx vy).run P w = .ok (eqB ((xs.drop off).take ks.length) ((ys.drop off).take ks.length)) w
theorem run_eqFields_deepF (dd d : Nat) (IH : ∀ t ks, deepF P d t = some ks → EqOk P dd t ks) (xs ys : List Value) : ∀ (fs : List Field) (i : Nat) (ks : List Nat) (w : World), deepFs P d i fs = some ks → okB ks (xs.drop i) (ys.drop i) = true → (Op.eqFields (dd + 1) xs.toArray ys.toArray fs).run P w = .ok (eqB (xs.drop i) (ys.drop i)) w := by
  intro fs
  induction fs with
  | nil =>
    intro i ks w hf ho
    simp [deepFs, deepFsW] at hf
    subst hf
    have hx : xs.drop i = [] := List.eq_nil_of_length_eq_zero (okB_length ho).1
    rw [hx]
    simp [Op.eqFields, eqB]
  | cons f r ih =>
    intro i ks w hf ho
    simp only [deepFs, deepFsW] at hf
    cases hk : deepF P d f.type with
    | none => simp [hk] at hf
    | some k =>
      simp only [hk, Option.map_some, Option.getD_some] at hf
      cases hr : deepFsW (deepF P d) (i + k.length) r with
      | none => simp [hr] at hf
      | some kr =>
        simp only [hr] at hf
        split at hf
        · rename_i hn
          obtain ⟨hnm, hio⟩ := hn
          simp at hf
          subst hf
          obtain ⟨o1, o2⟩ := okB_append ho
          rw [List.drop_drop, List.drop_drop] at o2
          obtain ⟨vx, vy, e1, e2, e3⟩ := IH _ _ hk xs ys i w o1
          have e4 := ih (i + k.length) kr w hr o2
          have hl := okB_length ho
          have he := eqB_append (xs := xs.drop i) (ys := ys.drop i) k.length (by rw [hl.1, hl.2])
          rw [List.drop_drop, List.drop_drop] at he
          rw [he]
          simp only [Op.eqFields, hnm, if_true, ne_eq, not_false_eq_true, Sem.run_bind, hio, e1, Result.andThen_ok, e2, e3]
          cases hq : eqB ((xs.drop i).take k.length) ((ys.drop i).take k.length) with
          | true => simp [e4]
          | false => simp
        · cases hf
theorem run_struct_deepF (dd d : Nat) (IH : ∀ t ks, deepF P d t = some ks → EqOk P dd t ks) {t : TypeId} {fs : Array Field} {ks : List Nat} (hu : P.underlying t = some (.struct fs)) (hs : P.stoodInHeld t = false) (hd : deepFs P d 0 fs.toList = some ks) (xs ys : List Value) (w : World) (ho : okB ks xs ys = true) :
    (Op.equalIn (dd + 2) t (.agg xs.toArray) (.agg ys.toArray)).run P w = .ok (eqB xs ys) w := by
  have hu' : P.underlying t = some (.struct (P.fieldsOf t)) := by simp [Program.fieldsOf, hu]
  have hff : P.fieldsOf t = fs := by simp [Program.fieldsOf, hu]
  rw [run_equalIn_struct (P := P) w (dd + 1) t xs.toArray ys.toArray hu' hs, hff]
  simpa using run_eqFields_deepF dd d IH xs ys fs.toList 0 ks w hd (by simpa using ho)
theorem run_equal_deepF : ∀ (d : Nat) (dd : Nat) (t : TypeId) (ks : List Nat), deepF P d t = some ks → EqOk P (dd + d) t ks
  | 0, dd, t, ks, h => by simp [deepF] at h
  | d + 1, dd, t, ks, h => by
    intro xs ys off w ho
    simp only [deepF] at h
    cases hk : kindOf P t with
    | some k =>
      simp [hk] at h
      subst h
      have hl := okB_length ho
      simp at hl
      have hx : off < xs.length := by omega
      have hy : off < ys.length := by omega
      have g1 : (xs.drop off).take [k].length = [xs[off]] := by rw [List.drop_eq_getElem_cons hx]; rfl
      have g2 : (ys.drop off).take [k].length = [ys[off]] := by rw [List.drop_eq_getElem_cons hy]; rfl
      rw [g1, g2] at ho ⊢
      simp only [okB, Bool.and_true] at ho
      refine ⟨_, _, run_part_cell hk (v := xs[off]) (by simp [hx]) w, run_part_cell hk (v := ys[off]) (by simp [hy]) w, ?_⟩
      rw [run_equalIn_cell (P := P) _ hk ho w]
      simp [eqB]
    | none =>
      simp only [hk] at h
      cases hu : P.underlying t with
      | none => simp [hu] at h
      | some ds =>
        cases ds <;> simp only [hu] at h <;> try (cases h; done)
        rename_i fs
        cases hz : (P.info? t).map (·.size) with
        | none => simp [hz] at h
        | some s =>
          simp only [hz] at h
          cases hd : deepFsW (deepF P d) 0 fs.toList with
          | none => simp [hd] at h
          | some ks' =>
            simp only [hd] at h
            split at h
            · rename_i hh
              simp at h
              subst h
              obtain ⟨inf, hinf, hs⟩ := Option.map_eq_some_iff.1 hz
              have hagg : (isAgg t).run P w = .ok true w := by
                unfold isAgg
                rw [Sem.run_bind, run_underlying hu w]
                simp
              have hp : ∀ zs : List Value, (part t zs.toArray off).run P w = .ok (.agg ((zs.drop off).take ks'.length).toArray) w := by
                intro zs
                simp [part, hagg, sizeOf, typeInfo, hinf, hs, hh.2, List.extract_eq_take_drop]
              refine ⟨_, _, hp xs, hp ys, ?_⟩
              have := run_struct_deepF (P := P) (dd + d) d (fun t ks h => run_equal_deepF d dd t ks h) hu hh.1 hd _ _ w ho
              exact this
            · cases h
def deepK (P : Program) (t : TypeId) : Option (List Nat) := match P.underlying t with
  | some (.struct fs) => if P.stoodInHeld t = false ∧ P.eqGuardType P.depth t = false then deepFs P 5 0 fs.toList else none
  | _ => none
theorem run_equal_deepK {t : TypeId} {ks : List Nat} (hk : deepK P t = some ks) {xs ys : List Value} (ho : okB ks xs ys = true) (w : World) : (Op.equal t (.agg xs.toArray) (.agg ys.toArray)).run P w = .ok (eqB xs ys) w ∧ P.eqGuardType P.depth t = false := by
  unfold deepK at hk
  cases hu : P.underlying t with
  | none => simp [hu] at hk
  | some ds =>
    cases ds <;> simp only [hu] at hk <;> try (cases hk; done)
    split at hk
    · rename_i hh
      refine ⟨?_, hh.2⟩
      have := run_struct_deepF (P := P) (9993 + 5) 5 (fun t ks h => run_equal_deepF 5 9993 t ks h) hu hh.1 hk xs ys w ho
      simpa only [Op.equal, Op.maxDepth] using this
    · cases hk
section
variable {N : Nat} {w0 : World} {E : Env} {Γ : Gds} {H : Heap} {c : Nat} {dst : Option Tmp} {x y : Operand} {t t' ty : TypeId} {pos : String} {after : Array Edge} {g : Option (Nat × Bool)}
theorem PureOp.eqld {ks : List Nat} {xs ys : List Value} (hx : ev E Γ c x = some (.agg xs.toArray)) (hy : ev E Γ c y = some (.agg ys.toArray)) (hk : deepK P t = some ks) (ho : okB ks xs ys = true) : PureOp P N w0 E Γ H c ⟨dst, .binOp .eql t x y t', ty, pos, after, g⟩ (.bool (eqB xs ys)) := by
  intro a w he hw hc
  obtain ⟨h1, h2⟩ := run_equal_deepK hk ho w
  have h3 : (binOp .eql t (.agg xs.toArray) (.agg ys.toArray)).run P w = .ok (.bool (eqB xs ys)) w := by
    simp only [binOp]
    simp [h1]
  simp only [execOp, ev_ok he hx hc, ev_ok he hy hc, Sem.run_bind, run_eqGuard_agg w .eql t x y _ _ h2, Result.andThen_ok, h3, Sem.run_pure]
theorem PureOp.neqd {ks : List Nat} {xs ys : List Value} (hx : ev E Γ c x = some (.agg xs.toArray)) (hy : ev E Γ c y = some (.agg ys.toArray)) (hk : deepK P t = some ks) (ho : okB ks xs ys = true) : PureOp P N w0 E Γ H c ⟨dst, .binOp .neq t x y t', ty, pos, after, g⟩ (.bool (!eqB xs ys)) := by
  intro a w he hw hc
  obtain ⟨h1, h2⟩ := run_equal_deepK hk ho w
  have h3 : (binOp .neq t (.agg xs.toArray) (.agg ys.toArray)).run P w = .ok (.bool (!eqB xs ys)) w := by
    simp only [binOp]
    simp [h1]
  simp only [execOp, ev_ok he hx hc, ev_ok he hy hc, Sem.run_bind, run_eqGuard_agg w .neq t x y _ _ h2, Result.andThen_ok, h3, Sem.run_pure]
end
end Go.Proofs.Ytblmafknmeicfaa.Eng
