import Derived.Test.YtngkbnaehkailaaDoorTopA
namespace Go.Proofs.YtngkbnaehkailaaDoor
open Go Go.RowKit Eng
set_option linter.unusedVariables false
set_option linter.unusedSimpArgs false

theorem wayS_six {l : List Pa} : ∀ i, (∀ k, k < i → (nth l k).2.2.l.length ≤ 6) → wayS l i ≤ i * 6
  | 0, _ => by simp [wayS]
  | i + 1, h => by
    have h1 := wayS_six i (fun k hk => h k (by omega))
    have h2 := h i (by omega)
    rw [wayS]; omega
theorem top_law (w0 : World) (l : List Pa) (la : Option Addr) (m lc : Nat) (hm : m = l.length) (hI : ∀ i, i < m → SliceIn w0 2 (nth l i).2.2.ao (nth l i).2.2.l.length (nth l i).2.2.cap (rowsF enc77 (nth l i).2.2.l)) (sL : SliceIn w0 3 la m lc (rowsF enc55 l)) (c : List Int) (ca : Option Addr) (q cc : Nat) (hq : q = c.length) (sC : SliceIn w0 1 ca q cc (rowsF encI c)) (hT : LenIn w0) (hck : rchk l c = 0) : FnC Tryd.prog 3 [.slice la m lc, .slice ca q cc] w0 fun v w' => v = .bool true := by
  by_cases hs : m ≤ 5 ∧ q ≤ 5 ∧ ∀ i, i < m → (nth l i).2.2.l.length ≤ 6
  · have hW := wayS_six m hs.2.2
    have hW2 : wayS l m ≤ 30 := by have := hs.1; omega
    obtain ⟨R, hR, hB⟩ := plan_best hck hm hq (by omega)
    obtain ⟨S, h1, h2, h3, h4, h5, h6⟩ := top_flow hck hm hq hs.1 hs.2.1 hW2 hB
    have hc := top_check hm hq (PaOk.of hck) (by omega)
    have e1 : (m : Int) + (q : Int) + 1 + 1 = 2 + (m : Int) + (q : Int) := by omega
    have e2 : (m : Int) + (q : Int) + 1 = 2 + (m : Int) + (q : Int) - 1 := by omega
    rw [e1] at h1 h5 h6 hc
    rw [e2] at h1 hc
    exact top_ok w0 l la m lc hm hI sL c ca q cc hq sC hT hck (by omega) _ R hR hB _ S hc h1 h2 h3 h4 h5 h6
  · exact top_big w0 l la m lc hm hI sL c ca q cc hq sC hT hs
end Go.Proofs.YtngkbnaehkailaaDoor
