/-
  Regions that draw their order: pure operations are taken first, under what memory is known to hold all along; the others come up one after the other, each in its turn. Of no program.
-/
import Derived.Test.YtblmafknmeicfaaFam
import Derived.OrdersHeld
namespace Go.Proofs.Ytblmafknmeicfaa.Eng
open Go Go.RowKit
set_option linter.unusedVariables false
set_option linter.unusedSimpArgs false
variable {P : Program} {N : Nat} {w0 : World} {Q : Exit → Act → World → Prop} {E : Env} {Γ : Gds} {H HS : Heap} {ops : Array Oper} {K : Act → World → Prop}

def onlyN (K : Act → World → Prop) : Exit → Act → World → Prop
  | .normal, a, w => K a w
  | _, _, _ => False
theorem onlyN_out {K : Act → World → Prop} : ¬ LetsOut (onlyN K) := fun ⟨_, _, h⟩ => h
theorem upon_only {o : Oper} {a : Act} {w : World} {X K K' : Act → World → Prop} (h : o.wp P a w X (onlyN K)) : o.wp P a w X (onlyN K') := by
  unfold Oper.wp at *
  generalize (execOp a.eval o).run P w = r at *
  cases r with
  | ok n w' =>
    cases n <;> simp only [Oper.upon] at h ⊢ <;>
      first
        | exact h
        | exact Calls.mono h (fun e w'' he => by cases e <;> first | exact he | exact he.elim | exact absurd he onlyN_out)
        | exact Rows.mono h (fun _ _ he => he)
  | halt x w' => cases x <;> simp only [Oper.upon] at h ⊢ <;> exact h.elim

/-- a drawn region, some of its operations done: HS is what memory holds all along -/
def SD (P : Program) (N : Nat) (w0 : World) (ops : Array Oper) (K : Act → World → Prop) (HS : Heap) (fuel : Nat) (listed : List Bool) (E : Env) (Γ : Gds) (H : Heap) : Prop :=
  ∀ a w, EnvOk N E Γ a → HeapOk w0 H w → wpAnyH P .any ops (onlyN K) (HeapOk w0 HS) fuel listed.toArray a w
theorem WC.drawh {id : Nat} {l : List Oper} (HS : Heap) (n : Nat) (listed : List Bool) (hm : P.follows .mixedOrders = true) (hn : l.length = n) (hl : List.replicate n false = listed)
    (h : SD P N w0 l.toArray (Q .normal) HS n listed E Γ H) : WC P N w0 (.region id l.toArray true) Q E Γ H := by
  intro a w he hw
  subst hl hn
  refine wp_mono (wp_region_held (Q := onlyN (Q .normal)) (S := HeapOk w0 HS) hm ?_) ?_
  · have := h a _ he hw.drew
    simpa using this
  · intro e a w h
    cases e <;> first | exact h | exact h.elim
def chkTake (ops : Array Oper) (listed : List Bool) (i : Nat) : Bool := Region.noSelect ops && (Region.free .any ops listed.toArray i && (Region.ready .any ops listed.toArray).contains i)
theorem SD.take (i : Nat) {o : Oper} {d : Nat} {v : Value} {fuel : Nat} {listed : List Bool} (listed' : List Bool) (hi : ops[i]? = some o) (hc : chkTake ops listed i = true) (hl : listed.set i true = listed')
    (hS : ∀ w, HeapOk w0 H w → HeapOk w0 HS w) (hg : o.guard = none) (hd : o.dst = some d) (hN : Nat.blt d N = true) (hp : PureOp P N w0 E Γ HS 0 o v)
    (h : SD P N w0 ops K HS fuel listed' ((d, 0, v) :: E) Γ H) : SD P N w0 ops K HS (fuel + 1) listed E Γ H := by
  intro a w he hw
  simp only [chkTake, Bool.and_eq_true] at hc
  refine wpAnyH_take hi hc.1 hc.2.1 hc.2.2 (fun c a w h => h.elim) (.inl ⟨by simp [Region.wanted, hg], fun w' hw' => hp a w' he hw' (gval_zero Γ)⟩) (hS w hw) ?_
  rw [hd, List.setIfInBounds_toArray, hl]
  exact h _ _ (he.put hN (Nat.zero_le _) (by rw [gval_zero]; rfl)) hw
theorem SD.newg (t : Nat) {k fuel : Nat} {listed : List Bool} {b : Bool} (want : Bool) (hl : look E t = some (k, .bool b)) (h : SD P N w0 ops K HS fuel listed E ((k, b == want) :: Γ) H) : SD P N w0 ops K HS fuel listed E Γ H :=
  fun a w he hw => h a w (he.grow _) hw
theorem SD.gtake (i : Nat) {o : Oper} {j d t c k : Nat} {want b : Bool} {v : Value} {fuel : Nat} {listed : List Bool} (listed' : List Bool) (hi : ops[i]? = some o) (hc : chkTake ops listed i = true) (hl : listed.set i true = listed')
    (hS : ∀ w, HeapOk w0 H w → HeapOk w0 HS w) (hg : o.guard = some (j, want)) (hd : o.dst = some d) (hN : Nat.blt d N = true)
    (hj : (ops[j]?).bind (·.dst) = some t) (ht : Nat.blt t N = true) (hlk : look E t = some (k, .bool b)) (hcg : gget Γ c = some (k, b == want)) (hp : PureOp P N w0 E Γ HS c o v)
    (h : SD P N w0 ops K HS fuel listed' ((d, c, v) :: E) Γ H) : SD P N w0 ops K HS (fuel + 1) listed E Γ H := by
  intro a w he hw
  simp only [chkTake, Bool.and_eq_true] at hc
  obtain ⟨hv, hle⟩ := gget_ok hcg
  have hwant := wanted_eq (ops := ops) he hg hj hlk ht
  rw [← hv] at hwant
  refine wpAnyH_take (v := bif gval Γ c then v else undef) hi hc.1 hc.2.1 hc.2.2 (fun c a w h => h.elim) ?_ (hS w hw) ?_
  · cases hgv : gval Γ c with
    | true => exact .inl ⟨by rw [hwant, hgv], fun w' hw' => hp a w' he hw' hgv⟩
    | false => exact .inr ⟨by rw [hwant, hgv], rfl⟩
  · rw [hd, List.setIfInBounds_toArray, hl]
    exact h _ _ (he.put hN hle rfl) hw
/-- what follows one operation that came up -/
def afterD (P : Program) (w0 : World) (ops : Array Oper) (K : Act → World → Prop) (HS : Heap) (fuel : Nat) (listed : List Bool) : Exit → Act → World → Prop :=
  onlyN fun a w => HeapOk w0 HS w ∧ wpAnyH P .any ops (onlyN K) (HeapOk w0 HS) fuel listed.toArray a w
def SDs (P : Program) (N : Nat) (w0 : World) (ops : Array Oper) (K : Act → World → Prop) (HS : Heap) (fuel : Nat) (listed : List Bool) (E : Env) (Γ : Gds) (H : Heap) : List Nat → Prop
  | [] => True
  | i :: r => (∃ o listed', ops[i]? = some o ∧ listed.set i true = listed' ∧ SL P N w0 ops (afterD P w0 ops K HS fuel listed') [o] E Γ H) ∧ SDs P N w0 ops K HS fuel listed E Γ H r
theorem SDs.get {fuel : Nat} {listed : List Bool} : ∀ {rs : List Nat}, SDs P N w0 ops K HS fuel listed E Γ H rs → ∀ i ∈ rs, ∃ o, ops[i]? = some o ∧ SL P N w0 ops (afterD P w0 ops K HS fuel (listed.set i true)) [o] E Γ H
  | [], _, i, hi => by simp at hi
  | j :: r, h, i, hi => by
    rcases List.mem_cons.1 hi with rfl | hi
    · obtain ⟨⟨o, l', h1, h2, h3⟩, _⟩ := h
      subst h2
      exact ⟨o, h1, h3⟩
    · exact SDs.get h.2 i hi
theorem SD.all {fuel : Nat} {listed : List Bool} (rs : List Nat) (hr : Region.ready .any ops listed.toArray = rs) (hne : rs ≠ []) (h : SDs P N w0 ops K HS fuel listed E Γ H rs) : SD P N w0 ops K HS (fuel + 1) listed E Γ H := by
  intro a w he hw
  refine wpAnyH_all hr hne fun i hi => ?_
  obtain ⟨o, h1, h2⟩ := h.get i hi
  have h3 := h2 a w he hw
  unfold wpOp
  simp only [h1, List.setIfInBounds_toArray]
  unfold wpList at h3
  split
  · rename_i hwn
    rw [if_pos hwn] at h3
    rcases h3 with h3 | ⟨_, h3⟩
    · exact .inl (upon_only h3)
    · exact absurd h3 onlyN_out
  · rename_i hwn
    rw [if_neg hwn] at h3
    exact h3
theorem SD.one (i : Nat) {o : Oper} {fuel : Nat} {listed : List Bool} (listed' : List Bool) (hr : Region.ready .any ops listed.toArray = [i]) (hi : ops[i]? = some o) (hl : listed.set i true = listed')
    (h : SL P N w0 ops (afterD P w0 ops K HS fuel listed') [o] E Γ H) : SD P N w0 ops K HS (fuel + 1) listed E Γ H :=
  SD.all [i] hr (by simp) ⟨⟨o, listed', hi, hl, h⟩, trivial⟩
/-- behind an operation that came up -/
theorem SD.back {fuel : Nat} {listed : List Bool} (hS : ∀ w, HeapOk w0 H w → HeapOk w0 HS w) (h : SD P N w0 ops K HS fuel listed E Γ H) : SL P N w0 ops (afterD P w0 ops K HS fuel listed) [] E Γ H :=
  fun a w he hw => ⟨hS w hw, h a w he hw⟩
theorem SD.done {fuel : Nat} {listed : List Bool} (hr : Region.ready .any ops listed.toArray = []) (h : QX N w0 (fun _ => K) .normal E Γ H) : SD P N w0 ops K HS fuel listed E Γ H :=
  fun a w he hw => wpAnyH_done hr (h a w he hw) fuel
theorem QX.ofK {e : Exit} (h : QX N w0 Q e E Γ H) : QX N w0 (fun _ => Q e) e E Γ H := h
end Go.Proofs.Ytblmafknmeicfaa.Eng
