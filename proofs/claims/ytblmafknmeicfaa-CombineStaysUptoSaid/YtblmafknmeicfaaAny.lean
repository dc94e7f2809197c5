/- Reading whole elements of a slice that is known by a proof. Own work. -/
import Derived.Test.YtblmafknmeicfaaCut
import Derived.Test.YtblmafknmeicfaaSeal
namespace Go.Proofs.Ytblmafknmeicfaa.Eng
open Go Go.RowKit
theorem RowIs.any {w0 : World} {H : Heap} {sz : Nat} {ao : Option Addr} {n cap : Nat} {F : Nat → Nat → Value} (h : ∀ w, HeapOk w0 H w → SliceIn w sz ao n cap F) (i s m : Nat) (hi : i < n) (hm : s + m ≤ sz) : RowIs w0 H ⟨blk ao, off ao + i * sz + s, none⟩ (rowOf (F i) s m) := by
  intro j v hj
  rw [add_lit]
  obtain ⟨h1, h2⟩ := rowOf_get _ _ _ _ _ hj
  rw [← h2, Nat.add_assoc]
  exact CellIs.any h i (s + j) hi (by omega)
theorem HeapOk.addown0 {w0 : World} {H : Heap} {w : World} (hw : HeapOk w0 H w) {cs : List Value} {e : TypeId} {n sz : Nat} (hl : cs.length = n * sz) (hm : n ≤ maxLen) : HeapOk w0 (H ++ [.own w0.heap.size (some ⟨w.heap.size, 0, none⟩) 0 n e sz []]) (w.alloc (.cells cs.toArray e)) := by
  refine hw.add (below_alloc w _) ?_ (fun b hb => ?_)
  · exact ⟨by simp, .inr ⟨w.heap.size, n, cs.toArray, rfl, hw.below.size, heap_alloc_new w _, Nat.zero_le _, hm, by simp [hl], by simp⟩⟩
  · have : some w.heap.size = some b := hb
    injection this with this
    omega
variable {P : Program} {N : Nat} {w0 : World} {Q : Exit → Act → World → Prop} {E : Env} {Γ : Gds} {H : Heap} {ops : Array Oper} {rest : List Oper}
/-- make of no elements, with room for n -/
theorem SL.make0 {dst : Option Tmp} {t ty e : TypeId} {l c : Operand} {kl kc : IntKind} {n sz bytes : Nat} {pos : String} {after : Array Edge} {d : Nat} {z : List Value} (hd : dst = some d) (hN : Nat.blt d N = true)
    (hu : P.underlying t = some (.slice e)) (he' : elemI P e = some (sz, z, bytes)) (hl : ev E Γ 0 l = some (.int kl 0)) (hc : ev E Γ 0 c = some (.int kc (n : Int))) (hb : bytes * n ≤ 281474976710656) (hm : n ≤ 9223372036854775807)
    (h : ∀ b, w0.heap.size ≤ b → SL P N w0 ops Q rest ((d, 0, .slice (some ⟨b, 0, none⟩) 0 n) :: E) Γ (H ++ [.own w0.heap.size (some ⟨b, 0, none⟩) 0 n e sz []])) : SL P N w0 ops Q (⟨dst, .makeSlice t l c, ty, pos, after, none⟩ :: rest) E Γ H := by
  intro a w he hw
  obtain ⟨i, zv, h1, h2, h3, h4, h5, h6, h7⟩ := elemI_ok he'
  subst h5
  have hr : (Instr.makeSlice t (.int kl 0) (.int kc (n : Int))).run P w = .ok (.slice (some ⟨w.heap.size, 0, none⟩) 0 n) (w.alloc (.cells (repCells (vcells zv) n).toArray e)) := by
    have := run_make (P := P) w t e i zv hu h1 h2 kl kc 0 n (by omega) (by omega) (by
      rw [h4]
      have hh : ((bytes * n : Nat) : Int) ≤ 281474976710656 := by omega
      rwa [Int.natCast_mul] at hh) (by omega)
    rw [this]
    simp only [Int.toNat_natCast, Int.toNat_zero]
    congr 2
    rw [h3]
    congr 1
    have := repCells_eq zv n sz h6
    rw [← this]
    rfl
  refine wpList_plain rfl fun K hK => ?_
  unfold Oper.wp
  simp only [execOp, ev_ok he hl (gval_zero Γ), ev_ok he hc (gval_zero Γ), Sem.run_bind, hr, Result.andThen_ok, Sem.run_pure, Oper.upon, hd]
  exact hK _ _ (h w.heap.size hw.below.size _ _ (he.put hN (Nat.zero_le _) (by rw [gval_zero]; rfl)) (hw.addown0 (n := n) (by rw [repCells_length, h7]) hm))
/-- s[:h:m] -/
theorem PureOp.slicehm {c : Nat} {dst : Option Tmp} {x z u : Operand} {t ty : TypeId} {pos : String} {after : Array Edge} {g : Option (Nat × Bool)} {e : TypeId} {ao : Option Addr} {n cap sz : Nat} {hi m : Int} {k' k2 : IntKind} (ht : P.underlying t = some (.slice e)) (hsz : (P.info? e).map (·.size) = some sz) (hx : ev E Γ c x = some (.slice ao n cap)) (hz : ev E Γ c z = some (.int k' hi)) (hm : ev E Γ c u = some (.int k2 m)) (hb : gval Γ c = true → 0 ≤ hi ∧ hi ≤ m ∧ m ≤ cap) :
    PureOp P N w0 E Γ H c ⟨dst, .slice t x none (some z) (some u), ty, pos, after, g⟩ (.slice (subAo ao m.toNat 0 sz) (hi.toNat - 0) (m.toNat - 0)) := by
  intro a w he hw hc
  obtain ⟨i, hi', hs⟩ := Option.map_eq_some_iff.1 hsz
  obtain ⟨b2, b3, b4⟩ := hb hc
  have hel : P.elem t = e := by simp [Program.elem, ht]
  have ht' : P.underlying t = some (.slice (P.elem t)) := by rw [hel]; exact ht
  have := run_slice_hm (P := P) w t ao n cap ht' k' k2 hi m b2 b3 b4
  simp only [execOp, Option.map_some, Option.map_none, ev_ok he hx hc, ev_ok he hz hc, ev_ok he hm hc]
  rw [Sem.run_bind, run_sliceAt_slice w t _ _ _ _ ht', this]
  simp [sizeOf, typeInfo, hel, hi', hs, sliced, subAo]
/-- what an own slice's head tells -/
theorem WC.ownfacts (i : Nat) {c : Code} {base : Nat} {ao : Option Addr} {n cap sz : Nat} {t : TypeId} {xs : List Value} (hi : H[i]? = some (.own base ao n cap t sz xs))
    (h : (n ≤ cap ∧ cap ≤ 9223372036854775807) → ((cap = 0 ∧ ao = none) ∨ ∃ g, ao = some ⟨g, 0, none⟩) → xs.length = n * sz → WC P N w0 c Q E Γ H) : WC P N w0 c Q E Γ H := by
  intro a w he hw
  have hown : w.ownsRow base t sz (.slice ao n cap) n xs := hw.mem hi
  refine h ?_ ?_ hown.1 a w he hw
  · rcases hown.2 with ⟨hv, h0⟩ | ⟨g, cap', cur, hv, hb, hg, hnc, hcm, hcs, ht⟩
    · simp only [Value.slice.injEq] at hv
      omega
    · simp only [Value.slice.injEq, true_and] at hv
      simp only [maxLen] at hcm
      omega
  · rcases hown.2 with ⟨hv, h0⟩ | ⟨g, cap', cur, hv, hb, hg, hnc, hcm, hcs, ht⟩
    · simp only [Value.slice.injEq] at hv
      exact .inl ⟨by omega, hv.1⟩
    · simp only [Value.slice.injEq, true_and] at hv
      exact .inr ⟨g, hv.1⟩
/-- two things as one -/
def Item.both (x y : Item) : Item where
  fp := fun b => x.fp b ∨ y.fp b
  ok := fun w => x.ok w ∧ y.ok w
  inb := fun w h b hb => hb.elim (x.inb w h.1 b) (y.inb w h.2 b)
  stable := fun w w' hs h => ⟨x.stable w w' (fun b hb => hs b (.inl hb)) h.1, y.stable w w' (fun b hb => hs b (.inr hb)) h.2⟩
theorem own_fresh {w' : World} {base n cap sz : Nat} {ao : Option Addr} {t : TypeId} {cs : List Value} (hown : w'.ownsRow base t sz (.slice ao n cap) n cs) : ∀ b, ao.map (·.block) = some b → base ≤ b := fun b hb' => (hown.lt b (by
  cases ao with
  | none => cases hb'
  | some a =>
    have h1 : (some a : Option Addr).map (·.block) = some b := hb'
    simpa [Value.ownBlock] using h1)).1
/-- a call that hands back a slice of new memory whose elements lie in other new memory -/
theorem SL.callo2 {σ : Type} {o : Oper} {d f : Nat} {x : Operand} {xs : Array Operand} {ts : Array TypeId} {vs : List Value} (V : σ → Value) (I : σ → Prop) (A1 A2 : σ → Option Addr) (C1 C2 : σ → Nat) (n1 n2 : Nat) (t1 t2 : TypeId) (z1 z2 : Nat) (X1 X2 : σ → List Value)
    (ho : o.op = .call { callee := .value x, args := xs, argTypes := ts }) (hg : o.guard = none) (hd : o.dst = some d) (hN : Nat.blt d N = true)
    (hx : ev E Γ 0 x = some (.func (.func f) #[] #[])) (hxs : evs E Γ 0 xs.toList = some vs) (hf : callable P f = true)
    (hC : ∀ w, HeapOk w0 H w → FnC P f vs w fun v w' => ∃ t, v = V t ∧ I t ∧ w'.ownsRow w.heap.size t1 z1 (.slice (A1 t) n1 (C1 t)) n1 (X1 t) ∧ w'.ownsRow w.heap.size t2 z2 (.slice (A2 t) n2 (C2 t)) n2 (X2 t))
    (h : ∀ t, I t → SL P N w0 ops Q rest ((d, 0, V t) :: E) Γ (H ++ [Item.both (.own w0.heap.size (A1 t) n1 (C1 t) t1 z1 (X1 t)) (.own w0.heap.size (A2 t) n2 (C2 t) t2 z2 (X2 t))])) : SL P N w0 ops Q (o :: rest) E Γ H :=
  SL.call (R := fun w v w' => ∃ t, v = V t ∧ I t ∧ w'.ownsRow w.heap.size t1 z1 (.slice (A1 t) n1 (C1 t)) n1 (X1 t) ∧ w'.ownsRow w.heap.size t2 z2 (.slice (A2 t) n2 (C2 t)) n2 (X2 t)) ho hg hd hN hx hxs hf hC fun v w w' hw hw' hb ⟨t, hv, hI, ho1, ho2⟩ =>
    ⟨_, hw.add (x := Item.both (.own w0.heap.size (A1 t) n1 (C1 t) t1 z1 (X1 t)) (.own w0.heap.size (A2 t) n2 (C2 t) t2 z2 (X2 t))) hb ⟨ownsRow_weaken ho1 hw.below.size, ownsRow_weaken ho2 hw.below.size⟩ (fun b hb' => hb'.elim (own_fresh ho1 b) (own_fresh ho2 b)), by rw [hv]; exact h t hI⟩
theorem FnC.ofMC {f : Nat} {args : List Value} {w : World} {σ : Type} {V : σ → Value} {I : σ → Prop} {news : σ → Heap} (h : MC P f args w [] V (fun _ => []) I news) : FnC P f args w fun v w' => ∃ t, v = V t ∧ I t ∧ HeapOk w (news t) w' :=
  Calls.mono (h [] w (HeapOk.start w)) fun _ _ ⟨t, h1, h2, h3⟩ => ⟨V t, h1, h3.below, t, rfl, h2, h3⟩
end Go.Proofs.Ytblmafknmeicfaa.Eng
