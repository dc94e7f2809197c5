/-
  Contracts of calls that change memory of their caller's own, or that hand back new memory: 'MC'. Of no program.
-/
import Derived.Test.YtblmafknmeicfaaDraw
namespace Go.Proofs.Ytblmafknmeicfaa.Eng
open Go Go.RowKit
set_option linter.unusedVariables false
set_option linter.unusedSimpArgs false
variable {P : Program} {N : Nat} {w0 : World} {Q : Exit → Act → World → Prop} {E : Env} {Γ : Gds} {H : Heap} {ops : Array Oper} {rest : List Oper}

def Item.triv : Item where
  fp := fun _ => False
  ok := fun _ => True
  inb := fun _ _ _ h => h.elim
  stable := fun _ _ _ _ => trivial
def Item.all (F : Heap) : Item where
  fp := fun b => ∃ x ∈ F, x.fp b
  ok := fun w => ∀ x ∈ F, x.ok w
  inb := fun w h b ⟨x, hx, hb⟩ => x.inb w (h x hx) b hb
  stable := fun w w' hs h x hx => x.stable w w' (fun b hb => hs b ⟨x, hx, hb⟩) (h x hx)
def Apart (x y : Item) : Prop := ∀ b, x.fp b → ¬ y.fp b
theorem Apart.symm {x y : Item} (h : Apart x y) : Apart y x := fun b hy hx => h b hx hy
theorem HeapOk.perm {H' : Heap} {w : World} (h : HeapOk w0 H w) (hp : H.Perm H') : HeapOk w0 H' w :=
  ⟨h.below, fun x hx => h.ok x (hp.symm.subset hx), fun x hx => h.own x (hp.symm.subset hx), (hp.pairwise_iff (R := Apart) (fun h => Apart.symm h)).1 h.disj⟩
theorem HeapOk.sublist {H' : Heap} {w : World} (h : HeapOk w0 H w) (hp : H'.Sublist H) : HeapOk w0 H' w :=
  ⟨h.below, fun x hx => h.ok x (hp.subset hx), fun x hx => h.own x (hp.subset hx), h.disj.sublist hp⟩
/-- the items at these places, in this order -/
def pick (is : List Nat) (H : Heap) : Heap := is.filterMap (H[·]?)
theorem HeapOk.pick {w : World} (is : List Nat) (hn : is.Nodup) (h : HeapOk w0 H w) : HeapOk w0 (pick is H) w := by
  have hm : ∀ x ∈ Eng.pick is H, x ∈ H := by
    intro x hx
    obtain ⟨i, _, hi⟩ := List.mem_filterMap.1 hx
    exact List.mem_of_getElem? hi
  refine ⟨h.below, fun x hx => h.ok x (hm x hx), fun x hx => h.own x (hm x hx), ?_⟩
  unfold Eng.pick
  rw [List.pairwise_filterMap]
  refine List.Pairwise.imp ?_ hn
  intro i j hij x hx y hy
  exact h.apart hx hy hij
theorem HeapOk.addtriv {w : World} (h : HeapOk w0 H w) : HeapOk w0 (H ++ [Item.triv]) w := h.add (Below.refl _ _) trivial (fun b hb => hb.elim)
theorem HeapOk.settriv {w : World} (h : HeapOk w0 H w) {i : Nat} {x : Item} (hi : H[i]? = some x) : HeapOk w0 (H.set i Item.triv) w :=
  h.change hi (Nat.le_refl _) rfl rfl rfl (fun _ _ _ => rfl) trivial (fun b hb => hb.elim)
theorem HeapOk.pack {L F : Heap} {w : World} (h : HeapOk w0 (L ++ F) w) : HeapOk w0 (L ++ [Item.all F]) w := by
  have hd := List.pairwise_append.1 h.disj
  refine ⟨h.below, ?_, ?_, ?_⟩
  · intro x hx
    rcases List.mem_append.1 hx with hx | hx
    · exact h.ok x (List.mem_append_left _ hx)
    · simp at hx; subst hx; exact fun y hy => h.ok y (List.mem_append_right _ hy)
  · intro x hx b hb
    rcases List.mem_append.1 hx with hx | hx
    · exact h.own x (List.mem_append_left _ hx) b hb
    · simp at hx; subst hx
      obtain ⟨y, hy, hyb⟩ := hb
      exact h.own y (List.mem_append_right _ hy) b hyb
  · rw [List.pairwise_append]
    refine ⟨hd.1, List.pairwise_singleton _ _, ?_⟩
    intro x hx y hy b hxb hyb
    simp at hy; subst hy
    obtain ⟨z, hz, hzb⟩ := hyb
    exact hd.2.2 x hx z hz b hxb hzb
theorem HeapOk.unpack {L F M : Heap} {w : World} (hF : F.Pairwise Apart) (h : HeapOk w0 (L ++ (Item.all F :: M)) w) : HeapOk w0 (L ++ (F ++ M)) w := by
  have hd := List.pairwise_append.1 h.disj
  have hd2 := List.pairwise_cons.1 hd.2.1
  have hall : (Item.all F).ok w := h.ok _ (by simp)
  have hmem : ∀ x ∈ L ++ (F ++ M), x ∈ L ∨ x ∈ F ∨ x ∈ M := by intro x hx; simpa using hx
  refine ⟨h.below, ?_, ?_, ?_⟩
  · intro x hx
    rcases hmem x hx with hx | hx | hx
    · exact h.ok x (by simp [hx])
    · exact hall x hx
    · exact h.ok x (by simp [hx])
  · intro x hx b hb
    rcases hmem x hx with hx | hx | hx
    · exact h.own x (by simp [hx]) b hb
    · exact h.own (Item.all F) (by simp) b ⟨x, hx, hb⟩
    · exact h.own x (by simp [hx]) b hb
  · rw [List.pairwise_append]
    refine ⟨hd.1, ?_, ?_⟩
    · rw [List.pairwise_append]
      refine ⟨hF, hd2.2, ?_⟩
      intro x hx y hy b hxb hyb
      exact hd2.1 y hy b ⟨x, hx, hxb⟩ hyb
    · intro x hx y hy b hxb hyb
      rcases List.mem_append.1 hy with hy | hy
      · exact hd.2.2 x hx (Item.all F) (by simp) b hxb ⟨y, hy, hyb⟩
      · exact hd.2.2 x hx y (by simp [hy]) b hxb hyb

/-- a contract of a call that finds the items L, and leaves L' instead of them and new ones -/
def MC (P : Program) (f : Nat) (args : List Value) (w0 : World) (L : Heap) {σ : Type} (V : σ → Value) (L' : σ → Heap) (I : σ → Prop) (news : σ → Heap) : Prop :=
  ∀ F w, HeapOk w0 (L ++ F) w → Calls P f args.toArray w (fun e w' => ∃ t, e = .returned (V t) ∧ I t ∧ HeapOk w0 (L' t ++ (F ++ news t)) w')
abbrev MPost {σ : Type} (w0 : World) (X : Item) (V : σ → Value) (L' : σ → Heap) (I : σ → Prop) (news : σ → Heap) : Ending → World → Prop :=
  fun e w' => ∃ t, e = .returned (V t) ∧ I t ∧ HeapOk w0 (L' t ++ (X :: news t)) w'
theorem mcalls {f : FuncId} {fn : Func} {c : Code} {args : List Value} {L : Heap} {σ : Type} {V : σ → Value} {L' : σ → Heap} {I : σ → Prop} {news : σ → Heap} (hf : P.funcs[f]? = some fn) (hb : fn.body = some c) (hn : fn.ntmps = N) (hlen : Nat.ble args.length N = true)
    (h : ∀ X : Item, WC P N w0 c (bodyPost P fn (MPost w0 X V L' I news)) (env0 0 args) [] (L ++ [X])) : MC P f args w0 L V L' I news := by
  intro F w hw
  have hF : F.Pairwise Apart := (List.pairwise_append.1 hw.disj).2.1
  have hc : Calls P f args.toArray w (MPost w0 (Item.all F) V L' I news) := by
    refine calls_of_wp hf hb (h (Item.all F) _ _ ⟨?_, rfl, ?_⟩ hw.pack)
    · have := Nat.le_of_ble_eq_true hlen
      simp [hn]
      omega
    · intro t k v hl
      obtain ⟨rfl, _, h3⟩ := look_env0 args 0 t k v hl
      refine ⟨Nat.zero_le _, ?_⟩
      simp only [Nat.sub_zero] at h3
      have hlt := (List.getElem?_eq_some_iff.1 h3).1
      simp only [gval, cond_true, Array.getD_eq_getD_getElem?]
      rw [Array.getElem?_append_left (by simpa using hlt)]
      simp [h3]
  refine hc.mono ?_
  rintro e w' ⟨t, h1, h2, h3⟩
  exact ⟨t, h1, h2, h3.unpack hF⟩
theorem QX.bodyv {fn : Func} {R : Ending → World → Prop} {rs : List ResultVar} {vs : List Value} (hr : fn.results = rs.toArray) (hv : RVs P N w0 E Γ H rs vs) (h : ∀ w, HeapOk w0 H w → R (.returned (retVal vs)) w) : QX N w0 (bodyPost P fn R) .ret E Γ H := by
  intro a w he hw
  have e := hv.run a w he hw
  refine ⟨he.defers, retVal vs, ?_, h w hw⟩
  unfold results
  rw [hr]
  simp only [List.mapM_toArray]
  rw [Sem.run_bind, Sem.run_map]
  erw [e]
  simp only [Result.andThen_ok]
  rcases vs with _ | ⟨v, _ | ⟨u, r⟩⟩ <;> simp [retVal]

/-! the caller's side: the items at the places 'is' -/
def putAll : Heap → List Nat → Heap → Heap
  | H, i :: is, x :: L => putAll (H.set i x) is L
  | H, _, _ => H
theorem putAll_length : ∀ (is : List Nat) (H L : Heap), (putAll H is L).length = H.length
  | [], H, _ => by simp [putAll]
  | i :: is, H, [] => by simp [putAll]
  | i :: is, H, x :: L => by rw [putAll, putAll_length is]; simp
theorem putAll_get : ∀ (is : List Nat) (H L : Heap) (j : Nat), j ∉ is → (putAll H is L)[j]? = H[j]?
  | [], H, _, j, _ => by simp [putAll]
  | i :: is, H, [], j, _ => by simp [putAll]
  | i :: is, H, x :: L, j, h => by
    rw [putAll, putAll_get is _ _ _ (fun q => h (List.mem_cons_of_mem _ q)), List.getElem?_set_ne (fun q => h (by subst q; exact List.mem_cons_self))]
/-- taken out of the list: holes in their places -/
theorem HeapOk.hole {w : World} : ∀ (is : List Nat) (H L : Heap), is.Nodup → is.map (H[·]?) = L.map some → HeapOk w0 H w → HeapOk w0 (L ++ putAll H is (is.map fun _ => Item.triv)) w
  | [], H, [], _, _, h => by simpa [putAll] using h
  | [], H, _ :: _, _, hl, _ => by simp at hl
  | i :: is, H, [], _, hl, _ => by simp at hl
  | i :: is, H, x :: L, hn, hl, h => by
    simp only [List.map_cons, List.cons.injEq] at hl
    obtain ⟨h1, h2⟩ := hl
    obtain ⟨n1, n2⟩ := List.nodup_cons.1 hn
    have hlt : i < H.length := (List.getElem?_eq_some_iff.1 h1).1
    -- x in front, a hole in its place
    have hx : HeapOk w0 (x :: H.set i Item.triv) w := by
      have hp : (x :: H.set i Item.triv).Perm (Item.triv :: H) := by
        rw [List.set_eq_take_append_cons_drop, if_pos hlt]
        have e : H = H.take i ++ x :: H.drop (i + 1) := by
          have := List.getElem?_eq_some_iff.1 h1
          conv => lhs; rw [← List.take_append_drop i H]
          rw [List.drop_eq_getElem_cons hlt, this.2]
        have p1 : (x :: (H.take i ++ Item.triv :: H.drop (i + 1))).Perm (x :: (Item.triv :: (H.take i ++ H.drop (i + 1)))) := List.Perm.cons _ List.perm_middle
        have p2 : (Item.triv :: (H.take i ++ x :: H.drop (i + 1))).Perm (Item.triv :: (x :: (H.take i ++ H.drop (i + 1)))) := List.Perm.cons _ List.perm_middle
        refine p1.trans ((List.Perm.swap _ _ _).trans ?_)
        conv => rhs; rw [e]
        exact p2.symm
      refine HeapOk.perm ?_ hp.symm
      exact HeapOk.perm h.addtriv (List.perm_append_singleton _ _)
    have h2' : is.map ((H.set i Item.triv)[·]?) = L.map some := by
      rw [← h2]
      refine List.map_congr_left fun j hj => ?_
      rw [List.getElem?_set_ne (fun q => n1 (by rw [q]; exact hj))]
    -- the others out of the tail
    have h3 : HeapOk w0 (H.set i Item.triv) w := h.settriv h1
    have h4 := HeapOk.hole is _ _ n2 h2' h3
    refine ⟨h.below, ?_, ?_, ?_⟩
    · intro y hy
      rcases List.mem_cons.1 hy with rfl | hy
      · exact h.mem h1
      · exact h4.ok y hy
    · intro y hy
      rcases List.mem_cons.1 hy with rfl | hy
      · exact h.own _ (List.mem_of_getElem? h1)
      · exact h4.own y hy
    · show (x :: (L ++ putAll (H.set i Item.triv) is (is.map fun _ => Item.triv))).Pairwise Apart
      rw [List.pairwise_cons]
      refine ⟨fun y hy => ?_, h4.disj⟩
      -- y is an item of the tail, at another place than i, or a hole
      have key : ∀ (is : List Nat) (M : Heap), (∀ y ∈ M, Apart x y) → ∀ y ∈ putAll M is (is.map fun _ => Item.triv), Apart x y := by
        intro is
        induction is with
        | nil => intro M hM y hy; exact hM y (by simpa [putAll] using hy)
        | cons j is ih =>
          intro M hM y hy
          simp only [List.map_cons, putAll] at hy
          refine ih _ (fun z hz => ?_) y hy
          rcases List.mem_or_eq_of_mem_set hz with hz | rfl
          · exact hM z hz
          · exact fun b _ hb => hb.elim
      have hd := List.pairwise_cons.1 hx.disj
      rcases List.mem_append.1 hy with hy | hy
      · have : some y ∈ L.map some := List.mem_map_of_mem hy
        rw [← h2'] at this
        obtain ⟨j, hj, hjy⟩ := List.mem_map.1 this
        exact hd.1 y (List.mem_of_getElem? hjy)
      · exact key is _ hd.1 y hy
/-- put back -/
theorem HeapOk.fillback {w : World} : ∀ (is : List Nat) (L : Heap) (M news : Heap), is.Nodup → is.length = L.length → (∀ i ∈ is, M[i]? = some Item.triv) → HeapOk w0 (L ++ (M ++ news)) w → HeapOk w0 (putAll M is L ++ news) w
  | [], [], M, news, _, _, _, h => by simpa [putAll] using h
  | [], _ :: _, M, news, _, hl, _, _ => by simp at hl
  | i :: is, [], M, news, _, hl, _, _ => by simp at hl
  | i :: is, x :: L, M, news, hn, hl, hM, h => by
    obtain ⟨n1, n2⟩ := List.nodup_cons.1 hn
    have hi := hM i List.mem_cons_self
    have hlt : i < M.length := (List.getElem?_eq_some_iff.1 hi).1
    refine HeapOk.fillback is L (M.set i x) news n2 (by simpa using hl) (fun j hj => ?_) ?_
    · rw [List.getElem?_set_ne (fun q => n1 (by rw [q]; exact hj))]
      exact hM j (List.mem_cons_of_mem _ hj)
    · have e : M = M.take i ++ Item.triv :: M.drop (i + 1) := by
        have := List.getElem?_eq_some_iff.1 hi
        conv => lhs; rw [← List.take_append_drop i M]
        rw [List.drop_eq_getElem_cons hlt, this.2]
      have hp : (x :: L ++ (M ++ news)).Perm (Item.triv :: (L ++ (M.set i x ++ news))) := by
        have p1 : (x :: M).Perm (Item.triv :: M.set i x) := by
          rw [List.set_eq_take_append_cons_drop, if_pos hlt]
          have q1 : (x :: (M.take i ++ Item.triv :: M.drop (i + 1))).Perm (x :: (Item.triv :: (M.take i ++ M.drop (i + 1)))) := List.Perm.cons _ List.perm_middle
          have q2 : (Item.triv :: (M.take i ++ x :: M.drop (i + 1))).Perm (Item.triv :: (x :: (M.take i ++ M.drop (i + 1)))) := List.Perm.cons _ List.perm_middle
          conv => lhs; rw [e]
          exact q1.trans ((List.Perm.swap _ _ _).trans q2.symm)
        have a1 : (x :: L ++ (M ++ news)).Perm (L ++ ((x :: M) ++ news)) := by
          have : (x :: (L ++ (M ++ news))).Perm (L ++ x :: (M ++ news)) := List.perm_middle.symm
          exact this
        have a2 : (L ++ ((x :: M) ++ news)).Perm (L ++ ((Item.triv :: M.set i x) ++ news)) := List.Perm.append_left _ (List.Perm.append_right _ p1)
        have a3 : (L ++ ((Item.triv :: M.set i x) ++ news)).Perm (Item.triv :: (L ++ (M.set i x ++ news))) := by
          have : (L ++ Item.triv :: (M.set i x ++ news)).Perm (Item.triv :: (L ++ (M.set i x ++ news))) := List.perm_middle
          exact this
        exact a1.trans (a2.trans a3)
      exact (h.perm hp).sublist (List.sublist_cons_self _ _)
theorem putAll_twice : ∀ (is : List Nat) (H A B : Heap), is.Nodup → is.length = A.length → is.length = B.length → putAll (putAll H is A) is B = putAll H is B
  | [], H, A, B, _, _, _ => by simp [putAll]
  | i :: is, H, [], B, _, hA, _ => by simp at hA
  | i :: is, H, _ :: _, [], _, _, hB => by simp at hB
  | i :: is, H, a :: A, b :: B, hn, hA, hB => by
    obtain ⟨n1, n2⟩ := List.nodup_cons.1 hn
    simp only [putAll]
    have e : ∀ (is : List Nat) (H A : Heap), i ∉ is → (putAll H is A).set i b = putAll (H.set i b) is A := by
      intro is
      induction is with
      | nil => intro H A _; simp [putAll]
      | cons j is ih =>
        intro H A h
        cases A with
        | nil => simp [putAll]
        | cons a A =>
          simp only [putAll]
          rw [ih _ _ (fun q => h (List.mem_cons_of_mem _ q)), List.set_comm _ _ (fun q => h (by subst q; exact List.mem_cons_self))]
    rw [e is _ _ n1, List.set_set]
    exact putAll_twice is _ A B n2 (by simpa using hA) (by simpa using hB)
/-- a call under such a contract -/
theorem SL.callM {o : Oper} {d f : Nat} {x : Operand} {xs : Array Operand} {ts : Array TypeId} {vs : List Value} {L : Heap} {σ : Type} {V : σ → Value} {L' : σ → Heap} {I : σ → Prop} {news : σ → Heap} (is : List Nat) (ho : o.op = .call { callee := .value x, args := xs, argTypes := ts }) (hg : o.guard = none) (hd : o.dst = some d) (hN : Nat.blt d N = true)
    (hx : ev E Γ 0 x = some (.func (.func f) #[] #[])) (hxs : evs E Γ 0 xs.toList = some vs) (hf : callable P f = true) (hnd : is.Nodup) (hC : MC P f vs w0 L V L' I news) (hL : is.map (H[·]?) = L.map some) (hL' : ∀ t, I t → (L' t).length = is.length)
    (h : ∀ t, I t → SL P N w0 ops Q rest ((d, 0, V t) :: E) Γ (putAll H is (L' t) ++ news t)) : SL P N w0 ops Q (o :: rest) E Γ H := by
  intro a w he hw
  refine wpList_plain hg fun K hK => ?_
  unfold Oper.wp
  rw [run_call ho hf (ev_ok he hx (gval_zero Γ)) (evs_ok he (gval_zero Γ) hxs)]
  simp only [Oper.upon]
  rw [show (#[] ++ vs.toArray ++ #[] : Array Value) = vs.toArray from by simp]
  refine (hC _ w (hw.hole is H L hnd hL)).mono ?_
  rintro e w' ⟨t, rfl, hI, hw'⟩
  simp only [hd]
  refine hK _ _ (h t hI _ _ (he.put hN (Nat.zero_le _) (by rw [gval_zero]; rfl)) ?_)
  have h1 := HeapOk.fillback is (L' t) _ (news t) hnd (hL' t hI).symm (fun i hi => ?_) hw'
  · rw [putAll_twice is H _ _ hnd (by simp) (hL' t hI).symm] at h1
    exact h1
  · -- a hole in that place
    have key : ∀ (is : List Nat) (M : Heap), is.Nodup → (∀ i ∈ is, i < M.length) → ∀ i ∈ is, (putAll M is (is.map fun _ => Item.triv))[i]? = some Item.triv := by
      intro is
      induction is with
      | nil => intro M _ _ i hi; simp at hi
      | cons j is ih =>
        intro M hn hlt i hi
        obtain ⟨n1, n2⟩ := List.nodup_cons.1 hn
        simp only [List.map_cons, putAll]
        rcases List.mem_cons.1 hi with rfl | hi
        · rw [putAll_get _ _ _ _ n1, List.getElem?_set_self (hlt _ List.mem_cons_self)]
        · exact ih _ n2 (fun k hk => by simpa using hlt k (List.mem_cons_of_mem _ hk)) i hi
    refine key is H hnd (fun j hj => ?_) i hi
    have : (H[j]?) ∈ L.map some := by rw [← hL]; exact List.mem_map_of_mem (f := (H[·]?)) hj
    obtain ⟨y, _, hy⟩ := List.mem_map.1 this
    exact (List.getElem?_eq_some_iff.1 hy.symm).1
/-- a contract without items of the caller, out of a plain one -/
theorem MC.mono {f : Nat} {args : List Value} {L : Heap} {σ τ : Type} {V : σ → Value} {L' : σ → Heap} {I : σ → Prop} {news : σ → Heap} {V2 : τ → Value} {L2 : τ → Heap} {I2 : τ → Prop} {news2 : τ → Heap} (h : MC P f args w0 L V L' I news)
    (ht : ∀ t, I t → ∃ u, V t = V2 u ∧ I2 u ∧ L' t = L2 u ∧ news t = news2 u) : MC P f args w0 L V2 L2 I2 news2 := by
  intro F w hw
  refine (h F w hw).mono ?_
  rintro e w' ⟨t, h1, h2, h3⟩
  obtain ⟨u, u1, u2, u3, u4⟩ := ht t h2
  exact ⟨u, by rw [h1, u1], u2, by rw [← u3, ← u4]; exact h3⟩
end Go.Proofs.Ytblmafknmeicfaa.Eng
