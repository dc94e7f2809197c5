import Derived.Test.YtblgllngkbjfgaaNeF
import Derived.Test.YtblgllngkbjfgaaNeM
namespace Go.Proofs.Ytblgllngkbjfgaa
open Go Go.RowKit Eng
set_option linter.unusedVariables false
set_option linter.unusedSimpArgs false

theorem Sell_is (nm : ByteArray) (se ov : Int) (cl : List Cl) (ac : Option Addr) (nc cc : Nat) (hnc : nc = cl.length) (hcb : nc ≤ 30) (l : List Int) (ao : Option Addr) (n cap : Nat) (hn : n = l.length) (hnb : n ≤ 1000) (w0 : World) (hs : SliceIn w0 1 ao n cap (rowsF encI l)) (hc : SliceIn w0 2 ac nc cc (rowsF enc47 cl)) (hR : Rt se ov cl) (k : Nat) (x : Int) (hr : Right cl l) (h1 : 1 ≤ x) (hk : k < l.length) (hx : x ≤ opn (se + ov) cl l k) : FnC Try.prog 17 [.agg #[.string nm, .int .i64 se, .int .i64 ov, .slice ac nc cc], .slice ao n cap, .int .i64 ((k : Nat) : Int), .int .i64 x] w0 fun v w' => ∃ a c, v = .tuple #[.slice a n c, .int .i64 0] ∧ w'.ownsRow w0.heap.size 3 1 (.slice a n c) n (cellsOf encI (l.set k (nth l k + x))) := by
  have hb := open_bd hR hr hk
  have h := Sell_ok nm se ov cl ac nc cc hnc hcb l ao n cap hn hnb w0 hs hc hR (k : Int) x (by omega)
  have q := sell_is (se := se) (ov := ov) hr h1 hk hx
  have q2 : sellL (se + ov) cl l (k : Int) x = l.set k (nth l k + x) := by rw [sellL, if_pos q]; simp
  rw [q, q2, List.length_set, ← hn] at h
  exact h

theorem Sell_no (nm : ByteArray) (se ov : Int) (cl : List Cl) (ac : Option Addr) (nc cc : Nat) (hnc : nc = cl.length) (hcb : nc ≤ 30) (l : List Int) (ao : Option Addr) (n cap : Nat) (hn : n = l.length) (hnb : n ≤ 1000) (w0 : World) (hs : SliceIn w0 1 ao n cap (rowsF encI l)) (hc : SliceIn w0 2 ac nc cc (rowsF enc47 cl)) (hR : Rt se ov cl) (k : Nat) (x : Int) (hr : Right cl l) (h1 : 1 ≤ x) (hk : k < l.length) (hx : opn (se + ov) cl l k < x) (hx2 : x ≤ 100000) : FnC Try.prog 17 [.agg #[.string nm, .int .i64 se, .int .i64 ov, .slice ac nc cc], .slice ao n cap, .int .i64 ((k : Nat) : Int), .int .i64 x] w0 fun v w' => ∃ a c, v = .tuple #[.slice a 0 c, .int .i64 17] ∧ w'.ownsRow w0.heap.size 3 1 (.slice a 0 c) 0 (cellsOf encI ([])) := by
  have h := Sell_ok nm se ov cl ac nc cc hnc hcb l ao n cap hn hnb w0 hs hc hR (k : Int) x (by omega)
  have q := sell_no (se := se) (ov := ov) hr h1 hk hx
  have q2 : sellL (se + ov) cl l (k : Int) x = [] := by rw [sellL, if_neg (by rw [q]; decide)]
  rw [q, q2] at h
  exact h

theorem Cancel_back (nm : ByteArray) (se ov : Int) (cl : List Cl) (ac : Option Addr) (nc cc : Nat) (hnc : nc = cl.length) (hcb : nc ≤ 30) (l : List Int) (a1 : Option Addr) (m1 c1 : Nat) (r x : Int) (hs : sellE (se + ov) cl l r x = 0) (hm : m1 = (sellL (se + ov) cl l r x).length) (hnb : m1 ≤ 1000) (hx : -9223372036854775808 ≤ x ∧ x ≤ 9223372036854775807) (w0 : World) (hz : SliceIn w0 1 a1 m1 c1 (rowsF encI (sellL (se + ov) cl l r x))) (hc : SliceIn w0 2 ac nc cc (rowsF enc47 cl)) (hR : Rt se ov cl) : FnC Try.prog 19 [.agg #[.string nm, .int .i64 se, .int .i64 ov, .slice ac nc cc], .slice a1 m1 c1, .int .i64 r, .int .i64 x] w0 fun v w' => ∃ a c, v = .tuple #[.slice a l.length c, .int .i64 0] ∧ w'.ownsRow w0.heap.size 3 1 (.slice a l.length c) l.length (cellsOf encI l) := by
  have h := Cancel_ok nm se ov cl ac nc cc hnc hcb _ a1 m1 c1 hm hnb w0 hz hc hR r x hx
  obtain ⟨q, q2⟩ := back hR hs
  rw [q, q2] at h
  exact h

end Go.Proofs.Ytblgllngkbjfgaa
