import Derived.Test.YtblmafknmeicfaaMtK
import Derived.Test.YtblmafknmeicfaaMtJ
namespace Go.Proofs.Ytblmafknmeicfaa
open Go Go.RowKit Eng
set_option linter.unusedVariables false
set_option linter.unusedSimpArgs false

set_option maxHeartbeats 4000000 in
set_option maxRecDepth 100000 in
theorem stays_law (u3 : SliceV Unit) (al : List Ai) (aao : Option Addr) (an acap : Nat) (han : an = al.length) (dl : List (ByteArray × ByteArray × Int)) (hdl : dl.length = u3.l.length) (u1 u2 : SliceV Unit) (fl : List Fa) (rl : List Ru) (rao : Option Addr) (rn rcap : Nat) (fao : Option Addr) (fn fcap : Nat) (hfn : fn = fl.length) (hrn : rn = rl.length) (tl : List (Int × SliceV Lk × Int)) (htl : tl.length = u1.l.length) (wl : List Wa) (wao : Option Addr) (wn wcap : Nat) (hwn : wn = wl.length) (w0 : World) (sA : SliceIn w0 5 aao an acap (rowsF enc88 al)) (sD : SliceIn w0 3 u3.ao u3.l.length u3.cap (rowsF enc117 dl)) (hf : SliceIn w0 9 fao fn fcap (rowsF enc52 fl)) (hr : SliceIn w0 15 rao rn rcap (rowsF enc76 rl)) (sR : SliceIn w0 3 u1.ao u1.l.length u1.cap (rowsF enc99 tl)) (sW : SliceIn w0 8 wao wn wcap (rowsF enc62 wl)) (hAi : ∀ j, j < an → AiG w0 (nth al j)) (hRu : ∀ i, i < rn → RuG w0 (nth rl i)) (hRt : ∀ i, i < u1.l.length → RtG w0 (nth tl i)) (hFa : ∀ i, i < fn → FaG (nth fl i)) (pl : List Pt) (pao : Option Addr) (pn pcap : Nat) (hpn : pn = pl.length) (hp : SliceIn w0 4 pao pn pcap (rowsF enc42 pl)) : FnC Try.prog 5 [.agg #[.slice aao an acap, .slice u3.ao u3.l.length u3.cap], .agg #[.slice fao fn fcap, .slice rao rn rcap, .slice u1.ao u1.l.length u1.cap, .slice u2.ao u2.l.length u2.cap], .agg #[.slice wao wn wcap, .slice pao pn pcap]] w0 fun v w' => v = .bool true := by
  have hpm : (pn : Int) ≤ 9223372036854775807 := by
    have q1 := hp.le; have q2 := hp.max; simp only [maxLen] at q2; omega
  have hwm : (wn : Int) ≤ 9223372036854775807 := by
    have q1 := sW.le; have q2 := sW.max; simp only [maxLen] at q2; omega
  refine fnc (N := 55) Try.func5 rfl rfl rfl ?_
  refine WC.seq ?_
  refine WC.region ?_
  refine SL.box rfl rfl rfl (fun b1 hb1 => ?_)
  refine SL.norm [_] rfl ?_
  refine SL.box rfl rfl rfl (fun b2 hb2 => ?_)
  refine SL.norm [_, _] rfl ?_
  refine SL.box rfl rfl rfl (fun b3 hb3 => ?_)
  refine SL.norm [_, _, _] rfl ?_
  refine SL.pure rfl rfl rfl (PureOp.assign rfl) ?_
  refine SL.nil_then ?_
  refine WC.seq ?_
  refine WC.seq ?_
  refine WC.region ?_
  refine SL.pure rfl rfl rfl (PureOp.fieldAddrT 1 Try.underlying47 rfl sz28 rfl rfl) ?_
  refine SL.pure rfl rfl rfl (PureOp.load (v := .slice pao pn pcap) Try.underlying28 rfl rfl (fun _ => (CellIs.cells 2 rfl rfl))) ?_
  refine SL.pure rfl rfl rfl (PureOp.len rfl Try.underlying28) ?_
  refine SL.pure rfl rfl rfl (PureOp.gtr rfl rfl) ?_
  refine SL.pure rfl rfl rfl (PureOp.move rfl) ?_
  refine SL.split 11 rfl (fun hs11 => ?_) (fun hs11 => ?_)
  · try simp only [Bool.and_eq_true, Bool.or_eq_true, Bool.not_eq_true', Bool.not_eq_false', Bool.and_eq_false_iff, Bool.or_eq_false_iff, decide_eq_true_eq, decide_eq_false_iff_not, Int.not_lt, Int.not_le, ne_eq, Decidable.not_not] at hs11
    refine SL.off rfl rfl rfl rfl rfl rfl ?_
    refine SL.off rfl rfl rfl rfl rfl rfl ?_
    refine SL.off rfl rfl rfl rfl rfl rfl ?_
    refine SL.off rfl rfl rfl rfl rfl rfl ?_
    refine SL.off rfl rfl rfl rfl rfl rfl ?_
    refine SL.off rfl rfl rfl rfl rfl rfl ?_
    refine SL.pure rfl rfl rfl (PureOp.pickT rfl rfl) ?_
    refine SL.nil_then ?_
    refine WC.condT rfl ?_
    refine WC.seq ?_
    refine WC.region ?_
    refine SL.calle rfl rfl rfl rfl rfl rfl callable7 (fun w hw => knows_ok w) ?_
    refine SL.norm [_, _, _] rfl ?_
    refine SL.pure rfl rfl rfl (PureOp.assign rfl) ?_
    refine SL.nil_then ?_
    refine WC.ret ?_
    refine QX.ret_then ?_
    refine QX.ret1 rfl rfl ?_
    intro w hw
    first | rfl | simp
  · try simp only [Bool.and_eq_true, Bool.or_eq_true, Bool.not_eq_true', Bool.not_eq_false', Bool.and_eq_false_iff, Bool.or_eq_false_iff, decide_eq_true_eq, decide_eq_false_iff_not, Int.not_lt, Int.not_le, ne_eq, Decidable.not_not] at hs11
    refine SL.ung rfl rfl rfl rfl ?_
    refine SL.pure rfl rfl rfl (PureOp.loads (vs := [.slice aao an acap, .slice u3.ao u3.l.length u3.cap]) Try.underlying39 rfl rfl (fun _ => (RowIs.cells 0 0 2 rfl rfl)) sz39) ?_
    refine SL.ung rfl rfl rfl rfl ?_
    refine SL.pure rfl rfl rfl (PureOp.loads (vs := [.slice fao fn fcap, .slice rao rn rcap, .slice u1.ao u1.l.length u1.cap, .slice u2.ao u2.l.length u2.cap]) Try.underlying27 rfl rfl (fun _ => (RowIs.cells 1 0 4 rfl rfl)) sz27) ?_
    refine SL.ung rfl rfl rfl rfl ?_
    refine SL.pure rfl rfl rfl (PureOp.fieldAddrT 0 Try.underlying47 rfl sz45 rfl rfl) ?_
    refine SL.ung rfl rfl rfl rfl ?_
    refine SL.pure rfl rfl rfl (PureOp.load (v := .slice wao wn wcap) Try.underlying45 rfl rfl (fun _ => (CellIs.cells 2 rfl rfl))) ?_
    refine SL.ung rfl rfl rfl rfl ?_
    refine SL.callv rfl rfl rfl rfl rfl rfl callable11 (fun w hw => few_any u3 al aao an acap han dl hdl u1 u2 fl rl rao rn rcap fao fn fcap hfn hrn tl htl wl wao wn wcap hwn w (sA.below hw.below) (sD.below hw.below) (hf.below hw.below) (hr.below hw.below) (sR.below hw.below) (sW.below hw.below) (fun j hj => (hAi j hj).below hw.below) (fun i hi => (hRu i hi).below hw.below) (fun i hi => (hRt i hi).below hw.below) hFa) ?_
    rintro v ⟨bf, rfl, hbf⟩
    refine SL.norm [_, _, _] rfl ?_
    refine SL.ung rfl rfl rfl rfl ?_
    refine SL.pure rfl rfl rfl (PureOp.not rfl) ?_
    refine SL.pure rfl rfl rfl (PureOp.pickF rfl rfl) ?_
    refine SL.nil_then ?_
    refine WC.cond rfl (fun h1 => ?_) (fun h1 => ?_)
    · try simp only [Bool.and_eq_true, Bool.or_eq_true, Bool.not_eq_true', Bool.not_eq_false', Bool.and_eq_false_iff, Bool.or_eq_false_iff, decide_eq_true_eq, decide_eq_false_iff_not, Int.not_lt, Int.not_le, ne_eq, Decidable.not_not] at h1
      refine WC.seq ?_
      refine WC.region ?_
      refine SL.calle rfl rfl rfl rfl rfl rfl callable7 (fun w hw => knows_ok w) ?_
      refine SL.norm [_, _, _] rfl ?_
      refine SL.pure rfl rfl rfl (PureOp.assign rfl) ?_
      refine SL.nil_then ?_
      refine WC.ret ?_
      refine QX.ret_then ?_
      refine QX.ret1 rfl rfl ?_
      intro w hw
      first | rfl | simp
    · try simp only [Bool.and_eq_true, Bool.or_eq_true, Bool.not_eq_true', Bool.not_eq_false', Bool.and_eq_false_iff, Bool.or_eq_false_iff, decide_eq_true_eq, decide_eq_false_iff_not, Int.not_lt, Int.not_le, ne_eq, Decidable.not_not] at h1
      have hfw := hbf (by simpa using h1)
      obtain ⟨⟨hf1, hf2, hf3, hf4⟩, hdp, hf6⟩ := hfw
      have hfb : fn ≤ 1000 := by omega
      have hrb : rn ≤ 1000 := by omega
      have hab : an ≤ 1000 := by omega
      have hpb : pn ≤ 1000 := by omega
      have hwb : wn ≤ 1000 := by omega
      have hcm : ∀ r ∈ rl, SliceIn w0 1 r.2.2.1.ao r.2.2.1.l.length r.2.2.1.cap (rowsF encI r.2.2.1.l) := fun r hr_ => by
        obtain ⟨i, hi, rfl⟩ := mem_nth hr_
        exact (hRu i (by omega)).i
      have hsh : ∀ a ∈ al, SliceIn w0 2 a.2.2.2.2.ao a.2.2.2.2.l.length a.2.2.2.2.cap (rowsF enc133 a.2.2.2.2.l) := fun a ha => by
        obtain ⟨i, hi, rfl⟩ := mem_nth ha
        exact (hAi i (by omega)).sh
      have hza : ∀ a ∈ al, ZnOk a.2.2.2.1 a.2.2.2.2.l a.2.2.2.2.l.length := fun a ha => by
        obtain ⟨i, hi, rfl⟩ := mem_nth ha
        exact hf6 i (by omega)
      have hof := hof_zn hza
      refine WC.skip ?_
      refine QX.then_ ?_
      refine WC.seq ?_
      refine WC.quiet rfl (by kernel_rfl) ?_
      refine SQ.pure rfl rfl rfl (PureOp.loads (vs := [.slice aao an acap, .slice u3.ao u3.l.length u3.cap]) Try.underlying39 rfl rfl (fun _ => (RowIs.cells 0 0 2 rfl rfl)) sz39) ?_
      refine SQ.pure rfl rfl rfl (PureOp.loads (vs := [.slice fao fn fcap, .slice rao rn rcap, .slice u1.ao u1.l.length u1.cap, .slice u2.ao u2.l.length u2.cap]) Try.underlying27 rfl rfl (fun _ => (RowIs.cells 1 0 4 rfl rfl)) sz27) ?_
      refine SQ.pure rfl rfl rfl (PureOp.fieldAddrT 0 Try.underlying47 rfl sz45 rfl rfl) ?_
      refine SQ.pure rfl rfl rfl (PureOp.load (v := .slice wao wn wcap) Try.underlying45 rfl rfl (fun _ => (CellIs.cells 2 rfl rfl))) ?_
      refine SQ.pure rfl rfl rfl (PureOp.fieldAddrT 1 Try.underlying47 rfl sz28 rfl rfl) ?_
      refine SQ.pure rfl rfl rfl (PureOp.load (v := .slice pao pn pcap) Try.underlying28 rfl rfl (fun _ => (CellIs.cells 2 rfl rfl))) ?_
      refine SQ.calle rfl rfl rfl rfl rfl rfl callable14 (fun w hw => stays_ok u3 al aao an acap han u1 u2 fl rl rao rn rcap fao fn fcap hfn hrn w (sA.below hw.below) hab (hf.below hw.below) (hr.below hw.below) hfb hrb (fun r hr => (hcm r hr).below hw.below) wl wao wn wcap hwn (sW.below hw.below) hwb hdp (fun a ha => (hsh a ha).below hw.below) hof pl pao pn pcap hpn (hp.below hw.below) hpb) ?_
      refine SQ.pure rfl rfl rfl (PureOp.loads (vs := [.slice aao an acap, .slice u3.ao u3.l.length u3.cap]) Try.underlying39 rfl rfl (fun _ => (RowIs.cells 0 0 2 rfl rfl)) sz39) ?_
      refine SQ.pure rfl rfl rfl (PureOp.loads (vs := [.slice fao fn fcap, .slice rao rn rcap, .slice u1.ao u1.l.length u1.cap, .slice u2.ao u2.l.length u2.cap]) Try.underlying27 rfl rfl (fun _ => (RowIs.cells 1 0 4 rfl rfl)) sz27) ?_
      refine SQ.pure rfl rfl rfl (PureOp.fieldAddrT 0 Try.underlying47 rfl sz45 rfl rfl) ?_
      refine SQ.pure rfl rfl rfl (PureOp.load (v := .slice wao wn wcap) Try.underlying45 rfl rfl (fun _ => (CellIs.cells 2 rfl rfl))) ?_
      refine SQ.pure rfl rfl rfl (PureOp.fieldAddrT 1 Try.underlying47 rfl sz28 rfl rfl) ?_
      refine SQ.pure rfl rfl rfl (PureOp.load (v := .slice pao pn pcap) Try.underlying28 rfl rfl (fun _ => (CellIs.cells 2 rfl rfl))) ?_
      refine SQ.calle rfl rfl rfl rfl rfl rfl callable15 (fun w hw => rstays_ok u3 al aao an acap han u1 u2 fl rl rao rn rcap fao fn fcap hfn hrn w (sA.below hw.below) hab (hf.below hw.below) (hr.below hw.below) hfb hrb (fun r hr => (hcm r hr).below hw.below) wl wao wn wcap hwn (sW.below hw.below) hwb hdp (fun a ha => (hsh a ha).below hw.below) hza pl pao pn pcap hpn (hp.below hw.below) hpb) ?_
      refine SQ.pure rfl rfl rfl (PureOp.eql rfl rfl) ?_
      refine SQ.pure rfl rfl rfl (PureOp.move rfl) ?_
      refine SQ.newg 35 true rfl ?_
      refine SQ.gpure (c := 1) rfl rfl rfl rfl rfl rfl rfl (PureOp.loads (vs := [.slice aao an acap, .slice u3.ao u3.l.length u3.cap]) Try.underlying39 rfl rfl (fun _ => (RowIs.cells 0 0 2 rfl rfl)) sz39) ?_
      refine SQ.gpure (c := 1) rfl rfl rfl rfl rfl rfl rfl (PureOp.loads (vs := [.slice fao fn fcap, .slice rao rn rcap, .slice u1.ao u1.l.length u1.cap, .slice u2.ao u2.l.length u2.cap]) Try.underlying27 rfl rfl (fun _ => (RowIs.cells 1 0 4 rfl rfl)) sz27) ?_
      refine SQ.gpure (c := 1) rfl rfl rfl rfl rfl rfl rfl (PureOp.fieldAddrT 0 Try.underlying47 rfl sz45 rfl rfl) ?_
      refine SQ.gpure (c := 1) rfl rfl rfl rfl rfl rfl rfl (PureOp.load (v := .slice wao wn wcap) Try.underlying45 rfl rfl (fun _ => (CellIs.cells 2 rfl rfl))) ?_
      refine SQ.gpure (c := 1) rfl rfl rfl rfl rfl rfl rfl (PureOp.fieldAddrT 1 Try.underlying47 rfl sz28 rfl rfl) ?_
      refine SQ.gpure (c := 1) rfl rfl rfl rfl rfl rfl rfl (PureOp.load (v := .slice pao pn pcap) Try.underlying28 rfl rfl (fun _ => (CellIs.cells 2 rfl rfl))) ?_
      refine SQ.gcalle (c := 1) rfl rfl rfl rfl rfl rfl rfl rfl rfl rfl callable16 (by intro hg; simp [gval] at hg; exact (fun w hw => check_ok u3 al aao an acap han u1 u2 fl rl rao rn rcap fao fn fcap hfn hrn w (sA.below hw.below) hab (hf.below hw.below) (hr.below hw.below) hfb hrb (fun r hr => (hcm r hr).below hw.below) wl wao wn wcap hwn (sW.below hw.below) hwb hdp (fun a ha => (hsh a ha).below hw.below) hof pl pao pn pcap hpn (hp.below hw.below) hpb)) ?_
      refine SQ.gpure (c := 1) rfl rfl rfl rfl rfl rfl rfl (PureOp.loads (vs := [.slice aao an acap, .slice u3.ao u3.l.length u3.cap]) Try.underlying39 rfl rfl (fun _ => (RowIs.cells 0 0 2 rfl rfl)) sz39) ?_
      refine SQ.gpure (c := 1) rfl rfl rfl rfl rfl rfl rfl (PureOp.loads (vs := [.slice fao fn fcap, .slice rao rn rcap, .slice u1.ao u1.l.length u1.cap, .slice u2.ao u2.l.length u2.cap]) Try.underlying27 rfl rfl (fun _ => (RowIs.cells 1 0 4 rfl rfl)) sz27) ?_
      refine SQ.gpure (c := 1) rfl rfl rfl rfl rfl rfl rfl (PureOp.fieldAddrT 0 Try.underlying47 rfl sz45 rfl rfl) ?_
      refine SQ.gpure (c := 1) rfl rfl rfl rfl rfl rfl rfl (PureOp.load (v := .slice wao wn wcap) Try.underlying45 rfl rfl (fun _ => (CellIs.cells 2 rfl rfl))) ?_
      refine SQ.gpure (c := 1) rfl rfl rfl rfl rfl rfl rfl (PureOp.fieldAddrT 1 Try.underlying47 rfl sz28 rfl rfl) ?_
      refine SQ.gpure (c := 1) rfl rfl rfl rfl rfl rfl rfl (PureOp.load (v := .slice pao pn pcap) Try.underlying28 rfl rfl (fun _ => (CellIs.cells 2 rfl rfl))) ?_
      refine SQ.gcalle (c := 1) rfl rfl rfl rfl rfl rfl rfl rfl rfl rfl callable17 (by intro hg; simp [gval] at hg; exact (fun w hw => rcheck_ok u3 al aao an acap han u1 u2 fl rl rao rn rcap fao fn fcap hfn hrn w (sA.below hw.below) hab (hf.below hw.below) (hr.below hw.below) hfb hrb (fun r hr => (hcm r hr).below hw.below) wl wao wn wcap hwn (sW.below hw.below) hwb hdp (fun a ha => (hsh a ha).below hw.below) hza pl pao pn pcap hpn (hp.below hw.below) hpb)) ?_
      refine SQ.gpure (c := 1) rfl rfl rfl rfl rfl rfl rfl (PureOp.eql rfl rfl) ?_
      refine SQ.pure rfl rfl rfl (PureOp.and_ rfl rfl rfl rfl) ?_
      refine SQ.pure rfl rfl rfl (PureOp.move rfl) ?_
      refine SQ.newg 52 true rfl ?_
      refine SQ.gcalle (c := 2) rfl rfl rfl rfl rfl rfl rfl rfl rfl rfl callable7 (by intro hg; simp [gval] at hg; exact (fun w hw => knows_ok w)) ?_
      refine SQ.pure rfl rfl rfl (PureOp.and_ rfl rfl rfl rfl) ?_
      refine SQ.pure rfl rfl rfl (PureOp.assign rfl) ?_
      refine SQ.nil_then ?_
      refine WC.ret ?_
      refine QX.ret1 rfl rfl ?_
      intro w hw
      first | rfl | simp

end Go.Proofs.Ytblmafknmeicfaa
