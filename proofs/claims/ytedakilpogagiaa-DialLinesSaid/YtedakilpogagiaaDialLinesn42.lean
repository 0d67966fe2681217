/- Equator of narrow intervals, and what lies near them. -/
import Derived.Test.YtedakilpogagiaaDialLinesn41
namespace Go.Proofs.Ytedakilpogagiaa.EqN
open Go Go.RowKit Go.Proofs.YtedakilpogagiaaW.PrintWords Go.Proofs.YtedakilpogagiaaW.PrintLast Go.Proofs.YtedakilpogagiaaW.PrintMore Go.Proofs.Ytedakilpogagiaa.PAll Go.Proofs.Ytedakilpogagiaa.Base Go.Proofs.Ytedakilpogagiaa.Turn Go.Proofs.Ytedakilpogagiaa.OctT Go.Proofs.Ytedakilpogagiaa.SinT Go.Proofs.Ytedakilpogagiaa.RefT Go.Proofs.Ytedakilpogagiaa.Circ Go.Proofs.Ytedakilpogagiaa.Over Go.Proofs.Ytedakilpogagiaa.Units Go.Proofs.Ytedakilpogagiaa.Args Go.Proofs.Ytedakilpogagiaa.Vals Go.Proofs.Ytedakilpogagiaa.Cone Go.Proofs.Ytedakilpogagiaa.Arcs Go.Proofs.Ytedakilpogagiaa.ArcT Go.Proofs.Ytedakilpogagiaa.ArcSinT Go.Proofs.Ytedakilpogagiaa.NarrowT Go.Proofs.Ytedakilpogagiaa.EqT
set_option linter.unusedVariables false
set_option linter.unusedSimpArgs false
theorem S_big (n : Int) (m : Nat) (h0 : 0 ≤ n) (h1 : n < 1000000000000000) (hm : ag n = m) {q : Rat} (hq : q ≤ sinP (s1 * (m : Rat)) 20) (hs : s1 * (m : Rat) ≤ 1) : q - 1 / 1000000000000000000 ≤ S n := by
 rw [(S_arg n h0 h1).1, hm]
 obtain ⟨_, _, _, h⟩ := taylor20 (n := m) hs (sn_nonneg _)
 rw [u_eq] at h
 generalize sinT m = x at *
 generalize sinP (s1 * (m : Rat)) 20 = y at *
 grind
theorem p2 {a b c d e : Rat} (h : Nr (a - c) e) (g : Nr (b - d) e) (b0 : -1 ≤ b) (b1 : b ≤ 1) (c0 : -1 ≤ c) (c1 : c ≤ 1) : Nr (a * b - c * d) (2 * e) := by
 unfold Nr at *
 have k1 := OctT.abs_mul h.1 h.2 b0 b1
 have k2 := OctT.abs_mul c0 c1 g.1 g.2
 constructor <;> grind
theorem m1 {a c e f : Rat} (h : Nr (a - c) e) (f0 : -1 ≤ f) (f1 : f ≤ 1) : Nr (a * f - c * f) e := by
 unfold Nr at *
 have k1 := OctT.abs_mul h.1 h.2 f0 f1
 constructor <;> grind
end Go.Proofs.Ytedakilpogagiaa.EqN
