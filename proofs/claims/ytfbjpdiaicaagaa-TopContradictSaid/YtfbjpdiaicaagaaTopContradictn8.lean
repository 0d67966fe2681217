/- Short words for the printed texts: a block's fact through draws, stores elsewhere and new blocks; Below; blocks that differ. -/
import Derived.Test.YtfbjpdiaicaagaaTopContradictn2
namespace Go.Proofs.Ytfbjpdiaicaagaa.Sq
open Go.RowKit Go.Proofs.YtfbjpdiaicaagaaW.PrintWords Go.Proofs.YtfbjpdiaicaagaaW.PrintLast Go.Proofs.YtfbjpdiaicaagaaW.PrintMore
theorem be_ {w W0 W : World} (HB : Aside0 (Below w.heap.size w W0)) (h : Below w.heap.size w W0 → Below w.heap.size w W := by (intro h; (repeat (first | (with_reducible first | exact h | apply below_alloc | apply pw_below_drewN | apply below_drew1 | refine below_set ?_ (Aside0.out (by assumption))) | exact h)))) : Aside0 (Below w.heap.size w W) := ⟨h HB.out⟩
theorem bs_ {w W0 W w2 : World} (HB : Aside0 (Below w.heap.size w W0)) (hb : Below W.heap.size W w2) (h : Below w.heap.size w W0 → Below w.heap.size w W := by (intro h; (repeat (first | (with_reducible first | exact h | apply below_alloc | apply pw_below_drewN | apply below_drew1 | refine below_set ?_ (Aside0.out (by assumption))) | exact h)))) : Aside0 (Below w.heap.size w w2) := ⟨below_step (h HB.out) hb⟩
end Go.Proofs.Ytfbjpdiaicaagaa.Sq
