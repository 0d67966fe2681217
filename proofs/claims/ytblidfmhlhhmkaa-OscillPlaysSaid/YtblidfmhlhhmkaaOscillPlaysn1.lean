/- Regions that draw their order, where a load and a last store may come up in either order: each order is walked by itself, what follows is shown once. -/
import Derived.Test.YtblidfmhlhhmkaaOscillPlaysn0
import Derived.Laws.PanicsMore
import Derived.Laws.Entries
namespace Go.Proofs.Ytblidfmhlhhmkaa.More2
open Go.Proofs.YtblidfmhlhhmkaaW.PrintLast
section
end
theorem cellSS_ (w : World) (a : Addr) (v v' : Value) (h : (w.cell? a).isSome = true) : ((w.setCell a v).setCell a v').cell? a = some v' := World.cell?_setCell_same' _ a v' (by rw [World.cell?_setCell_same' w a v h]; rfl)
theorem tdiv2e18_ (b : Int) : Int.tdiv 2000000000000000000 b = 2000000000000000000 / b := Int.tdiv_eq_ediv_of_nonneg (by omega)
theorem tdiv1e18_ (b : Int) : Int.tdiv 1000000000000000000 b = 1000000000000000000 / b := Int.tdiv_eq_ediv_of_nonneg (by omega)
end Go.Proofs.Ytblidfmhlhhmkaa.More2
