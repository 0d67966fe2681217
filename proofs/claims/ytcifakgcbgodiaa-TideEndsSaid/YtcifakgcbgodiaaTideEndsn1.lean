/- Regions that draw their order, where a load and a last store may come up in either order: each order is walked by itself, what follows is shown once. -/
import Derived.Test.YtcifakgcbgodiaaTideEndsn0
import Derived.Laws.PanicsMore
import Derived.Laws.Entries
namespace Go.Proofs.Ytcifakgcbgodiaa.More2
open YtcifakgcbgodiaaW.PrintLast
section
variable {P : Program} {ops : Array Oper} {Q : Exit → Act → World → Prop} {md : Region.Mode} {S : World → Prop} {ds : List Nat}
theorem mergeQ_ {G T : Prop} (main : G → T) (cont : G) : T := main cont
theorem consQ_ {fuel : Nat} {listed : Array Bool} {a : Act} {w : World} {i : Nat} {o : Oper} {rs : List Nat} {N : Option Tmp} (l' : Array Bool) (ho : ops[i]? = some o) (hN : o.dst = N) (hl : (listed.setIfInBounds i true == l') = true)
  (h : ∀ K' : Act → World → Prop, Shut (∀ a' w', (S w → S w') → wpAnyLast P md ops Q S ds fuel l' a' w' → K' a' w') → if Region.wanted o (yielded ops a.tmps) = true then Oper.wp P o a w K' Q else K' (a.put N undef) w)
  (hs : AllReadyL P md ops Q S ds fuel listed a w rs) : AllReadyL P md ops Q S ds fuel listed a w (i :: rs) := fun j hj => by
 have hl' : listed.setIfInBounds i true = l' := by simpa using hl
 subst hl'
 subst hN
 rcases List.mem_cons.1 hj with rfl | hj
 ·exact wpOp_step ho (fun K' hK => h K' (fun a w hS hW => hK a w ⟨fun _ => hS, hW⟩))
 ·exact hs j hj
theorem consL_ {fuel : Nat} {listed : Array Bool} {a : Act} {w : World} {i : Nat} {o : Oper} {rs : List Nat} {N : Option Tmp} (l' : Array Bool) (ho : ops[i]? = some o) (hN : o.dst = N) (hl : (listed.setIfInBounds i true == l') = true) (hd : i ∈ ds)
  (h : ∀ K' : Act → World → Prop, Shut (∀ a' w', wpAnyLast P md ops Q S ds fuel l' a' w' → K' a' w') → if Region.wanted o (yielded ops a.tmps) = true then Oper.wp P o a w K' Q else K' (a.put N undef) w)
  (hs : AllReadyL P md ops Q S ds fuel listed a w rs) : AllReadyL P md ops Q S ds fuel listed a w (i :: rs) := fun j hj => by
 have hl' : listed.setIfInBounds i true = l' := by simpa using hl
 subst hl'
 subst hN
 rcases List.mem_cons.1 hj with rfl | hj
 ·exact wpOp_step ho (fun K' hK => h K' (fun a w hW => hK a w ⟨fun hn => absurd hd hn, hW⟩))
 ·exact hs j hj
theorem readyQ_ (rs : List Nat) {fuel : Nat} {listed : Array Bool} {a : Act} {w : World} (hr : (Region.ready md ops listed == rs) = true) (hne : rs ≠ [])
  (h : AllReadyL P md ops Q S ds fuel listed a w rs) : wpAnyLast P md ops Q S ds (fuel + 1) listed a w := wpAnyLast_ready (by simpa using hr) hne h
end
theorem cellSS_ (w : World) (a : Addr) (v v' : Value) (h : (w.cell? a).isSome = true) : ((w.setCell a v).setCell a v').cell? a = some v' := World.cell?_setCell_same' _ a v' (by rw [World.cell?_setCell_same' w a v h]; rfl)
theorem tdiv2e18_ (b : Int) : Int.tdiv 2000000000000000000 b = 2000000000000000000 / b := Int.tdiv_eq_ediv_of_nonneg (by omega)
theorem tdiv1e18_ (b : Int) : Int.tdiv 1000000000000000000 b = 1000000000000000000 / b := Int.tdiv_eq_ediv_of_nonneg (by omega)
end Go.Proofs.Ytcifakgcbgodiaa.More2
