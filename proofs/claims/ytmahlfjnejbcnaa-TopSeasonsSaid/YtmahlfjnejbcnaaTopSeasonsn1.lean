/- Regions that draw their order, where a load and a last store may come up in either order: each order is walked by itself, what follows is shown once. -/
import Derived.Test.YtmahlfjnejbcnaaTopSeasonsn0
import Derived.Laws.PanicsMore
import Derived.Laws.Entries
namespace Go.Proofs.Ytmahlfjnejbcnaa.More2
open YtmahlfjnejbcnaaW.PrintLast
section
variable {P : Program} {ops : Array Oper} {Q : Exit → Act → World → Prop} {md : Region.Mode} {S : World → Prop} {ds : List Nat}
theorem mergeQ_ {G T : Prop} (main : G → T) (cont : G) : T := main cont
theorem consQ_ {fuel : Nat} {listed : Array Bool} {a : Act} {w : World} {i : Nat} {o : Oper} {rs : List Nat} {N : Option Tmp} (l' : Array Bool) (ho : ops[i]? = some o) (hN : o.dst = N) (hl : (listed.setIfInBounds i true == l') = true)
  (h : ∀ K' : Act → World → Prop, Shut (∀ a' w', (S w → S w') → wpAnyLast P md ops Q S ds fuel l' a' w' → K' a' w') → if Region.wanted o (yielded ops a.tmps) = true then Oper.wp P o a w K' Q else K' (a.put N undef) w)
  (hs : AllReadyL P md ops Q S ds fuel listed a w rs) : AllReadyL P md ops Q S ds fuel listed a w (i :: rs) := fun j hj => by
 have hl' : listed.setIfInBounds i true = l' := by simpa using hl
 subst hl'
 subst hN
 rcases List.mem_cons.1 hj with rfl | hj
 ·exact wpOp_step ho (fun K' hK => h K' (fun a w hS hW => hK a w ⟨fun _ => hS, hW⟩))
 ·exact hs j hj
theorem consL_ {fuel : Nat} {listed : Array Bool} {a : Act} {w : World} {i : Nat} {o : Oper} {rs : List Nat} {N : Option Tmp} (l' : Array Bool) (ho : ops[i]? = some o) (hN : o.dst = N) (hl : (listed.setIfInBounds i true == l') = true) (hd : i ∈ ds)
  (h : ∀ K' : Act → World → Prop, Shut (∀ a' w', wpAnyLast P md ops Q S ds fuel l' a' w' → K' a' w') → if Region.wanted o (yielded ops a.tmps) = true then Oper.wp P o a w K' Q else K' (a.put N undef) w)
  (hs : AllReadyL P md ops Q S ds fuel listed a w rs) : AllReadyL P md ops Q S ds fuel listed a w (i :: rs) := fun j hj => by
 have hl' : listed.setIfInBounds i true = l' := by simpa using hl
 subst hl'
 subst hN
 rcases List.mem_cons.1 hj with rfl | hj
 ·exact wpOp_step ho (fun K' hK => h K' (fun a w hW => hK a w ⟨fun hn => absurd hd hn, hW⟩))
 ·exact hs j hj
theorem readyQ_ (rs : List Nat) {fuel : Nat} {listed : Array Bool} {a : Act} {w : World} (hr : (Region.ready md ops listed == rs) = true) (hne : rs ≠ [])
  (h : AllReadyL P md ops Q S ds fuel listed a w rs) : wpAnyLast P md ops Q S ds (fuel + 1) listed a w := wpAnyLast_ready (by simpa using hr) hne h
end
theorem cellSS_ (w : World) (a : Addr) (v v' : Value) (h : (w.cell? a).isSome = true) : ((w.setCell a v).setCell a v').cell? a = some v' := World.cell?_setCell_same' _ a v' (by rw [World.cell?_setCell_same' w a v h]; rfl)
theorem tdiv2e18_ (b : Int) : Int.tdiv 2000000000000000000 b = 2000000000000000000 / b := Int.tdiv_eq_ediv_of_nonneg (by omega)
theorem tdiv1e18_ (b : Int) : Int.tdiv 1000000000000000000 b = 1000000000000000000 / b := Int.tdiv_eq_ediv_of_nonneg (by omega)
open Go.RowKit Go.Proofs.YtmahlfjnejbcnaaW.PrintWords in
theorem arrIdx_ {P : Program} {t e : TypeId} {n m : Nat} (ht : P.underlying t = some (.array n e)) (hs : ∀ w, (Go.sizeOf e).run P w = .ok m w) (ha : ∀ w, (Go.isAgg e).run P w = .ok true w)
  (cs : Array Value) (j : Int) (h0 : 0 ≤ j) (h1 : j < (n : Int)) (w : World) :
  (Instr.index t (.agg cs) (.int .i64 j)).run P w = .ok (.agg (cs.extract (j.toNat * m) (j.toNat * m + m))) w := by
 have hn : 0 ≤ j ∧ j < (n : Int) := ⟨h0, h1⟩
 simp [Instr.index, run_underlying ht, asIntOf, hn, go_sem, hs, ha, part]
open Go.RowKit Go.Proofs.YtmahlfjnejbcnaaW.PrintWords in
theorem arrIdx42_ {P : Program} {t e : TypeId} (ht : P.underlying t = some (.array 4 e)) (hs : ∀ w, (Go.sizeOf e).run P w = .ok 2 w) (ha : ∀ w, (Go.isAgg e).run P w = .ok true w)
  (a0 b0 a1 b1 a2 b2 a3 b3 : Int) (j : Int) (h0 : 0 ≤ j) (h1 : j < (4 : Int)) (w : World) :
  (Instr.index t (.agg #[.int .i64 a0, .int .i64 b0, .int .i64 a1, .int .i64 b1, .int .i64 a2, .int .i64 b2, .int .i64 a3, .int .i64 b3]) (.int .i64 j)).run P w = .ok (.agg #[.int .i64 (rd [a0, a1, a2, a3] j), .int .i64 (rd [b0, b1, b2, b3] j)]) w := by
 rw [arrIdx_ ht hs ha _ j h0 h1]
 obtain rfl | rfl | rfl | rfl : j = 0 ∨ j = 1 ∨ j = 2 ∨ j = 3 := by omega
 all_goals rfl
open Go.RowKit Go.Proofs.YtmahlfjnejbcnaaW.PrintWords in
theorem arrIdx32_ {P : Program} {t e : TypeId} (ht : P.underlying t = some (.array 3 e)) (hs : ∀ w, (Go.sizeOf e).run P w = .ok 2 w) (ha : ∀ w, (Go.isAgg e).run P w = .ok true w)
  (a0 b0 a1 b1 a2 b2 : Int) (j : Int) (h0 : 0 ≤ j) (h1 : j < (3 : Int)) (w : World) :
  (Instr.index t (.agg #[.int .i64 a0, .int .i64 b0, .int .i64 a1, .int .i64 b1, .int .i64 a2, .int .i64 b2]) (.int .i64 j)).run P w = .ok (.agg #[.int .i64 (rd [a0, a1, a2] j), .int .i64 (rd [b0, b1, b2] j)]) w := by
 rw [arrIdx_ ht hs ha _ j h0 h1]
 obtain rfl | rfl | rfl : j = 0 ∨ j = 1 ∨ j = 2 := by omega
 all_goals rfl
end Go.Proofs.Ytmahlfjnejbcnaa.More2
