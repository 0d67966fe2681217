/- Small laws for the pure statements of this seat: whole numbers that do not wrap, suffixes of lists, rounds. -/
import Derived.Test.YtedakilpogagiaaSharpenEarliersn21
namespace Go.Proofs.Ytedakilpogagiaa.Base
open Go.RowKit YtedakilpogagiaaW.PrintWords Opn
theorem w64 {x : Int} (h1 : -9223372036854775808 ≤ x) (h2 : x ≤ 9223372036854775807) : wrap64 x = x := by unfold wrap64; omega
theorem ev_step {α : Type} {g f : Nat → Option α} {r : α} (n : Nat) (h : ∀ k, g (k + n) = f k) (hf : Ev f r) : Ev g r := by
 obtain ⟨K, hK⟩ := hf
 refine ⟨K + n, fun k hk => ?_⟩
 obtain ⟨m, rfl⟩ : ∃ m, k = m + n := ⟨k - n, by omega⟩
 rw [h]
 exact hK m (by omega)
theorem ev_some {α : Type} {g : Nat → Option α} {r : α} (n : Nat) (h : ∀ k, g (k + n) = some r) : Ev g r := ev_step (f := fun _ => some r) n h ⟨0, fun _ _ => rfl⟩
theorem ev_k {α : Type} {g : Nat → Option α} {r : α} (h : Ev g r) : ∃ k, g k = some r := by
 obtain ⟨K, hK⟩ := h
 exact ⟨K, hK K (Nat.le_refl _)⟩
theorem ev_bind {α β : Type} {g : Nat → Option α} {f : Nat → α → Option β} {a : α} {r : β} (h : Ev g a) (k : Ev (fun n => f n a) r) : Ev (fun n => (g n).bind (f n)) r := Ev.bind h k
end Go.Proofs.Ytedakilpogagiaa.Base
