/- Small laws for the pure statements of this seat: whole numbers that do not wrap, suffixes of lists, rounds. -/
import Derived.Test.YtblidfmhlhhmkaaOscillPlaysn13
namespace Go.Proofs.Ytblidfmhlhhmkaa.Base
open Go.RowKit Go.Proofs.YtblidfmhlhhmkaaW.PrintWords Go.Proofs.Ytblidfmhlhhmkaa.Opn
theorem w64 {x : Int} (h1 : -9223372036854775808 ≤ x) (h2 : x ≤ 9223372036854775807) : wrap64 x = x := by unfold wrap64; omega
/-- A suffix of a list, by the index at which it begins. -/
theorem drop_cons {α : Type} {l : List α} {i : Int} {s : α} {t : List α} (z : α) (h0 : 0 ≤ i) (h : l.drop i.toNat = s :: t) : i < (l.length : Int) ∧ l.getD i.toNat z = s ∧ l.drop (i + 1).toNat = t := by
  have hlt : i.toNat < l.length := by
    rcases Nat.lt_or_ge i.toNat l.length with hlt | hge
    · exact hlt
    · rw [List.drop_eq_nil_of_le hge] at h; cases h
  rw [List.drop_eq_getElem_cons hlt] at h
  injection h with h1 h2
  refine ⟨by omega, ?_, ?_⟩
  · rw [List.getD_eq_getElem?_getD, List.getElem?_eq_getElem hlt]; exact h1
  · rw [show (i + 1).toNat = i.toNat + 1 by omega]; exact h2
theorem drop_nil {α : Type} {l : List α} {i : Int} (h0 : 0 ≤ i) (h : l.drop i.toNat = []) : (l.length : Int) ≤ i := by
  have := List.drop_eq_nil_iff.1 h
  omega
theorem ev_step {α : Type} {g f : Nat → Option α} {r : α} (n : Nat) (h : ∀ k, g (k + n) = f k) (hf : Ev f r) : Ev g r := by
  obtain ⟨K, hK⟩ := hf
  refine ⟨K + n, fun k hk => ?_⟩
  obtain ⟨m, rfl⟩ : ∃ m, k = m + n := ⟨k - n, by omega⟩
  rw [h]
  exact hK m (by omega)
theorem ev_some {α : Type} {g : Nat → Option α} {r : α} (n : Nat) (h : ∀ k, g (k + n) = some r) : Ev g r := ev_step (f := fun _ => some r) n h ⟨0, fun _ _ => rfl⟩
theorem ev_k {α : Type} {g : Nat → Option α} {r : α} (h : Ev g r) : ∃ k, g k = some r := by
  obtain ⟨K, hK⟩ := h
  exact ⟨K, hK K (Nat.le_refl _)⟩
theorem ev_bind {α β : Type} {g : Nat → Option α} {f : Nat → α → Option β} {a : α} {r : β} (h : Ev g a) (k : Ev (fun n => f n a) r) : Ev (fun n => (g n).bind (f n)) r := Ev.bind h k
end Go.Proofs.Ytblidfmhlhhmkaa.Base
