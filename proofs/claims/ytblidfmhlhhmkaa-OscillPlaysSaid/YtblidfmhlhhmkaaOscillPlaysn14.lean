/- The law OscillPlays: its parameters opened as data, and its pure statement. -/
import Derived.Test.YtblidfmhlhhmkaaOscillPlaysn13
import Derived.Test.YtblidfmhlhhmkaaOscillPlaysn11
import Derived.Test.YtblidfmhlhhmkaaOscillPlaysn12
namespace Go.Proofs.Ytblidfmhlhhmkaa.PAll
open Go.RowKit Go.Proofs.YtblidfmhlhhmkaaW.PrintWords Go.Proofs.YtblidfmhlhhmkaaW.PrintLast Go.Proofs.YtblidfmhlhhmkaaW.PrintMore Go.Proofs.Ytblidfmhlhhmkaa.Opn
section
variable {H : Type} {enc : TypeId × Value → H} {w : World} {base : Nat} {spare : Nat → Bool} {held : Bool}
def ok41 (x : S41) : Prop := I64 x.f0 ∧ I64 x.f1
theorem opens_41 : Opens enc Try.prog w base spare held 41 k41 ok41 := by
  intro fuel cs x h
  have hl := struct_len Try.underlying41 h
  replace hl : cs.length = 2 := hl.trans (by kernel_rfl)
  obtain ⟨n0, y0, g0⟩ := field_is Try.underlying41 h 0 3 0 1 rfl (by kernel_rfl)
  obtain ⟨v0, K0, o0⟩ := (opens_int (by kernel_rfl)) n0 _ y0 g0
  obtain ⟨n1, y1, g1⟩ := field_is Try.underlying41 h 1 3 1 1 rfl (by kernel_rfl)
  obtain ⟨v1, K1, o1⟩ := (opens_int (by kernel_rfl)) n1 _ y1 g1
  refine ⟨⟨v0, v1⟩, ?_, ⟨o0, o1⟩⟩
  have hk := (pair_at K0 K1)
  rw [show 1 + 1 = 2 from rfl, whole_take hl] at hk
  exact hk
end
def PureX : Prop := ∀ (a0 : Int) (l1 : List Int) (l2 : List S41), I64 a0 → ListOk I64 l1 → ListOk ok41 l2 → (∃ k, ephemerislaw2_OscillPlays.f k a0 l1 l2 = some true) ∨ ∃ k, PBad.ephemerislaw2_OscillPlays.f k a0 l1 l2 = some true
end Go.Proofs.Ytblidfmhlhhmkaa.PAll
