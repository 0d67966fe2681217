/- The law SourceMoves: its parameters opened as data, and its pure statement. -/
import Derived.Test.YtcmgfhfnfkelfaaSourceMovesn10
import Derived.Test.YtcmgfhfnfkelfaaSourceMovesn9
namespace Go.Proofs.Ytcmgfhfnfkelfaa.PAll
open Go.RowKit Go.Proofs.YtcmgfhfnfkelfaaW.PrintWords Go.Proofs.YtcmgfhfnfkelfaaW.PrintLast Go.Proofs.YtcmgfhfnfkelfaaW.PrintMore Go.Proofs.Ytcmgfhfnfkelfaa.Opn
section
variable {H : Type} {enc : TypeId × Value → H} {w : World} {base : Nat} {spare : Nat → Bool} {held : Bool}
def ok36 (x : S36) : Prop := I64 x.f0 ∧ I64 x.f1
theorem opens_36 : Opens enc Try.prog w base spare held 36 k36 ok36 := by
  intro fuel cs x h
  have hl := struct_len Try.underlying36 h
  replace hl : cs.length = 2 := hl.trans (by kernel_rfl)
  obtain ⟨n0, y0, g0⟩ := field_is Try.underlying36 h 0 3 0 1 rfl (by kernel_rfl)
  obtain ⟨v0, K0, o0⟩ := (opens_int (by kernel_rfl)) n0 _ y0 g0
  obtain ⟨n1, y1, g1⟩ := field_is Try.underlying36 h 1 3 1 1 rfl (by kernel_rfl)
  obtain ⟨v1, K1, o1⟩ := (opens_int (by kernel_rfl)) n1 _ y1 g1
  refine ⟨⟨v0, v1⟩, ?_, ⟨o0, o1⟩⟩
  have hk := (pair_at K0 K1)
  rw [show 1 + 1 = 2 from rfl, whole_take hl] at hk
  exact hk
def ok56 (x : S56) : Prop := I64 x.f0 ∧ ok36 x.f1
theorem opens_56 : Opens enc Try.prog w base spare held 56 k56 ok56 := by
  intro fuel cs x h
  have hl := struct_len Try.underlying56 h
  replace hl : cs.length = 3 := hl.trans (by kernel_rfl)
  obtain ⟨n0, y0, g0⟩ := field_is Try.underlying56 h 0 3 0 1 rfl (by kernel_rfl)
  obtain ⟨v0, K0, o0⟩ := (opens_int (by kernel_rfl)) n0 _ y0 g0
  obtain ⟨n1, y1, g1⟩ := field_is Try.underlying56 h 1 36 1 2 rfl (by kernel_rfl)
  obtain ⟨v1, K1, o1⟩ := opens_36 n1 _ y1 g1
  refine ⟨⟨v0, v1⟩, ?_, ⟨o0, o1⟩⟩
  have hk := (pair_at K0 K1)
  rw [show 1 + 2 = 3 from rfl, whole_take hl] at hk
  exact hk
end
def PureX : Prop := ∀ (a0 : Int) (l1 : List S56) (a2 : Int), I64 a0 → ListOk ok56 l1 → I64 a2 → ∃ k, ephemerislaw2_SourceMoves.f k a0 l1 a2 = some true
end Go.Proofs.Ytcmgfhfnfkelfaa.PAll
