/- The law LinkOffsets: its parameters opened as data, and its pure statement. -/
import Derived.Test.YtcmgfhfnfkelfaaOpen
import Derived.Test.YtcmgfhfnfkelfaaPLinkOffsetsx
namespace Go.Proofs.Ytcmgfhfnfkelfaa.PLinkOffsets
open Go.RowKit Go.Proofs.YtcmgfhfnfkelfaaW.PrintWords Go.Proofs.YtcmgfhfnfkelfaaW.PrintLast Go.Proofs.YtcmgfhfnfkelfaaW.PrintMore Go.Proofs.Ytcmgfhfnfkelfaa.Opn
section
variable {H : Type} {enc : TypeId × Value → H} {w : World} {base : Nat} {spare : Nat → Bool} {held : Bool}
def ok36 (x : S36) : Prop := I64 x.f0 ∧ I64 x.f1
theorem opens_36 : Opens enc Try.prog w base spare held 36 k36 ok36 := by
  intro fuel cs x h
  have hl := struct_len Try.underlying36 h
  replace hl : cs.length = 2 := hl.trans (by kernel_rfl)
  obtain ⟨n0, y0, g0⟩ := field_is Try.underlying36 h 0 3 0 1 rfl (by kernel_rfl)
  obtain ⟨v0, K0, o0⟩ := (opens_int (by kernel_rfl)) n0 _ y0 g0
  obtain ⟨n1, y1, g1⟩ := field_is Try.underlying36 h 1 3 1 1 rfl (by kernel_rfl)
  obtain ⟨v1, K1, o1⟩ := (opens_int (by kernel_rfl)) n1 _ y1 g1
  refine ⟨⟨v0, v1⟩, ?_, ⟨o0, o1⟩⟩
  have hk := (pair_at K0 K1)
  rw [show 1 + 1 = 2 from rfl, whole_take hl] at hk
  exact hk
def ok40 (x : S40) : Prop := I64 x.f0 ∧ I64 x.f1 ∧ ok36 x.f2
theorem opens_40 : Opens enc Try.prog w base spare held 40 k40 ok40 := by
  intro fuel cs x h
  have hl := struct_len Try.underlying40 h
  replace hl : cs.length = 4 := hl.trans (by kernel_rfl)
  obtain ⟨n0, y0, g0⟩ := field_is Try.underlying40 h 0 3 0 1 rfl (by kernel_rfl)
  obtain ⟨v0, K0, o0⟩ := (opens_int (by kernel_rfl)) n0 _ y0 g0
  obtain ⟨n1, y1, g1⟩ := field_is Try.underlying40 h 1 3 1 1 rfl (by kernel_rfl)
  obtain ⟨v1, K1, o1⟩ := (opens_int (by kernel_rfl)) n1 _ y1 g1
  obtain ⟨n2, y2, g2⟩ := field_is Try.underlying40 h 2 36 2 2 rfl (by kernel_rfl)
  obtain ⟨v2, K2, o2⟩ := opens_36 n2 _ y2 g2
  refine ⟨⟨v0, v1, v2⟩, ?_, ⟨o0, o1, o2⟩⟩
  have hk := (pair_at K0 (pair_at K1 K2))
  rw [show 1 + (1 + 2) = 4 from rfl, whole_take hl] at hk
  exact hk
end
def PureX : Prop := ∀ (l0 : List S40), ListOk ok40 l0 → ∃ k, ephemerislaw2_LinkOffsets.f k l0 = some true
end Go.Proofs.Ytcmgfhfnfkelfaa.PLinkOffsets
