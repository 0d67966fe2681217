/- The law TopContradict: its parameters opened as data, and its pure statement. -/
import Derived.Test.YtfbjpdiaicaagaaTopContradictn10
import Derived.Test.YtfbjpdiaicaagaaTopContradictn9
namespace Go.Proofs.Ytfbjpdiaicaagaa.PAll
open Go.RowKit Go.Proofs.YtfbjpdiaicaagaaW.PrintWords Go.Proofs.YtfbjpdiaicaagaaW.PrintLast Go.Proofs.YtfbjpdiaicaagaaW.PrintMore Go.Proofs.Ytfbjpdiaicaagaa.Opn
section
variable {H : Type} {enc : TypeId × Value → H} {w : World} {base : Nat} {spare : Nat → Bool} {held : Bool}
def ok43 (x : S43) : Prop := I64 x.f0 ∧ I64 x.f1 ∧ I64 x.f2 ∧ I64 x.f3
theorem opens_43 : Opens enc Try.prog w base spare held 43 k43 ok43 := by
  intro fuel cs x h
  have hl := struct_len Try.underlying43 h
  replace hl : cs.length = 4 := hl.trans (by kernel_rfl)
  obtain ⟨n0, y0, g0⟩ := field_is Try.underlying43 h 0 3 0 1 rfl (by kernel_rfl)
  obtain ⟨v0, K0, o0⟩ := (opens_int (by kernel_rfl)) n0 _ y0 g0
  obtain ⟨n1, y1, g1⟩ := field_is Try.underlying43 h 1 3 1 1 rfl (by kernel_rfl)
  obtain ⟨v1, K1, o1⟩ := (opens_int (by kernel_rfl)) n1 _ y1 g1
  obtain ⟨n2, y2, g2⟩ := field_is Try.underlying43 h 2 3 2 1 rfl (by kernel_rfl)
  obtain ⟨v2, K2, o2⟩ := (opens_int (by kernel_rfl)) n2 _ y2 g2
  obtain ⟨n3, y3, g3⟩ := field_is Try.underlying43 h 3 3 3 1 rfl (by kernel_rfl)
  obtain ⟨v3, K3, o3⟩ := (opens_int (by kernel_rfl)) n3 _ y3 g3
  refine ⟨⟨v0, v1, v2, v3⟩, ?_, ⟨o0, o1, o2, o3⟩⟩
  have hk := (pair_at K0 (pair_at K1 (pair_at K2 K3)))
  rw [show 1 + (1 + (1 + 1)) = 4 from rfl, whole_take hl] at hk
  exact hk
end
def PureX : Prop := ∀ (l0 : List Int) (l1 : List S43) (a2 : Int) (a3 : Int), ListOk I64 l0 → ListOk ok43 l1 → I64 a2 → I64 a3 → ∃ k, ephemeristop_TopContradict.f k l0 l1 a2 a3 = some true
end Go.Proofs.Ytfbjpdiaicaagaa.PAll
