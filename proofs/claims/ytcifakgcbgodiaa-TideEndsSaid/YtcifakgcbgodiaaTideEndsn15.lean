/- The law TideEnds: its parameters opened as data, and its pure statement. -/
import Derived.Test.YtcifakgcbgodiaaTideEndsn14
import Derived.Test.YtcifakgcbgodiaaTideEndsn12
namespace Go.Proofs.Ytcifakgcbgodiaa.PAll
open Go.RowKit YtcifakgcbgodiaaW.PrintWords YtcifakgcbgodiaaW.PrintLast YtcifakgcbgodiaaW.PrintMore Opn
section
variable {H : Type} {enc : TypeId × Value → H} {w : World} {base : Nat} {spare : Nat → Bool} {held : Bool}
def ok38 (x : S38) : Prop := I64 x.f0 ∧ I64 x.f1 ∧ I64 x.f2
theorem opens_38 : Opens enc Try.prog w base spare held 38 k38 ok38 := by
 intro fuel cs x h
 have hl := struct_len Try.underlying38 h
 replace hl : cs.length = 3 := hl.trans (by kernel_rfl)
 obtain ⟨n0, y0, g0⟩ := field_is Try.underlying38 h 0 3 0 1 rfl (by kernel_rfl)
 obtain ⟨v0, K0, o0⟩ := (opens_int (by kernel_rfl)) n0 _ y0 g0
 obtain ⟨n1, y1, g1⟩ := field_is Try.underlying38 h 1 3 1 1 rfl (by kernel_rfl)
 obtain ⟨v1, K1, o1⟩ := (opens_int (by kernel_rfl)) n1 _ y1 g1
 obtain ⟨n2, y2, g2⟩ := field_is Try.underlying38 h 2 3 2 1 rfl (by kernel_rfl)
 obtain ⟨v2, K2, o2⟩ := (opens_int (by kernel_rfl)) n2 _ y2 g2
 refine ⟨⟨v0, v1, v2⟩, ?_, ⟨o0, o1, o2⟩⟩
 have hk := (pair_at K0 (pair_at K1 K2))
 rw [show 1 + (1 + 1) = 3 from rfl, whole_take hl] at hk
 exact hk
end
def PureX : Prop := ∀ (l0 : List S38) (a1 : Int) (a2 : Int), ListOk ok38 l0 → I64 a1 → I64 a2 → ∃ k, ephemerislaw2_TideEnds.f k l0 a1 a2 = some true
end Go.Proofs.Ytcifakgcbgodiaa.PAll
