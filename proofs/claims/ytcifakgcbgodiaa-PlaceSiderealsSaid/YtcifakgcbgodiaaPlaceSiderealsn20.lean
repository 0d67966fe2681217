/- The law PlaceSidereals: its parameters opened as data, and its pure statement. -/
import Derived.Test.YtcifakgcbgodiaaPlaceSiderealsn19
import Derived.Test.YtcifakgcbgodiaaPlaceSiderealsn18
namespace Go.Proofs.Ytcifakgcbgodiaa.PAll
open Go.RowKit Go.Proofs.YtcifakgcbgodiaaW.PrintWords Go.Proofs.YtcifakgcbgodiaaW.PrintLast Go.Proofs.YtcifakgcbgodiaaW.PrintMore Go.Proofs.Ytcifakgcbgodiaa.Opn
structure S51 where
  f0 : Int
  f1 : Int
def k51 : Kd S51 := Kd.iso (Kd.pair (Kd.int .i64) (Kd.int .i64)) (fun x : S51 => (x.f0, x.f1))
theorem k51_open {w : World} {x : S51} {cs : List Value} (h : k51.K w x cs) : cs = [.int .i64 x.f0, .int .i64 x.f1] := by
  obtain ⟨_, _, rfl, rfl, rfl⟩ := h
  exact rfl
section
variable {H : Type} {enc : TypeId × Value → H} {w : World} {base : Nat} {spare : Nat → Bool} {held : Bool}
def ok51 (x : S51) : Prop := I64 x.f0 ∧ I64 x.f1
theorem opens_51 : Opens enc Try.prog w base spare held 51 k51 ok51 := by
  intro fuel cs x h
  have hl := struct_len Try.underlying51 h
  replace hl : cs.length = 2 := hl.trans (by kernel_rfl)
  obtain ⟨n0, y0, g0⟩ := field_is Try.underlying51 h 0 3 0 1 rfl (by kernel_rfl)
  obtain ⟨v0, K0, o0⟩ := (opens_int (by kernel_rfl)) n0 _ y0 g0
  obtain ⟨n1, y1, g1⟩ := field_is Try.underlying51 h 1 3 1 1 rfl (by kernel_rfl)
  obtain ⟨v1, K1, o1⟩ := (opens_int (by kernel_rfl)) n1 _ y1 g1
  refine ⟨⟨v0, v1⟩, ?_, ⟨o0, o1⟩⟩
  have hk := (pair_at K0 K1)
  rw [show 1 + 1 = 2 from rfl, whole_take hl] at hk
  exact hk
end
def PureX : Prop := ∀ (s0 : S51) (a1 : Int), ok51 s0 → I64 a1 → ∃ k, ephemerislaw2_PlaceSidereals.f k s0.f0 s0.f1 a1 = some true
end Go.Proofs.Ytcifakgcbgodiaa.PAll
