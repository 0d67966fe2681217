/- The law SharpenEarliers: its parameters opened as data, and its pure statement. -/
import Derived.Test.YtedakilpogagiaaSharpenEarliersn21
import Derived.Test.YtedakilpogagiaaSharpenEarliersn20
namespace Go.Proofs.Ytedakilpogagiaa.PAll
open Go.RowKit YtedakilpogagiaaW.PrintWords YtedakilpogagiaaW.PrintLast YtedakilpogagiaaW.PrintMore Opn
structure S23 where
 f0 : Int
 f1 : Int
def k23 : Kd S23 := Kd.iso (Kd.pair (Kd.int .i64) (Kd.int .i64)) (fun x : S23 => (x.f0, x.f1))
theorem k23_open {w : World} {x : S23} {cs : List Value} (h : k23.K w x cs) : cs = [.int .i64 x.f0, .int .i64 x.f1] := by
 obtain ⟨_, _, rfl, rfl, rfl⟩ := h
 exact rfl
section
variable {H : Type} {enc : TypeId × Value → H} {w : World} {base : Nat} {spare : Nat → Bool} {held : Bool}
def ok23 (x : S23) : Prop := I64 x.f0 ∧ I64 x.f1
theorem opens_23 : Opens enc Try.prog w base spare held 23 k23 ok23 := by
 intro fuel cs x h
 have hl := struct_len Try.underlying23 h
 replace hl : cs.length = 2 := hl.trans (by kernel_rfl)
 obtain ⟨n0, y0, g0⟩ := field_is Try.underlying23 h 0 3 0 1 rfl (by kernel_rfl)
 obtain ⟨v0, K0, o0⟩ := (opens_int (by kernel_rfl)) n0 _ y0 g0
 obtain ⟨n1, y1, g1⟩ := field_is Try.underlying23 h 1 3 1 1 rfl (by kernel_rfl)
 obtain ⟨v1, K1, o1⟩ := (opens_int (by kernel_rfl)) n1 _ y1 g1
 refine ⟨⟨v0, v1⟩, ?_, ⟨o0, o1⟩⟩
 have hk := (pair_at K0 K1)
 rw [show 1 + 1 = 2 from rfl, whole_take hl] at hk
 exact hk
end
def PureX : Prop := ∀ (s0 : S23) (s1 : S23), ok23 s0 → ok23 s1 → ∃ k, ephemerislaw2_SharpenEarliers.f k s0.f0 s0.f1 s1.f0 s1.f1 = some true
end Go.Proofs.Ytedakilpogagiaa.PAll
