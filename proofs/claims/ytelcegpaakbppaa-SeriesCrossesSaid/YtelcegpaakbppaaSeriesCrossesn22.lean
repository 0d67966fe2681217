/- The law SeriesCrosses: its parameters opened as data, and its pure statement. -/
import Derived.Test.YtelcegpaakbppaaSeriesCrossesn21
import Derived.Test.YtelcegpaakbppaaSeriesCrossesn19
namespace Go.Proofs.Ytelcegpaakbppaa.PAll
open Go.RowKit Go.Proofs.YtelcegpaakbppaaW.PrintWords Go.Proofs.YtelcegpaakbppaaW.PrintLast Go.Proofs.YtelcegpaakbppaaW.PrintMore Go.Proofs.Ytelcegpaakbppaa.Opn
structure S48 where
 f0 : Int
 f1 : Int
 f2 : List S53
 f3 : Int
def k48 : Kd S48 := Kd.iso (Kd.pair (Kd.int .i64) (Kd.pair (Kd.int .i64) (Kd.pair (Kd.slice 46 k53) (Kd.int .i64)))) (fun x : S48 => (x.f0, x.f1, x.f2, x.f3))
theorem k48_open {w : World} {x : S48} {cs : List Value} (h : k48.K w x cs) : ∃ A2 c2, cs = [.int .i64 x.f0, .int .i64 x.f1, .slice A2 x.f2.length c2, .int .i64 x.f3] ∧ x.f2.length ≤ c2 ∧ Kd.C k53 w A2 x.f2.length x.f2 := by
 obtain ⟨_, _, rfl, rfl, ⟨_, _, rfl, rfl, ⟨_, _, rfl, ⟨A2, c2, rfl, hc2, hr2⟩, rfl⟩⟩⟩ := h
 exact ⟨A2, c2, rfl, hc2, hr2⟩
structure S24 where
 f0 : Int
 f1 : Int
def k24 : Kd S24 := Kd.iso (Kd.pair (Kd.int .i64) (Kd.int .i64)) (fun x : S24 => (x.f0, x.f1))
theorem k24_open {w : World} {x : S24} {cs : List Value} (h : k24.K w x cs) : cs = [.int .i64 x.f0, .int .i64 x.f1] := by
 obtain ⟨_, _, rfl, rfl, rfl⟩ := h
 exact rfl
section
variable {H : Type} {enc : TypeId × Value → H} {w : World} {base : Nat} {spare : Nat → Bool} {held : Bool}
def ok53 (x : S53) : Prop := I64 x.f0 ∧ I64 x.f1 ∧ I64 x.f2
theorem opens_53 : Opens enc Try.prog w base spare held 53 k53 ok53 := by
 intro fuel cs x h
 have hl := struct_len Try.underlying53 h
 replace hl : cs.length = 3 := hl.trans (by kernel_rfl)
 obtain ⟨n0, y0, g0⟩ := field_is Try.underlying53 h 0 3 0 1 rfl (by kernel_rfl)
 obtain ⟨v0, K0, o0⟩ := (opens_int (by kernel_rfl)) n0 _ y0 g0
 obtain ⟨n1, y1, g1⟩ := field_is Try.underlying53 h 1 3 1 1 rfl (by kernel_rfl)
 obtain ⟨v1, K1, o1⟩ := (opens_int (by kernel_rfl)) n1 _ y1 g1
 obtain ⟨n2, y2, g2⟩ := field_is Try.underlying53 h 2 3 2 1 rfl (by kernel_rfl)
 obtain ⟨v2, K2, o2⟩ := (opens_int (by kernel_rfl)) n2 _ y2 g2
 refine ⟨⟨v0, v1, v2⟩, ?_, ⟨o0, o1, o2⟩⟩
 have hk := (pair_at K0 (pair_at K1 K2))
 rw [show 1 + (1 + 1) = 3 from rfl, whole_take hl] at hk
 exact hk
def ok48 (x : S48) : Prop := I64 x.f0 ∧ I64 x.f1 ∧ (ListOk ok53) x.f2 ∧ I64 x.f3
theorem opens_48 : Opens enc Try.prog w base spare held 48 k48 ok48 := by
 intro fuel cs x h
 have hl := struct_len Try.underlying48 h
 replace hl : cs.length = 4 := hl.trans (by kernel_rfl)
 obtain ⟨n0, y0, g0⟩ := field_is Try.underlying48 h 0 3 0 1 rfl (by kernel_rfl)
 obtain ⟨v0, K0, o0⟩ := (opens_int (by kernel_rfl)) n0 _ y0 g0
 obtain ⟨n1, y1, g1⟩ := field_is Try.underlying48 h 1 3 1 1 rfl (by kernel_rfl)
 obtain ⟨v1, K1, o1⟩ := (opens_int (by kernel_rfl)) n1 _ y1 g1
 obtain ⟨n2, y2, g2⟩ := field_is Try.underlying48 h 2 46 2 1 rfl (by kernel_rfl)
 obtain ⟨v2, K2, o2⟩ := (opens_slice (t := 46) (e := 53) 46 (by kernel_rfl) (by kernel_rfl) opens_53) n2 _ y2 g2
 obtain ⟨n3, y3, g3⟩ := field_is Try.underlying48 h 3 3 3 1 rfl (by kernel_rfl)
 obtain ⟨v3, K3, o3⟩ := (opens_int (by kernel_rfl)) n3 _ y3 g3
 refine ⟨⟨v0, v1, v2, v3⟩, ?_, ⟨o0, o1, o2, o3⟩⟩
 have hk := (pair_at K0 (pair_at K1 (pair_at K2 K3)))
 rw [show 1 + (1 + (1 + 1)) = 4 from rfl, whole_take hl] at hk
 exact hk
def ok24 (x : S24) : Prop := I64 x.f0 ∧ I64 x.f1
theorem opens_24 : Opens enc Try.prog w base spare held 24 k24 ok24 := by
 intro fuel cs x h
 have hl := struct_len Try.underlying24 h
 replace hl : cs.length = 2 := hl.trans (by kernel_rfl)
 obtain ⟨n0, y0, g0⟩ := field_is Try.underlying24 h 0 3 0 1 rfl (by kernel_rfl)
 obtain ⟨v0, K0, o0⟩ := (opens_int (by kernel_rfl)) n0 _ y0 g0
 obtain ⟨n1, y1, g1⟩ := field_is Try.underlying24 h 1 3 1 1 rfl (by kernel_rfl)
 obtain ⟨v1, K1, o1⟩ := (opens_int (by kernel_rfl)) n1 _ y1 g1
 refine ⟨⟨v0, v1⟩, ?_, ⟨o0, o1⟩⟩
 have hk := (pair_at K0 K1)
 rw [show 1 + 1 = 2 from rfl, whole_take hl] at hk
 exact hk
end
def PureX : Prop := ∀ (s0 : S48) (a1 : Int) (s2 : S24) (a3 : Int), ok48 s0 → I64 a1 → ok24 s2 → I64 a3 → ∃ k, ephemerislaw2_SeriesCrosses.f k s0.f0 s0.f1 s0.f2 s0.f3 a1 s2.f0 s2.f1 a3 = some true
end Go.Proofs.Ytelcegpaakbppaa.PAll
