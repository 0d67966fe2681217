/- A place: its check, the sidereal angle, the hour angle and the height of a body. -/
import Derived.Test.YtedakilpogagiaaDialShadowsn15
import Derived.Test.YtedakilpogagiaaDialShadowsn34
import Derived.Test.YtedakilpogagiaaDialShadowsn48
namespace Go.Proofs.Ytedakilpogagiaa.PlaceT
open Go Go.RowKit YtedakilpogagiaaW.PrintWords YtedakilpogagiaaW.PrintLast YtedakilpogagiaaW.PrintMore Opn PAll Base Turn Over Units Args SumsT Vals SkyT MulT UnitT OctT SinT Circ RefT
set_option linter.unusedVariables false
set_option linter.unusedSimpArgs false
theorem ob_ev {α β : Type} {g : Nat → Option α} {f : Nat → α → Option β} {a : α} {r : β} (h : Ev g a) (k : Ev (fun n => f n a) r) : Ev (fun n => Sx.ob (g n) (f n)) r := by
 refine Ev.congr (fun n => Sx.ob_eq _ _) ?_
 exact ev_bind h k
theorem oif_pos {β : Type} {c : Prop} [inst : Decidable c] {A B : Option β} (h : c) : Sx.oif c A B = A := by rw [Sx.oif_eq, if_pos h]
theorem oif_neg {β : Type} {c : Prop} [inst : Decidable c] {A B : Option β} (h : ¬ c) : Sx.oif c A B = B := by rw [Sx.oif_eq, if_neg h]
theorem iw (x : Int) : IntKind.i64.wrap x = wrap64 x := i64_w x
theorem bne0 {x : Int} (h : x = 0) : ¬ (x != 0) = true := by simp [h]
theorem bne1 {x : Int} (h : x ≠ 0) : (x != 0) = true := by simp [h]
def pe (lon lat : Int) : Int := if lon < -500000000 ∨ lon > 500000000 ∨ lat < -220000000 ∨ lat > 220000000 then 3 else 0
theorem pe_zero {lon lat : Int} (h : pe lon lat = 0) : -500000000 ≤ lon ∧ lon ≤ 500000000 ∧ -220000000 ≤ lat ∧ lat ≤ 220000000 := by
 unfold pe at h
 split at h
 ·cases h
 ·omega
theorem check_at (lon lat : Int) : place_Check.f lon lat = some (pe lon lat) := by
 unfold place_Check.f pe
 by_cases c1 : lon < -500000000
 ·simp [c1]
 by_cases c2 : lon > 500000000
 ·simp [c1, c2]
 by_cases c3 : lat < -220000000
 ·simp [c1, c2, c3]
 by_cases c4 : lat > 220000000
 ·simp [c1, c2, c3, c4]
 ·simp [c1, c2, c3, c4]
theorem placeErr_at (lon lat : Int) : ephemerisref2_PlaceErr.f lon lat = some (pe lon lat) := by
 have h : ephemerisref2_PlaceErr.f lon lat = place_Check.f lon lat := rfl
 rw [h, check_at]
def sid (lon t : Int) : Int := (275313108 + arg 1002737909350806 t / 1000000 + lon) % 1000000000
theorem sid_bound (lon t : Int) : 0 ≤ sid lon t ∧ sid lon t < 1000000000 := by unfold sid; omega
theorem sum_nil (t : Int) : Ev (fun k => series_sum.f k 275313108 1002737909350806 ([] : List (S94)) 0 t) (275313108, 275313108) :=
 ev_some 1 fun k => by
  unfold series_sum.f
  rw [series_sum.l0, if_neg (by simp), w64 (by omega) (by omega), w64 (by omega) (by omega)]
  rfl
theorem st2_nil (t : Int) : st2 275313108 1002737909350806 ([] : List (S94)) 0 t = it t := by
 unfold st2
 rw [if_pos (by decide)]
theorem sangle_ev {t : Int} (h : it t = 0) : Ev (fun k => series_Angle.f k 275313108 1002737909350806 ([] : List (S94)) 0 t) ((275313108 + arg 1002737909350806 t / 1000000) % 1000000000, (275313108 + arg 1002737909350806 t / 1000000) % 1000000000 + 1, 0) := by
 obtain ⟨i1, i2⟩ := it_zero h
 have e3 := turned_ev (r := 1002737909350806) (t := t) (by omega) (by omega) i1 i2
 obtain ⟨g0, g1⟩ := arg_bound 1002737909350806 t
 have e2 := st2_nil t
 generalize arg 1002737909350806 t = A at *
 unfold series_Angle.f
 refine ev_bind (check2_ev _ _ _ _ _) ?_
 simp only [e2, if_pos h]
 refine ev_bind (sum_nil t) (ev_bind e3 (ev_some 0 fun k => ?_))
 rw [Int.tdiv_eq_ediv_of_nonneg g0, w64 (x := A / 1000000) (by omega) (by omega), w64 (x := 275313108 + A / 1000000) (by omega) (by omega), w64 (x := 275313108 + A / 1000000 + 1) (by omega) (by omega), sreduced_at (by omega) (by omega) (by omega) (by omega), Option.bind_some]
 congr 3
 omega
theorem sidereal_ev {lon lat t : Int} (h : pe lon lat = 0) (ht : it t = 0) : Ev (fun k => place_Sidereal.f k lon lat t) (sid lon t, sid lon t + 1, 0) := by
 obtain ⟨p1, p2, p3, p4⟩ := pe_zero h
 obtain ⟨g0, g1⟩ := arg_bound 1002737909350806 t
 unfold place_Sidereal.f
 refine Ev.congr (fun k => by rw [check_at, Option.bind_some, if_pos h]) ?_
 refine ev_bind (sangle_ev ht) ?_
 simp only [if_true]
 unfold sid
 generalize arg 1002737909350806 t = A at *
 refine ev_some 0 fun k => ?_
 rw [w64 (x := (275313108 + A / 1000000) % 1000000000 + lon) (by omega) (by omega), w64 (x := (275313108 + A / 1000000) % 1000000000 + 1 + lon) (by omega) (by omega), sreduced_at (by omega) (by omega) (by omega) (by omega), Option.bind_some]
 congr 2
 ·omega
 ·congr 1; omega
def rsid (lon t : Int) : Int := (arg 1002737909350806 t + (275313108 + lon) * 1000000) % 1000000000000000
theorem rsidereal_ev {lon lat t : Int} (h : pe lon lat = 0) (ht : it t = 0) : Ev (fun k => ephemerisref2_Sidereal.f k lon lat t) (rsid lon t) := by
 obtain ⟨p1, p2, p3, p4⟩ := pe_zero h
 obtain ⟨i1, i2⟩ := it_zero ht
 have e4 := arg_ev (r := 1002737909350806) (t := t) (by omega) (by omega) i1 i2
 obtain ⟨g0, g1⟩ := arg_bound 1002737909350806 t
 unfold ephemerisref2_Sidereal.f rsid
 refine ob_ev e4 ?_
 generalize arg 1002737909350806 t = A at *
 refine ev_some 0 fun k => ?_
 rw [iw, iw, iw, w64 (x := 275313108 + lon) (by omega) (by omega), w64 (x := (275313108 + lon) * 1000000) (by omega) (by omega), w64 (x := A + (275313108 + lon) * 1000000) (by omega) (by omega), mod_pos (by omega) (by omega)]
 rfl
theorem rsid_div (lon t : Int) : rsid lon t / 1000000 = sid lon t := by unfold rsid sid; omega
theorem rsid_bound (lon t : Int) : 0 ≤ rsid lon t ∧ rsid lon t < 1000000000000000 := by unfold rsid; omega
def he (lon lat r0 r1 d0 d1 t : Int) : Int :=
 if pe lon lat ≠ 0 then pe lon lat else if it t ≠ 0 then it t else if sp r0 r1 ≠ 0 then sp r0 r1 else if sp d0 d1 ≠ 0 then sp d0 d1 else
  if d0 < -250000000 ∨ d1 > 250000000 ∨ r0 < -1000000000 ∨ r1 > 3000000000 then 3 else 0
theorem he_zero {lon lat r0 r1 d0 d1 t : Int} (h : he lon lat r0 r1 d0 d1 t = 0) : pe lon lat = 0 ∧ it t = 0 ∧ sp r0 r1 = 0 ∧ sp d0 d1 = 0 ∧ -250000000 ≤ d0 ∧ d1 ≤ 250000000 ∧ -1000000000 ≤ r0 ∧ r1 ≤ 3000000000 := by
 unfold he at h
 split at h
 ·contradiction
 split at h
 ·contradiction
 split at h
 ·contradiction
 split at h
 ·contradiction
 split at h
 ·cases h
 ·refine ⟨by omega, by omega, by omega, by omega, by omega, by omega, by omega, by omega⟩
theorem hour_ev {lon lat r0 r1 d0 d1 t : Int} (h : he lon lat r0 r1 d0 d1 t = 0) : Ev (fun k => place_hour.f k lon lat r0 r1 d0 d1 t) (sid lon t - r1, sid lon t + 1 - r0, 0) := by
 obtain ⟨c1, c2, c3, c4, k1, k2, k3, k4⟩ := he_zero h
 obtain ⟨s1, s2⟩ := sid_bound lon t
 obtain ⟨z1, z2, z3⟩ := sp_zero c3
 unfold place_hour.f
 refine ob_ev (sidereal_ev c1 c2) ?_
 refine Ev.congr (fun k => oif_neg (bne0 rfl)) ?_
 refine ob_ev (interval_Check_ev r0 r1) ?_
 refine Ev.congr (fun k => oif_neg (bne0 c3)) ?_
 refine ob_ev (interval_Check_ev d0 d1) ?_
 refine Ev.congr (fun k => oif_neg (bne0 c4)) ?_
 refine ev_some 0 fun k => ?_
 simp only [Sx.oif_eq, decide_eq_true_eq]
 rw [if_neg (by omega), if_neg (by omega), if_neg (by omega), if_neg (by omega), iw, iw, w64 (x := sid lon t - r1) (by omega) (by omega), w64 (x := sid lon t + 1 - r0) (by omega) (by omega)]
theorem clamp_at (a b : Int) : sun_Clamp.f a b = some (mx (-1000000000) (mn 1000000000 a), mx (-1000000000) (mn 1000000000 b)) := rfl
theorem cl_bound (x : Int) : -1000000000 ≤ mx (-1000000000) (mn 1000000000 x) ∧ mx (-1000000000) (mn 1000000000 x) ≤ 1000000000 := by unfold mx mn; (repeat' split) <;> omega
theorem cl_mono {x y : Int} (h : x ≤ y) : mx (-1000000000) (mn 1000000000 x) ≤ mx (-1000000000) (mn 1000000000 y) ∧ mx (-1000000000) (mn 1000000000 y) - mx (-1000000000) (mn 1000000000 x) ≤ y - x := by unfold mx mn; (repeat' split) <;> omega
theorem box_in {l h : Int} {w : Rat} (b : Box' l h w) (w1 : -1 ≤ w) (w2 : w ≤ 1) : inU (mx (-1000000000) l) ∧ inU (mn 1000000000 h) ∧ mx (-1000000000) l ≤ mn 1000000000 h ∧ mn 1000000000 h - mx (-1000000000) l ≤ 3 := by
 obtain ⟨b1, b2, b3⟩ := b
 have l1 : l ≤ 1000000000 := by
  have : (l : Rat) < ((1000000000 + 1 : Int) : Rat) := by push_cast; grind
  have := Rat.intCast_lt_intCast.1 this
  omega
 have h1 : -1000000000 ≤ h := by
  have : ((-1000000000 - 1 : Int) : Rat) < (h : Rat) := by push_cast; grind
  have := Rat.intCast_lt_intCast.1 this
  omega
 unfold inU mx mn
 refine ⟨?_, ?_, ?_, ?_⟩ <;> (repeat' split) <;> omega
theorem le_of_close {L H : Int} {c : Rat} (a : (L : Rat) ≤ 1000000000 * c + 1 / 1000000000) (b : 1000000000 * c ≤ (H : Rat) + 1 / 1000000000) : L ≤ H := by
 generalize 1000000000 * c = x at *
 rcases Int.lt_or_le H L with h | h
 ·have h2 : ((H + 1 : Int) : Rat) ≤ (L : Rat) := Rat.intCast_le_intCast.2 (by omega)
  push_cast at h2
  grind
 ·exact h
theorem holdsC_le {L H lo hi : Int} (A : HoldsC L H lo hi) (h : lo ≤ hi) : L ≤ H := by
 obtain ⟨a, b⟩ := A.tell (lo * 1000000) (by omega) (by omega)
 exact le_of_close a b
theorem hour_sp {lon lat r0 r1 d0 d1 t : Int} (h : he lon lat r0 r1 d0 d1 t = 0) : r0 ≤ r1 ∧ d0 ≤ d1 ∧ -250000000 ≤ d0 ∧ d1 ≤ 250000000 ∧ -1000000000 ≤ r0 ∧ r1 ≤ 3000000000 ∧ -220000000 ≤ lat ∧ lat ≤ 220000000 := by
 obtain ⟨c1, c2, c3, c4, k1, k2, k3, k4⟩ := he_zero h
 obtain ⟨z1, z2, z3⟩ := sp_zero c3
 obtain ⟨y1, y2, y3⟩ := sp_zero c4
 obtain ⟨p1, p2, p3, p4⟩ := pe_zero c1
 omega
theorem height_ev {lon lat r0 r1 d0 d1 t : Int} (h : he lon lat r0 r1 d0 d1 t = 0) : ∃ sl sh cl ch dl dh el eh hl hh al ah bl bh ml mh : Int,
  Ev (fun k => place_Height.f k lon lat r0 r1 d0 d1 t) (mx (-1000000000) (mn 1000000000 (al + ml)), mx (-1000000000) (mn 1000000000 (ah + mh)), 0) ∧
  (∃ l h, sl = mx (-1000000000) l ∧ sh = mn 1000000000 h ∧ Box' l h (S (lat * 1000000))) ∧ (∃ l h, cl = mx (-1000000000) l ∧ ch = mn 1000000000 h ∧ Box' l h (C (lat * 1000000))) ∧
  Holds dl dh d0 d1 ∧ HoldsC el eh d0 d1 ∧ HoldsC hl hh (sid lon t - r1) (sid lon t + 1 - r0) ∧
  al ≤ ah ∧ ml ≤ mh ∧ ah - al ≤ (sh - sl) + (dh - dl) + 2 ∧ bh - bl ≤ (ch - cl) + (eh - el) + 2 ∧ mh - ml ≤ (bh - bl) + (hh - hl) + 2 ∧ sh - sl ≤ 3 ∧ ch - cl ≤ 3 ∧ inU al ∧ inU ah ∧ inU ml ∧ inU mh ∧
  (∀ p q : Rat, (sl : Rat) ≤ p → p ≤ (sh : Rat) → (dl : Rat) ≤ q → q ≤ (dh : Rat) → 1000000000 * (al : Rat) ≤ p * q ∧ p * q ≤ 1000000000 * (ah : Rat)) ∧
  (∀ p q : Rat, (cl : Rat) ≤ p → p ≤ (ch : Rat) → (el : Rat) ≤ q → q ≤ (eh : Rat) → 1000000000 * (bl : Rat) ≤ p * q ∧ p * q ≤ 1000000000 * (bh : Rat)) ∧
  (∀ p q : Rat, (bl : Rat) ≤ p → p ≤ (bh : Rat) → (hl : Rat) ≤ q → q ≤ (hh : Rat) → 1000000000 * (ml : Rat) ≤ p * q ∧ p * q ≤ 1000000000 * (mh : Rat)) := by
 obtain ⟨g1, g2, g3, g4, g5, g6, g7, g8⟩ := hour_sp h
 obtain ⟨s1, s2⟩ := sid_bound lon t
 obtain ⟨l1, h1, e1, b1⟩ := sin_ev (a := lat) (by omega) (by omega)
 obtain ⟨l2, h2, e2, b2⟩ := cos_ev (a := lat) (by omega) (by omega)
 obtain ⟨dl, dh, e3, A3⟩ := over_ev (lo := d0) (hi := d1) (by omega) (by omega) (by omega)
 obtain ⟨el, eh, e4, A4⟩ := cosover_ev (lo := d0) (hi := d1) (by omega) (by omega) (by omega)
 obtain ⟨hl, hh, e5, A5⟩ := cosover_ev (lo := sid lon t - r1) (hi := sid lon t + 1 - r0) (by omega) (by omega) (by omega)
 have b1' := box_less b1
 obtain ⟨q1, q2⟩ := one_all (lat * 1000000)
 obtain ⟨w1, w2, w3, w4⟩ := SC_bound (lat * 1000000)
 obtain ⟨i1, i2, i3, i4⟩ := box_in b1' (by grind) (by grind)
 obtain ⟨j1, j2, j3, j4⟩ := box_in b2 (by grind) (by grind)
 obtain ⟨o1, o2⟩ := over_lo_hi A3 (by omega)
 obtain ⟨o3, o4⟩ := cosover_lo_hi A4 (by omega)
 obtain ⟨o5, o6⟩ := cosover_lo_hi A5 (by omega)
 have v3 := holds_le A3 (by omega)
 have v4 := holdsC_le A4 (by omega)
 have v5 := holdsC_le A5 (by omega)
 obtain ⟨al, ah, f1, a1, a2, a3, a4, a5⟩ := unit_ev (b0 := dl) (b1 := dh) i1 i2 ⟨A3.lo1, o1⟩ ⟨o2, A3.hi1⟩ i3 v3
 obtain ⟨bl, bh, f2, c1, c2, c3, c4, c5⟩ := unit_ev (b0 := el) (b1 := eh) j1 j2 ⟨A4.lo1, o3⟩ ⟨o4, A4.hi1⟩ j3 v4
 obtain ⟨ml, mh, f3, m1, m2, m3, m4, m5⟩ := unit_ev (b0 := hl) (b1 := hh) c1 c2 ⟨A5.lo1, o5⟩ ⟨o6, A5.hi1⟩ c3 v5
 refine ⟨_, _, _, _, dl, dh, el, eh, hl, hh, al, ah, bl, bh, ml, mh, ?_, ⟨_, _, rfl, rfl, b1'⟩, ⟨_, _, rfl, rfl, b2⟩, A3, A4, A5, a3, m3, a4, c4, m4, i4, j4, a1, a2, m1, m2, a5, c5, m5⟩
 unfold inU at a1 a2 m1 m2
 unfold place_Height.f
 refine ob_ev (hour_ev h) ?_
 refine Ev.congr (fun k => oif_neg (bne0 rfl)) ?_
 refine ob_ev e1 (ob_ev e2 (ob_ev e3 (ob_ev e4 (ob_ev e5 (ob_ev f1 (ob_ev f2 (ob_ev f3 (ev_some 0 fun k => ?_))))))))
 rw [iw, iw, w64 (x := al + ml) (by omega) (by omega), w64 (x := ah + mh) (by omega) (by omega), clamp_at]
 rfl
end Go.Proofs.Ytedakilpogagiaa.PlaceT
