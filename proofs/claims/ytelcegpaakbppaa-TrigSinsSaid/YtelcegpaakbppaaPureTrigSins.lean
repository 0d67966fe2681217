/- TrigSins: Sin and Cos of the program hold the reference's sine and cosine, for every angle. -/
import Derived.Test.YtelcegpaakbppaaPAllx10
import Derived.Test.YtelcegpaakbppaaRefT
namespace Go.Proofs.Ytelcegpaakbppaa.Pure
open Go.RowKit Go.Proofs.YtelcegpaakbppaaW.PrintWords Go.Proofs.YtelcegpaakbppaaW.PrintLast Go.Proofs.YtelcegpaakbppaaW.PrintMore Go.Proofs.Ytelcegpaakbppaa.Opn Go.Proofs.Ytelcegpaakbppaa.PAll Go.Proofs.Ytelcegpaakbppaa.Base Go.Proofs.Ytelcegpaakbppaa.Turn Go.Proofs.Ytelcegpaakbppaa.Fix Go.Proofs.Ytelcegpaakbppaa.Oct Go.Proofs.Ytelcegpaakbppaa.OctT Go.Proofs.Ytelcegpaakbppaa.SinT Go.Proofs.Ytelcegpaakbppaa.RefT
set_option linter.unusedVariables false
set_option linter.unusedSimpArgs false
/-- The part of a number from 0 on. -/
theorem part_at {s : Int} (h1 : -1152921504608446976 ≤ s) (h2 : s ≤ 1152921504608446976) : ∃ p : Int, ephemerisref2_Part.f 1000000000 s = some p ∧ p * 1099511627776 < 1000000000 * s + 1099511627776 ∧ 1000000000 * s < p * 1099511627776 + 1099511627776 ∧ -1100000000000000 ≤ p ∧ p ≤ 1100000000000000 := by
  unfold ephemerisref2_Part.f
  by_cases c : s < 0
  · rw [if_pos c, w64 (x := -s) (by omega) (by omega), low30 (show 0 ≤ -s by omega) (by omega)]
    refine ⟨_, rfl, ?_⟩
    rw [w64 (x := 1000000000 * (-s / 1073741824)) (by omega) (by omega), w64 (x := 1000000000 * (-s % 1073741824)) (by omega) (by omega), w64 (x := 1000000000 * (-s / 1073741824) + 1000000000 * (-s % 1073741824) / 1073741824) (by omega) (by omega), w64 (by omega) (by omega)]
    refine ⟨?_, ?_, ?_, ?_⟩ <;> omega
  · rw [if_neg c, low30 (show 0 ≤ s by omega) (by omega)]
    refine ⟨_, rfl, ?_⟩
    rw [w64 (x := 1000000000 * (s / 1073741824)) (by omega) (by omega), w64 (x := 1000000000 * (s % 1073741824)) (by omega) (by omega), w64 (x := 1000000000 * (s / 1073741824) + 1000000000 * (s % 1073741824) / 1073741824) (by omega) (by omega), w64 (by omega) (by omega)]
    refine ⟨?_, ?_, ?_, ?_⟩ <;> omega
theorem clamp_lo {l : Int} {w : Rat} (h : (l : Rat) ≤ 1000000000 * w) (hw : -1 ≤ w) : ((mx (-1000000000) l : Int) : Rat) ≤ 1000000000 * w := by
  unfold mx
  split
  · exact h
  · push_cast; grind
theorem clamp_hi {h : Int} {w : Rat} (h1 : 1000000000 * w ≤ (h : Rat)) (hw : w ≤ 1) : 1000000000 * w ≤ ((mn 1000000000 h : Int) : Rat) := by
  unfold mn
  split
  · exact h1
  · push_cast; grind
theorem lo_int {L s : Int} {w : Rat} (hL : (L : Rat) ≤ 1000000000 * w) (e1 : -1600000 ≤ (s : Rat) - u * w) : L * 1152921504606846976 ≤ 1000000000 * (s + 1600000) := by
  refine int_of_rat ?_
  push_cast
  rw [u_eq] at e1
  grind
theorem hi_int {H s : Int} {w : Rat} (hH : 1000000000 * w ≤ (H : Rat)) (e2 : (s : Rat) - u * w ≤ 1600000) : 1000000000 * (s - 1600000) ≤ H * 1152921504606846976 := by
  refine int_of_rat ?_
  push_cast
  rw [u_eq] at e2
  grind
theorem one_int {L : Int} {w : Rat} (hL : (L : Rat) ≤ 1000000000 * w) (hw : w ≤ 1) : L ≤ 1000000000 := by
  refine int_of_rat ?_
  push_cast
  grind
theorem one_int' {H : Int} {w : Rat} (hH : 1000000000 * w ≤ (H : Rat)) (hw : -1 ≤ w) : -1000000000 ≤ H := by
  refine int_of_rat ?_
  push_cast
  grind
/-- What a result tells of a sine. -/
structure Held (L H : Int) (s : Int) : Prop where
  wide : wrap64 (H - L) ≤ 3
  unit : ephemerisref2_ContainsUnit.f L H s = some true
  lo : ephemerislaw2_beyond.f L 1000000000 = some false
  hi : ephemerislaw2_beyond.f H 1000000000 = some false
theorem beyond_in {a : Int} (h1 : -1000000000 ≤ a) (h2 : a ≤ 1000000000) : ephemerislaw2_beyond.f a 1000000000 = some false := by
  unfold ephemerislaw2_beyond.f
  rw [w64 (x := -1000000000) (by omega) (by omega), if_neg (by omega), show decide (a > 1000000000) = false from decide_eq_false (by omega)]
theorem held {l h s : Int} {w : Rat} (d : h - l = 3) (hl : (l : Rat) ≤ 1000000000 * w) (hh : 1000000000 * w ≤ (h : Rat)) (w1 : -1 ≤ w) (w2 : w ≤ 1) (e1 : -1600000 ≤ (s : Rat) - u * w) (e2 : (s : Rat) - u * w ≤ 1600000) (h1 : -1152921504608446976 ≤ s) (h2 : s ≤ 1152921504608446976) :
    Held (mx (-1000000000) l) (mn 1000000000 h) s := by
  have a1 := clamp_lo hl w1
  have a2 := clamp_hi hh w2
  have b1 := lo_int a1 e1
  have b2 := hi_int a2 e2
  have c1 := one_int a1 w2
  have c2 := one_int' a2 w1
  have g1 : -1000000000 ≤ mx (-1000000000) l ∧ l ≤ mx (-1000000000) l := by unfold mx; split <;> omega
  have g2 : mn 1000000000 h ≤ 1000000000 ∧ mn 1000000000 h ≤ h := by unfold mn; split <;> omega
  obtain ⟨p, hp, p1, p2, p3, p4⟩ := part_at h1 h2
  clear a1 a2 hl hh e1 e2 w1 w2
  generalize mx (-1000000000) l = L at *
  generalize mn 1000000000 h = H at *
  refine ⟨?_, ?_, beyond_in (by omega) (by omega), beyond_in (by omega) (by omega)⟩
  · rw [w64 (by omega) (by omega)]; omega
  · unfold ephemerisref2_ContainsUnit.f
    rw [hp, Option.bind_some, w64 (x := L * 1048576) (by omega) (by omega), w64 (x := p + 8192) (by omega) (by omega), if_pos (by omega), w64 (x := H * 1048576) (by omega) (by omega), w64 (by omega) (by omega)]
    exact congrArg some (decide_eq_true (by omega))
theorem box_lo {l h : Int} {w v : Rat} (b : Box l h w) (d1 : w - v ≤ 1 / 100000000000000000000) : (l : Rat) ≤ 1000000000 * v := by
  have := b.2.1
  grind
theorem box_hi {l h : Int} {w v : Rat} (b : Box l h w) (d1 : v - w ≤ 1 / 100000000000000000000) : 1000000000 * v ≤ (h : Rat) := by
  have := b.2.2
  grind
theorem ag_st {r : Int} (h0 : 0 ≤ r) : ag (r * 1000000) = st r := by
  unfold ag st
  rw [show (r * 1000000).toNat = r.toNat * 1000000 by omega, Nat.mul_assoc]
/-- Three quarters more. -/
theorem three (m : Nat) : sinT m - cosT (m + 3 * n4) ≤ 1 / 100000000000000000000 ∧ cosT (m + 3 * n4) - sinT m ≤ 1 / 100000000000000000000 := by
  obtain ⟨a1, a2, a3, a4⟩ := quarter m
  obtain ⟨b1, b2, b3, b4⟩ := quarter (m + n4)
  obtain ⟨c1, c2, c3, c4⟩ := quarter (m + n4 + n4)
  rw [show m + 3 * n4 = m + n4 + n4 + n4 by omega]
  generalize sinT m = x0 at *
  generalize cosT m = y0 at *
  generalize sinT (m + n4) = x1 at *
  generalize cosT (m + n4) = y1 at *
  generalize sinT (m + n4 + n4) = x2 at *
  generalize cosT (m + n4 + n4) = y2 at *
  generalize cosT (m + n4 + n4 + n4) = y3 at *
  constructor <;> grind
theorem cos_near {r : Int} (h0 : 0 ≤ r) (h1 : r < 1000000000) : sinT (st ((r + 250000000) % 1000000000)) - cosT (st r) ≤ 1 / 100000000000000000000 ∧ cosT (st r) - sinT (st ((r + 250000000) % 1000000000)) ≤ 1 / 100000000000000000000 := by
  by_cases c : r < 750000000
  · rw [st_quarter (r := (r + 250000000) % 1000000000) (by omega) 1 r h0 (by omega), Nat.one_mul]
    obtain ⟨a1, a2, _, _⟩ := quarter (st r)
    generalize sinT (st r + n4) = x at *
    generalize cosT (st r) = y at *
    constructor <;> grind
  · rw [st_quarter (r := r) h0 3 (r - 750000000) (by omega) (by omega), show (r + 250000000) % 1000000000 = r - 750000000 by omega]
    exact three _
theorem works_ev : Ev (fun k => ephemerislaw2_trigWorks.f k) true := Ev.of ephemerislaw2_trigWorks.mono (k := 120) (by decide +kernel)
theorem TrigSins : ephemerislaw2_TrigSins.Pure := by
  intro a0 wf
  obtain ⟨g1, g2⟩ := i64_of wf
  obtain ⟨K, hK⟩ := works_ev
  refine ⟨K + 13, ?_⟩
  unfold ephemerislaw2_TrigSins.f
  have hw : ephemerislaw2_trigWorks.f (K + 13) = some true := hK (K + 13) (by omega)
  rw [hw, Option.bind_some, if_pos rfl]
  by_cases c : a0 < -1000000000000000000 ∨ 1000000000000000000 < a0
  · have o : ephemerislaw2_beyond.f a0 1000000000000000000 = some true := by
      unfold ephemerislaw2_beyond.f
      rw [w64 (x := -1000000000000000000) (by omega) (by omega)]
      split
      · rfl
      · exact congrArg some (decide_eq_true (by omega))
    have o2 : trig_out.f a0 = some true := by
      unfold trig_out.f
      split
      · rfl
      · exact congrArg some (decide_eq_true (by omega))
    have s1 : trig_Sin.f (K + 13) a0 = some (0, 0, 3) := by unfold trig_Sin.f; rw [o2, Option.bind_some, if_pos rfl]
    have s2 : trig_Cos.f (K + 13) a0 = some (0, 0, 3) := by unfold trig_Cos.f; rw [o2, Option.bind_some, if_pos rfl]
    rw [s1, Option.bind_some, s2, Option.bind_some, o, Option.bind_some, if_pos rfl]
    rfl
  · have o : ephemerislaw2_beyond.f a0 1000000000000000000 = some false := by
      unfold ephemerislaw2_beyond.f
      rw [w64 (x := -1000000000000000000) (by omega) (by omega), if_neg (by omega)]
      exact congrArg some (decide_eq_false (by omega))
    obtain ⟨l, h, sf, sb⟩ := sin_tells (a := a0) (by omega) (by omega)
    obtain ⟨l', h', cf, cb⟩ := cos_tells (a := a0) (by omega) (by omega)
    have r0 : 0 ≤ a0 % 1000000000 := by omega
    have r1 : a0 % 1000000000 < 1000000000 := by omega
    have hm : ephemerisref2_Mod.f a0 1000000000 = some (a0 % 1000000000) := mod_pos (by omega) (by omega)
    have ec : (a0 + 250000000) % 1000000000 = (a0 % 1000000000 + 250000000) % 1000000000 := by omega
    rw [ec] at cb
    generalize a0 % 1000000000 = r at *
    obtain ⟨n1, n2⟩ := cos_near r0 r1
    obtain ⟨s, c', rf, ⟨e1, e2⟩, ⟨e3, e4⟩, ⟨e5, e6⟩, e7, e8⟩ := sincos_tells (a := r * 1000000) (by omega)
    rw [show r * 1000000 % 1000000000000000 = r * 1000000 by omega, ag_st r0] at e1 e2 e3 e4
    obtain ⟨t1, t2, t3, t4⟩ := T_bound (st r)
    have A := held (s := s) sb.1 (box_lo (v := sinT (st r)) sb (by grind)) (box_hi (v := sinT (st r)) sb (by grind)) t3 t4 e1 e2 e5 e6
    have B := held (s := c') cb.1 (box_lo (v := cosT (st r)) cb n1) (box_hi (v := cosT (st r)) cb n2) t1 t2 e3 e4 e7 e8
    rw [show K + 13 = (K + 3) + 10 by omega, sf, Option.bind_some, cf, Option.bind_some, o, Option.bind_some, if_neg (by simp), hm, Option.bind_some, w64 (x := r * 1000000) (by omega) (by omega), show K + 3 + 10 = K + 13 by omega, rf, Option.bind_some, if_pos rfl, if_pos rfl]
    clear sf cf sb cb e1 e2 e3 e4 n1 n2
    generalize mx (-1000000000) l = L at *
    generalize mn 1000000000 h = H at *
    generalize mx (-1000000000) l' = L' at *
    generalize mn 1000000000 h' = H' at *
    rw [A.unit, Option.bind_some, if_pos rfl, B.unit, Option.bind_some, if_pos rfl, if_pos A.wide, if_pos B.wide, A.lo, Option.bind_some, if_neg (by simp), A.hi, Option.bind_some, if_neg (by simp), B.lo, Option.bind_some, if_neg (by simp), B.hi, Option.bind_some]
    rfl
end Go.Proofs.Ytelcegpaakbppaa.Pure
