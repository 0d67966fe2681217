/- The astrolabe: ratios of sines, and the reference's InRatio. -/
import Derived.Test.YtelcegpaakbppaaAstrolabeStarsn11
import Derived.Test.YtelcegpaakbppaaAstrolabeStarsn19
import Derived.Test.YtelcegpaakbppaaAstrolabeStarsn24
import Derived.Test.YtelcegpaakbppaaAstrolabeStarsn25
import Derived.Test.YtelcegpaakbppaaAstrolabeStarsn26
import Derived.Test.YtelcegpaakbppaaAstrolabeStarsn27
namespace Go.Proofs.Ytelcegpaakbppaa.AstroT
open Go Go.RowKit Go.Proofs.YtelcegpaakbppaaW.PrintWords Go.Proofs.YtelcegpaakbppaaW.PrintLast Go.Proofs.YtelcegpaakbppaaW.PrintMore Go.Proofs.Ytelcegpaakbppaa.PAll Go.Proofs.Ytelcegpaakbppaa.Base Go.Proofs.Ytelcegpaakbppaa.WideN Go.Proofs.Ytelcegpaakbppaa.WideT Go.Proofs.Ytelcegpaakbppaa.IvalG Go.Proofs.Ytelcegpaakbppaa.Turn Go.Proofs.Ytelcegpaakbppaa.OctT Go.Proofs.Ytelcegpaakbppaa.SinT Go.Proofs.Ytelcegpaakbppaa.RefT Go.Proofs.Ytelcegpaakbppaa.Circ Go.Proofs.Ytelcegpaakbppaa.AngT
set_option linter.unusedVariables false
set_option linter.unusedSimpArgs false
theorem sg_le {x : Int} : sg x ≤ 0 ↔ x ≤ 0 := by unfold sg; split <;> (try split) <;> omega
/-- InRatio -/
theorem inratio_ev {L H a b : Int} (l0 : -1000000000000000000 ≤ L) (l1 : L ≤ 1000000000000000000) (h0 : -1000000000000000000 ≤ H) (h1 : H ≤ 1000000000000000000) (a0 : -1200000000000000000 ≤ a) (a1 : a ≤ 1200000000000000000) (b0 : -1300000000000000000 ≤ b) (b1 : b ≤ 1300000000000000000)
    (c1 : L * (2 * b) ≤ 1000000 * (a + 1048576)) (c2 : 1000000 * (a - 1048576) ≤ H * (2 * b)) (c3 : L ≤ H) (c4 : H - L ≤ 10) : Ev (fun k => ephemerisref2_InRatio.f k L H a b) true := by
  obtain ⟨t1, e1, g1⟩ := towide_ev (n := L) (by omega) (by omega)
  obtain ⟨t2, e2, g2⟩ := towide_ev (n := 2 * b) (by omega) (by omega)
  obtain ⟨t3, e3, g3⟩ := times_ev g1 g2
  obtain ⟨t4, e4, g4⟩ := towide_ev (n := H) (by omega) (by omega)
  obtain ⟨t6, e6, g6⟩ := times_ev g4 g2
  obtain ⟨t7, e7, g7⟩ := towide_ev (n := 1000000) (by omega) (by omega)
  obtain ⟨t8, e8, g8⟩ := towide_ev (n := a - 1048576) (by omega) (by omega)
  obtain ⟨t9, e9, g9⟩ := times_ev g7 g8
  obtain ⟨u1, e11, g11⟩ := towide_ev (n := a + 1048576) (by omega) (by omega)
  obtain ⟨u2, e12, g12⟩ := times_ev g7 g11
  unfold ephemerisref2_InRatio.f
  rw [iw, iw, iw, iw, w64 (x := 2 * b) (by omega) (by omega), w64 (x := a - 1048576) (by omega) (by omega), w64 (x := a + 1048576) (by omega) (by omega), w64 (x := H - L) (by omega) (by omega)]
  refine ob_ev e1 (ob_ev e2 (ob_ev e3 (ob_ev e4 (ob_ev e2 (ob_ev e6 (ob_ev e7 (ob_ev e8 (ob_ev e9 (ob_ev e7 (ob_ev e11 (ob_ev e12 (ob_ev (compare_ev g3 g12) ?_))))))))))))
  refine Ev.congr (fun k => oif_pos (by rw [decide_eq_true_eq, sg_le]; omega)) ?_
  refine ob_ev (compare_ev g9 g6) ?_
  refine Ev.congr (fun k => oif_pos (by rw [decide_eq_true_eq, sg_le]; omega)) ?_
  refine Ev.congr (fun k => oif_pos (by rw [decide_eq_true_eq]; exact c3)) ?_
  exact ev_some 0 fun k => congrArg some (decide_eq_true c4)
theorem width_aux {L H p p' q q' : Int} (hp : p - p' ≤ 3000000) (h1 : (H - 1) * q < p) (h2 : p' < (L + 1) * q') (l0 : -1 ≤ L) (l1 : L ≤ 17300000) (q0 : 58000000 ≤ q) (q1 : 58000000 ≤ q') (d1 : q - q' ≤ 6) (d2 : q' - q ≤ 6) : H - L ≤ 3 := by
  rcases Int.lt_or_le 3 (H - L) with c | c
  · exfalso
    have k1 : (L + 3) * q ≤ (H - 1) * q := Int.mul_le_mul_of_nonneg_right (by omega) (by omega)
    rw [Int.add_mul] at k1 h2
    obtain ⟨w, hw⟩ : ∃ w, w = q - q' := ⟨_, rfl⟩
    have e : q = q' + w := by omega
    have k3 : L * q = L * q' + L * w := by rw [e, Int.mul_add]
    have k2 : -103800000 - 6 ≤ L * w := by
      rcases Int.lt_or_le w 0 with n | n
      · have := Int.mul_le_mul_of_nonneg_right l1 (show 0 ≤ -w by omega)
        rw [Int.mul_neg, Int.mul_neg] at this; omega
      · have := Int.mul_le_mul_of_nonneg_right l0 n; omega
    omega
  · exact c
/-- the program's ratio -/
theorem ratio_ev {Cl Ch Bl Bh : Int} (c0 : -10 ≤ Cl) (c1 : Ch ≤ 1000000000) (c2 : Cl ≤ Ch) (c3 : Ch - Cl ≤ 3) (b0 : 58000000 ≤ Bl) (b1 : Bh ≤ 2000000000) (b2 : Bl ≤ Bh) (b3 : Bh - Bl ≤ 6) :
    ∃ L H : Int, Ev (fun k => astrolabe_ratio.f k Cl Ch Bl Bh) (L, H) ∧ L * Bl ≤ 1000000 * Cl ∧ L * Bh ≤ 1000000 * Cl ∧ 1000000 * Ch ≤ H * Bl ∧ 1000000 * Ch ≤ H * Bh ∧ L ≤ H ∧ H - L ≤ 3 ∧ -1 ≤ L ∧ H ≤ 17300000 := by
  have hs := scale_ev (a0 := Cl) (a1 := Ch) (num := 1000000) (den := 1) (by unfold B18; omega) (by unfold B18; omega) (sp_ok (by omega) c2 (by omega)) (by omega) (by omega) (by omega) (by omega)
  rw [if_neg (by omega)] at hs
  have e : sc (Cl * 1000000) (Ch * 1000000) 1 = (1000000 * Cl, 1000000 * Ch, 0) := by
    unfold sc B18
    rw [Int.ediv_one, Int.ediv_one, if_pos (by omega)]
    congr 1
    · omega
    · congr 1; omega
  rw [e] at hs
  have n0 : Bl ≠ 0 := by omega
  have n1 : Bh ≠ 0 := by omega
  have B1 : B18 (1000000 * Cl) := by unfold B18; omega
  have B2 : B18 (1000000 * Ch) := by unfold B18; omega
  have B3 : B18 Bl := by unfold B18; omega
  have B4 : B18 Bh := by unfold B18; omega
  have z : two (1000000 * Cl) (1000000 * Ch) Bl Bh = 0 := by
    unfold two
    rw [if_pos (sp_ok (by omega) (by omega) (by omega)), sp_ok (by omega) b2 (by omega)]
  have hd := div_ev B1 B2 B3 B4 z n0 n1 (by omega)
  have den : ∀ q : Int, 58000000 ≤ q → de q = q := fun q h => by unfold de; rw [if_neg (by omega)]
  have num : ∀ p q : Int, 58000000 ≤ q → nu p q = p := fun p q h => by unfold nu; rw [if_neg (by omega)]
  obtain ⟨p1, p2, p3, p4⟩ := fl_tells (p := 1000000 * Cl) n0
  obtain ⟨q1, q2, q3, q4⟩ := fl_tells (p := 1000000 * Cl) n1
  obtain ⟨r1, r2, r3, r4⟩ := fl_tells (p := 1000000 * Ch) n0
  obtain ⟨s1, s2, s3, s4⟩ := fl_tells (p := 1000000 * Ch) n1
  rw [den Bl b0, num _ Bl b0] at *
  rw [den Bh (by omega), num _ Bh (by omega)] at *
  obtain ⟨⟨l1, l2, l3, l4⟩, lm⟩ := mn4 (fl (1000000 * Cl) Bl) (fl (1000000 * Cl) Bh) (fl (1000000 * Ch) Bl) (fl (1000000 * Ch) Bh)
  obtain ⟨⟨g1, g2, g3, g4⟩, gm⟩ := mx4 (ce (1000000 * Cl) Bl) (ce (1000000 * Cl) Bh) (ce (1000000 * Ch) Bl) (ce (1000000 * Ch) Bh)
  generalize mn (mn (mn (fl (1000000 * Cl) Bl) (fl (1000000 * Cl) Bh)) (fl (1000000 * Ch) Bl)) (fl (1000000 * Ch) Bh) = L at *
  generalize mx (mx (mx (ce (1000000 * Cl) Bl) (ce (1000000 * Cl) Bh)) (ce (1000000 * Ch) Bl)) (ce (1000000 * Ch) Bh) = H at *
  generalize fl (1000000 * Cl) Bl = x1 at *
  generalize fl (1000000 * Cl) Bh = x2 at *
  generalize fl (1000000 * Ch) Bl = x3 at *
  generalize fl (1000000 * Ch) Bh = x4 at *
  generalize ce (1000000 * Cl) Bl = y1 at *
  generalize ce (1000000 * Cl) Bh = y2 at *
  generalize ce (1000000 * Ch) Bl = y3 at *
  generalize ce (1000000 * Ch) Bh = y4 at *
  have low : ∀ x p q : Int, 58000000 ≤ q → -10000000 ≤ p → p ≤ 1000000000000000 → p < (x + 1) * q → x * q ≤ p → -1 ≤ x ∧ x ≤ 17250000 := by
    intro x p q hq hp hp2 h1 h2
    constructor
    · rcases Int.lt_or_le x (-1) with c | c
      · have := Int.mul_le_mul_of_nonneg_right (show x + 1 ≤ -1 by omega) (show 0 ≤ q by omega); omega
      · exact c
    · rcases Int.lt_or_le 17250000 x with c | c
      · have := Int.mul_le_mul_of_nonneg_right (show 17250001 ≤ x by omega) (show 0 ≤ q by omega); omega
      · exact c
  have upp : ∀ y p q : Int, 58000000 ≤ q → p ≤ 1000000000000000 → (y - 1) * q < p → y ≤ 17300000 := by
    intro y p q hq hp h
    rcases Int.lt_or_le 17300000 y with c | c
    · have := Int.mul_le_mul_of_nonneg_right (show 17300000 ≤ y - 1 by omega) (show 0 ≤ q by omega); omega
    · exact c
  obtain ⟨m1, n1'⟩ := low x1 _ Bl b0 (by omega) (by omega) p2 p1
  obtain ⟨m2, n2'⟩ := low x2 _ Bh (by omega) (by omega) (by omega) q2 q1
  obtain ⟨m3, n3'⟩ := low x3 _ Bl b0 (by omega) (by omega) r2 r1
  obtain ⟨m4, n4'⟩ := low x4 _ Bh (by omega) (by omega) (by omega) s2 s1
  have v1 := upp y1 _ Bl b0 (by omega) p4
  have v2 := upp y2 _ Bh (by omega) (by omega) q4
  have v3 := upp y3 _ Bl b0 (by omega) r4
  have v4 := upp y4 _ Bh (by omega) (by omega) s4
  have hL : -1 ≤ L ∧ L ≤ 17300000 := by omega
  refine ⟨L, H, ?_, ?_, ?_, ?_, ?_, ?_, ?_, hL.1, by omega⟩
  · unfold astrolabe_ratio.f
    exact ob_ev hs (ob_ev hd (ev_some 0 fun k => rfl))
  · exact Int.le_trans (Int.mul_le_mul_of_nonneg_right l1 (by omega)) p1
  · exact Int.le_trans (Int.mul_le_mul_of_nonneg_right l2 (by omega)) q1
  · exact Int.le_trans r3 (Int.mul_le_mul_of_nonneg_right g3 (by omega))
  · exact Int.le_trans s3 (Int.mul_le_mul_of_nonneg_right g4 (by omega))
  · rcases Int.lt_or_le H L with c | c
    · exfalso
      have k1 := Int.mul_le_mul_of_nonneg_right (show H + 1 ≤ x1 by omega) (show 0 ≤ Bl by omega)
      have k2 := Int.mul_le_mul_of_nonneg_right (show y1 ≤ H by omega) (show 0 ≤ Bl by omega)
      rw [Int.add_mul] at k1
      omega
    · exact c
  · rcases gm with h | h | h | h <;> rcases lm with l | l | l | l
    · exact width_aux (p := 1000000 * Cl) (p' := 1000000 * Cl) (q := Bl) (q' := Bl) (by omega) (by rw [h]; exact p4) (by rw [l]; exact p2) hL.1 hL.2 (by omega) (by omega) (by omega) (by omega)
    · exact width_aux (p := 1000000 * Cl) (p' := 1000000 * Cl) (q := Bl) (q' := Bh) (by omega) (by rw [h]; exact p4) (by rw [l]; exact q2) hL.1 hL.2 (by omega) (by omega) (by omega) (by omega)
    · exact width_aux (p := 1000000 * Cl) (p' := 1000000 * Ch) (q := Bl) (q' := Bl) (by omega) (by rw [h]; exact p4) (by rw [l]; exact r2) hL.1 hL.2 (by omega) (by omega) (by omega) (by omega)
    · exact width_aux (p := 1000000 * Cl) (p' := 1000000 * Ch) (q := Bl) (q' := Bh) (by omega) (by rw [h]; exact p4) (by rw [l]; exact s2) hL.1 hL.2 (by omega) (by omega) (by omega) (by omega)
    · exact width_aux (p := 1000000 * Cl) (p' := 1000000 * Cl) (q := Bh) (q' := Bl) (by omega) (by rw [h]; exact q4) (by rw [l]; exact p2) hL.1 hL.2 (by omega) (by omega) (by omega) (by omega)
    · exact width_aux (p := 1000000 * Cl) (p' := 1000000 * Cl) (q := Bh) (q' := Bh) (by omega) (by rw [h]; exact q4) (by rw [l]; exact q2) hL.1 hL.2 (by omega) (by omega) (by omega) (by omega)
    · exact width_aux (p := 1000000 * Cl) (p' := 1000000 * Ch) (q := Bh) (q' := Bl) (by omega) (by rw [h]; exact q4) (by rw [l]; exact r2) hL.1 hL.2 (by omega) (by omega) (by omega) (by omega)
    · exact width_aux (p := 1000000 * Cl) (p' := 1000000 * Ch) (q := Bh) (q' := Bh) (by omega) (by rw [h]; exact q4) (by rw [l]; exact s2) hL.1 hL.2 (by omega) (by omega) (by omega) (by omega)
    · exact width_aux (p := 1000000 * Ch) (p' := 1000000 * Cl) (q := Bl) (q' := Bl) (by omega) (by rw [h]; exact r4) (by rw [l]; exact p2) hL.1 hL.2 (by omega) (by omega) (by omega) (by omega)
    · exact width_aux (p := 1000000 * Ch) (p' := 1000000 * Cl) (q := Bl) (q' := Bh) (by omega) (by rw [h]; exact r4) (by rw [l]; exact q2) hL.1 hL.2 (by omega) (by omega) (by omega) (by omega)
    · exact width_aux (p := 1000000 * Ch) (p' := 1000000 * Ch) (q := Bl) (q' := Bl) (by omega) (by rw [h]; exact r4) (by rw [l]; exact r2) hL.1 hL.2 (by omega) (by omega) (by omega) (by omega)
    · exact width_aux (p := 1000000 * Ch) (p' := 1000000 * Ch) (q := Bl) (q' := Bh) (by omega) (by rw [h]; exact r4) (by rw [l]; exact s2) hL.1 hL.2 (by omega) (by omega) (by omega) (by omega)
    · exact width_aux (p := 1000000 * Ch) (p' := 1000000 * Cl) (q := Bh) (q' := Bl) (by omega) (by rw [h]; exact s4) (by rw [l]; exact p2) hL.1 hL.2 (by omega) (by omega) (by omega) (by omega)
    · exact width_aux (p := 1000000 * Ch) (p' := 1000000 * Cl) (q := Bh) (q' := Bh) (by omega) (by rw [h]; exact s4) (by rw [l]; exact q2) hL.1 hL.2 (by omega) (by omega) (by omega) (by omega)
    · exact width_aux (p := 1000000 * Ch) (p' := 1000000 * Ch) (q := Bh) (q' := Bl) (by omega) (by rw [h]; exact s4) (by rw [l]; exact r2) hL.1 hL.2 (by omega) (by omega) (by omega) (by omega)
    · exact width_aux (p := 1000000 * Ch) (p' := 1000000 * Ch) (q := Bh) (q' := Bh) (by omega) (by rw [h]; exact s4) (by rw [l]; exact s2) hL.1 hL.2 (by omega) (by omega) (by omega) (by omega)
/-- between two bounds -/
theorem betw {L x0 x1 m x : Rat} (h0 : x0 ≤ x) (h1 : x ≤ x1) (a : L * x0 ≤ m) (b : L * x1 ≤ m) : L * x ≤ m := by
  rcases (Rat.le_total : (0 : Rat) ≤ L ∨ L ≤ 0) with n | n
  · exact Rat.le_trans (Rat.mul_le_mul_of_nonneg_left h1 n) b
  · have k := Rat.mul_le_mul_of_nonneg_left h0 (show 0 ≤ -L by grind)
    grind
theorem betw' {L x0 x1 m x : Rat} (h0 : x0 ≤ x) (h1 : x ≤ x1) (a : m ≤ L * x0) (b : m ≤ L * x1) : m ≤ L * x := by
  have := betw (L := -L) (m := -m) h0 h1 (by grind) (by grind)
  grind
theorem icast {a b c d : Int} (h : a * b ≤ c * d) : (a : Rat) * (b : Rat) ≤ (c : Rat) * (d : Rat) := by exact_mod_cast h
theorem prod_small {x e X E : Rat} (h1 : -X ≤ x) (h2 : x ≤ X) (h3 : -E ≤ e) (h4 : e ≤ E) : -(X * E) ≤ x * e ∧ x * e ≤ X * E := OctT.abs_mul h1 h2 h3 h4
/-- what the ratio says of real numbers: within it, with some room, lies a million times γ / δ -/
structure RR (L H : Int) (γ δ : Rat) : Prop where
  le : L ≤ H
  wide : H - L ≤ 3
  l0 : -1 ≤ L
  h1 : H ≤ 17300000
  lo : (L : Rat) * (1000000000 * δ) ≤ 1000000 * (1000000000 * γ - 99 / 100)
  hi : 1000000 * (1000000000 * γ + 99 / 100) ≤ (H : Rat) * (1000000000 * δ) ∨ 500000 ≤ H ∧ 1000000000000000 ≤ (H : Rat) * (1000000000 * δ - 99 / 100) ∧ γ ≤ 1
theorem ratio_rr {L H Cl Ch Bl Bh : Int} {γ δ : Rat} (h1 : L * Bl ≤ 1000000 * Cl) (h2 : L * Bh ≤ 1000000 * Cl) (h3 : 1000000 * Ch ≤ H * Bl) (h4 : 1000000 * Ch ≤ H * Bh) (hl : -1 ≤ L) (hL : L ≤ H) (hw : H - L ≤ 3) (hh : H ≤ 17300000)
    (b0 : 58000000 ≤ Bl) (b1 : Bh ≤ 2000000000) (d0 : (Bl : Rat) ≤ 1000000000 * δ - 99 / 100) (d1 : 1000000000 * δ ≤ (Bh : Rat)) (c0 : (Cl : Rat) ≤ 1000000000 * γ - 99 / 100) (c1 : 1000000000 * γ + 99 / 100 ≤ (Ch : Rat) ∨ Ch = 1000000000 ∧ γ ≤ 1) : RR L H γ δ := by
  have r1 := icast h1
  have r2 := icast h2
  have r3 := icast h3
  have r4 := icast h4
  have k1 := betw (L := (L : Rat)) (x := 1000000000 * δ) (by clear r1 r2 r3 r4; grind) d1 r1 r2
  have k2 := betw' (L := (H : Rat)) (x := 1000000000 * δ) (by clear r1 r2 r3 r4 k1; grind) d1 r3 r4
  push_cast at k1 k2
  refine ⟨hL, hw, hl, hh, ?_, ?_⟩
  · refine Rat.le_trans k1 ?_
    clear r1 r2 r3 r4 k1 k2
    grind
  · rcases c1 with c | ⟨c, c'⟩
    · left
      refine Rat.le_trans ?_ k2
      clear r1 r2 r3 r4 k1 k2
      grind
    · right
      subst c
      have hp : 500000 ≤ H := by
        rcases Int.lt_or_le H 500000 with n | n
        · exfalso
          rcases Int.lt_or_le H 0 with m | m
          · have := Int.mul_le_mul_of_nonneg_right (show H ≤ 0 by omega) (show 0 ≤ Bl by omega); omega
          · have := Int.mul_le_mul_of_nonneg_left b1 m; omega
        · exact n
      have hp' : (500000 : Rat) ≤ (H : Rat) := by have := cle hp; push_cast at this; exact this
      have k3 : (H : Rat) * (Bl : Rat) ≤ (H : Rat) * (1000000000 * δ - 99 / 100) := Rat.mul_le_mul_of_nonneg_left d0 (by clear r1 r2 r3 r4 k1 k2; grind)
      push_cast at r3
      refine ⟨hp, Rat.le_trans ?_ k3, c'⟩
      clear r1 r2 r4 k1 k2 k3
      grind
theorem hi_case {l h : Int} {w v : Rat} (b : Box l h w) (d : v - w ≤ 1 / 100000000000000000000) (v1 : v ≤ 1) : 1000000000 * v + 99 / 100 ≤ ((mn 1000000000 h : Int) : Rat) ∨ mn 1000000000 h = 1000000000 ∧ v ≤ 1 := by
  obtain ⟨_, _, b2⟩ := b
  rcases Int.lt_or_le h 1000000000 with c | c
  · left
    rw [show mn 1000000000 h = h by unfold mn; rw [if_pos c]]
    grind
  · right
    refine ⟨?_, v1⟩
    unfold mn; rw [if_neg (by omega)]
theorem box_rat {l h : Int} {w : Rat} (b : Box l h w) : (h : Rat) = (l : Rat) + 3 := by
  have : ((h - l : Int) : Rat) = ((3 : Int) : Rat) := by rw [b.1]
  push_cast at this
  grind
/-- a ratio of a cosine and a sum of two numbers from the program -/
theorem ratio_of {cl ch Bl Bh : Int} {wc γ δ : Rat} (bc : Box cl ch wc) (n1 : wc - γ ≤ 1 / 100000000000000000000) (n2 : γ - wc ≤ 1 / 100000000000000000000) (g0 : -(1 / 1000000000000) ≤ γ) (g1 : γ ≤ 1)
    (b0 : 58000000 ≤ Bl) (b1 : Bh ≤ 2000000000) (b2 : Bl ≤ Bh) (b3 : Bh - Bl ≤ 6) (d0 : (Bl : Rat) ≤ 1000000000 * δ - 99 / 100) (d1 : 1000000000 * δ ≤ (Bh : Rat)) :
    ∃ L H, Ev (fun k => astrolabe_ratio.f k (mx (-1000000000) cl) (mn 1000000000 ch) Bl Bh) (L, H) ∧ RR L H γ δ := by
  have hr := box_rat bc
  have lo : mx (-1000000000) cl = cl := lo_un bc (by grind)
  obtain ⟨x1, x2, x3⟩ := bc
  have c0 : -5 ≤ cl := by
    refine int_of_rat ?_
    push_cast
    grind
  have c1 : cl ≤ 1000000000 := by
    refine int_of_rat ?_
    push_cast
    grind
  rw [lo]
  have m1 : mn 1000000000 ch ≤ 1000000000 ∧ mn 1000000000 ch ≤ ch ∧ cl ≤ mn 1000000000 ch := by unfold mn; split <;> omega
  obtain ⟨L, H, e, h1, h2, h3, h4, h5, h6, h7, h8⟩ := ratio_ev (Cl := cl) (Ch := mn 1000000000 ch) (Bl := Bl) (Bh := Bh) (by omega) m1.1 m1.2.2 (by omega) b0 b1 b2 b3
  refine ⟨L, H, e, ratio_rr h1 h2 h3 h4 h7 h5 h6 h8 b0 b1 d0 d1 ?_ ?_⟩
  · clear hr e h1 h2 h3 h4
    grind
  · exact hi_case ⟨x1, x2, x3⟩ n2 g1
end Go.Proofs.Ytelcegpaakbppaa.AstroT
