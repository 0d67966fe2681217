/- The reference's numbers of six digits: ToWide, Times, Product, Compare, Fine. -/
import Derived.Test.YtelcegpaakbppaaAstrolabeStarsn11
import Derived.Test.YtelcegpaakbppaaAstrolabeStarsn17
import Derived.Test.YtelcegpaakbppaaAstrolabeStarsn10
import Derived.Test.YtelcegpaakbppaaAstrolabeStarsn0
namespace Go.Proofs.Ytelcegpaakbppaa.WideT
open Go Go.RowKit Go.Proofs.YtelcegpaakbppaaW.PrintWords Go.Proofs.YtelcegpaakbppaaW.PrintLast Go.Proofs.Ytelcegpaakbppaa.PAll Go.Proofs.Ytelcegpaakbppaa.Base Go.Proofs.Ytelcegpaakbppaa.WideN
set_option linter.unusedVariables false
set_option linter.unusedSimpArgs false
theorem ob_ev {α β : Type} {g : Nat → Option α} {f : Nat → α → Option β} {a : α} {r : β} (h : Ev g a) (k : Ev (fun n => f n a) r) : Ev (fun n => Sx.ob (g n) (f n)) r := by
  refine Ev.congr (fun n => Sx.ob_eq _ _) ?_
  exact ev_bind h k
theorem oif_pos {β : Type} {c : Prop} [inst : Decidable c] {A B : Option β} (h : c) : Sx.oif c A B = A := by rw [Sx.oif_eq, if_pos h]
theorem oif_neg {β : Type} {c : Prop} [inst : Decidable c] {A B : Option β} (h : ¬ c) : Sx.oif c A B = B := by rw [Sx.oif_eq, if_neg h]
theorem iw (x : Int) : IntKind.i64.wrap x = wrap64 x := i64_w x
abbrev WT := Bool × Int × Int × Int × Int × Int × Int
/-- digits, and what they stand for -/
structure WD (w : WT) (v : Int) : Prop where
  d0 : Dig w.2.1
  d1 : Dig w.2.2.1
  d2 : Dig w.2.2.2.1
  d3 : Dig w.2.2.2.2.1
  d4 : Dig w.2.2.2.2.2.1
  d5 : Dig w.2.2.2.2.2.2
  val : sv w.1 (dv w.2.1 w.2.2.1 w.2.2.2.1 w.2.2.2.2.1 w.2.2.2.2.2.1 w.2.2.2.2.2.2) = v
structure WS (w : WT) (v : Int) : Prop where
  d0 : Dig w.2.1
  d1 : Dig w.2.2.1
  d2 : Dig w.2.2.2.1
  d3 : w.2.2.2.2.1 = 0
  d4 : w.2.2.2.2.2.1 = 0
  d5 : w.2.2.2.2.2.2 = 0
  val : sv w.1 (w.2.1 + 1000000000 * w.2.2.1 + 1000000000000000000 * w.2.2.2.1) = v
theorem dig_pos {β : Type} {a : Int} {X : Int → Int → Option β} {Y : Int → Option β} {P : β → Prop} (h : 0 ≤ a) (hy : ∀ d, d = a % 1000000000 → ∃ r, Y d = some r ∧ P r) :
    ∃ r, Sx.ol (a.tmod 1000000000) (fun n1 => Sx.oif (decide (n1 < 0) = true) (Sx.ol (IntKind.i64.wrap (0 - n1)) fun n2 => X n1 n2) (Y n1)) = some r ∧ P r := by
  rw [Sx.ol_eq, Int.tmod_eq_emod_of_nonneg h, oif_neg (by rw [decide_eq_true_eq]; omega)]
  exact hy _ rfl
theorem dig_neg {β : Type} {a : Int} {X : Int → Int → Option β} {Y : Int → Option β} {P : β → Prop} (h : a ≤ 0) (hx : ∀ d, d = (-a) % 1000000000 → ∃ r, X (-d) d = some r ∧ P r) (hy : (-a) % 1000000000 = 0 → ∃ r, Y 0 = some r ∧ P r) :
    ∃ r, Sx.ol (a.tmod 1000000000) (fun n1 => Sx.oif (decide (n1 < 0) = true) (Sx.ol (IntKind.i64.wrap (0 - n1)) fun n2 => X n1 n2) (Y n1)) = some r ∧ P r := by
  have e : a.tmod 1000000000 = -((-a) % 1000000000) := by
    rw [← Int.tmod_eq_emod_of_nonneg (by omega), Int.neg_tmod]; omega
  rw [Sx.ol_eq, e]
  by_cases c : (-a) % 1000000000 = 0
  · rw [oif_neg (by rw [decide_eq_true_eq]; omega), c]
    exact hy c
  · rw [oif_pos (by rw [decide_eq_true_eq]; omega), Sx.ol_eq, iw, w64 (by omega) (by omega), show (0 : Int) - -((-a) % 1000000000) = (-a) % 1000000000 by omega]
    exact hx _ rfl
theorem quo_pos {β : Type} {a : Int} {Z : Int → Option β} {P : β → Prop} (h : 0 ≤ a) (h2 : a ≤ 9223372036854775808) (hz : ∀ q, q = a / 1000000000 → ∃ r, Z q = some r ∧ P r) : ∃ r, Sx.ol (IntKind.i64.wrap (a.tdiv 1000000000)) Z = some r ∧ P r := by
  rw [Sx.ol_eq, Int.tdiv_eq_ediv_of_nonneg h, iw, w64 (by omega) (by omega)]
  exact hz _ rfl
theorem quo_neg {β : Type} {a : Int} {Z : Int → Option β} {P : β → Prop} (h : a ≤ 0) (h2 : -9223372036854775808 ≤ a) (hz : ∀ q, q = -((-a) / 1000000000) → ∃ r, Z q = some r ∧ P r) : ∃ r, Sx.ol (IntKind.i64.wrap (a.tdiv 1000000000)) Z = some r ∧ P r := by
  have e : a.tdiv 1000000000 = -((-a) / 1000000000) := by
    rw [← Int.tdiv_eq_ediv_of_nonneg (by omega), Int.neg_tdiv]; omega
  rw [Sx.ol_eq, e, iw, w64 (by omega) (by omega)]
  exact hz _ rfl
theorem towide_zero {n : Int} (h1 : -9223372036854775808 ≤ n) (h2 : n ≤ 9223372036854775807) : ∃ w, ephemerisref2_ToWide.f 0 n = some w ∧ WS w n := by
  rcases Int.lt_or_le n 0 with c | c
  · unfold ephemerisref2_ToWide.f
    have zero : ∀ (q : Int), q = 0 → (-q) % 1000000000 = 0 := by intro q h; subst h; rfl
    refine dig_neg (by omega) (fun a ha => quo_neg (by omega) (by omega) fun n1 h1 => dig_neg (by omega) (fun b hb => quo_neg (by omega) (by omega) fun n2 h2 => dig_neg (by omega) (fun c hc => ?_) (fun hc => ?_)) (fun hb => quo_neg (by omega) (by omega) fun n2 h2 => dig_neg (by omega) (fun c hc => ?_) (fun hc => ?_))) (fun ha => quo_neg (by omega) (by omega) fun n1 h1 => dig_neg (by omega) (fun b hb => quo_neg (by omega) (by omega) fun n2 h2 => dig_neg (by omega) (fun c hc => ?_) (fun hc => ?_)) (fun hb => quo_neg (by omega) (by omega) fun n2 h2 => dig_neg (by omega) (fun c hc => ?_) (fun hc => ?_)))
    all_goals
      refine quo_neg (by omega) (by omega) fun n3 h3 => dig_pos (by omega) fun d hd => quo_neg (by omega) (by omega) fun n4 h4 => dig_pos (by omega) fun e he => quo_neg (by omega) (by omega) fun n5 h5 => dig_pos (by omega) fun f hf => quo_neg (by omega) (by omega) fun n6 h6 => ⟨_, rfl, ?_⟩
      refine ⟨⟨?_, ?_⟩, ⟨?_, ?_⟩, ⟨?_, ?_⟩, ?_, ?_, ?_, ?_⟩
      all_goals try (show sv (decide (n < 0)) _ = _; unfold sv; rw [decide_eq_true (by omega), if_pos rfl])
      all_goals simp only
      all_goals omega
  · unfold ephemerisref2_ToWide.f
    refine dig_pos c fun a ha => quo_pos (by omega) (by omega) fun n1 h1 => dig_pos (by omega) fun b hb => quo_pos (by omega) (by omega) fun n2 h2 => dig_pos (by omega) fun c hc => ?_
    refine quo_pos (by omega) (by omega) fun n3 h3 => dig_pos (by omega) fun d hd => quo_pos (by omega) (by omega) fun n4 h4 => dig_pos (by omega) fun e he => quo_pos (by omega) (by omega) fun n5 h5 => dig_pos (by omega) fun f hf => quo_pos (by omega) (by omega) fun n6 h6 => ⟨_, rfl, ?_⟩
    refine ⟨⟨?_, ?_⟩, ⟨?_, ?_⟩, ⟨?_, ?_⟩, ?_, ?_, ?_, ?_⟩
    all_goals try (show sv (decide (n < 0)) _ = _; unfold sv; rw [decide_eq_false (by omega), if_neg (by simp)])
    all_goals simp only
    all_goals omega
theorem towide_ev {n : Int} (h1 : -9223372036854775808 ≤ n) (h2 : n ≤ 9223372036854775807) : ∃ w, Ev (fun k => ephemerisref2_ToWide.f k n) w ∧ WS w n := by
  obtain ⟨w, h, hw⟩ := towide_zero h1 h2
  exact ⟨w, ⟨0, fun k _ => h⟩, hw⟩
theorem col {s t : Int} (h0 : 0 ≤ s) (h1 : s ≤ 999999999999999999) (ht : s = t) : ∃ d e, s.tmod 1000000000 = d ∧ IntKind.i64.wrap (s.tdiv 1000000000) = e ∧ Dig d ∧ Dig e ∧ d + 1000000000 * e = t := by
  refine ⟨s % 1000000000, s / 1000000000, Int.tmod_eq_emod_of_nonneg h0, ?_, ⟨by omega, by omega⟩, ⟨by omega, by omega⟩, by omega⟩
  rw [Int.tdiv_eq_ediv_of_nonneg h0, iw, w64 (by omega) (by omega)]
theorem add3 {w p c s : Int} (hw : Dig w) (hp : 0 ≤ p ∧ p ≤ 999999998000000001) (hc : Dig c) (hs : s = IntKind.i64.wrap (IntKind.i64.wrap (w + IntKind.i64.wrap p) + c)) : ∃ d e, s.tmod 1000000000 = d ∧ IntKind.i64.wrap (s.tdiv 1000000000) = e ∧ Dig d ∧ Dig e ∧ d + 1000000000 * e = w + p + c := by
  obtain ⟨w0, w1⟩ := hw
  obtain ⟨p0, p1⟩ := hp
  obtain ⟨c0, c1⟩ := hc
  rw [iw, iw, iw, w64 (x := p) (by omega) (by omega), w64 (x := w + p) (by omega) (by omega), w64 (by omega) (by omega)] at hs
  exact col (by omega) (by omega) hs
theorem add2 {w c s : Int} (hw : Dig w) (hc : Dig c) (hs : s = IntKind.i64.wrap (w + c)) : ∃ d e, s.tmod 1000000000 = d ∧ IntKind.i64.wrap (s.tdiv 1000000000) = e ∧ Dig d ∧ Dig e ∧ d + 1000000000 * e = w + c := by
  obtain ⟨w0, w1⟩ := hw
  obtain ⟨c0, c1⟩ := hc
  rw [iw, w64 (by omega) (by omega)] at hs
  exact col (by omega) (by omega) hs
theorem dig_zero : Dig 0 := ⟨by omega, by omega⟩
theorem times_zero {an bn : Bool} {a0 a1 a2 a3 a4 a5 b0 b1 b2 b3 b4 b5 a b : Int} (A : WS (an, a0, a1, a2, a3, a4, a5) a) (B : WS (bn, b0, b1, b2, b3, b4, b5) b) : ∃ w, ephemerisref2_Times.f 0 an a0 a1 a2 a3 a4 a5 bn b0 b1 b2 b3 b4 b5 = some w ∧ WD w (a * b) := by
  obtain ⟨A0, A1, A2, _, _, _, Av⟩ := A
  obtain ⟨B0, B1, B2, _, _, _, Bv⟩ := B
  simp only at A0 A1 A2 B0 B1 B2 Av Bv
  have p00 := prod_dig A0 B0
  have p01 := prod_dig A0 B1
  have p02 := prod_dig A0 B2
  have p10 := prod_dig A1 B0
  have p11 := prod_dig A1 B1
  have p12 := prod_dig A1 B2
  have p20 := prod_dig A2 B0
  have p21 := prod_dig A2 B1
  have p22 := prod_dig A2 B2
  have tm := three_mul a0 a1 a2 b0 b1 b2
  unfold ephemerisref2_Times.f
  generalize a0 * b0 = q00 at *
  generalize a0 * b1 = q01 at *
  generalize a0 * b2 = q02 at *
  generalize a1 * b0 = q10 at *
  generalize a1 * b1 = q11 at *
  generalize a1 * b2 = q12 at *
  generalize a2 * b0 = q20 at *
  generalize a2 * b1 = q21 at *
  generalize a2 * b2 = q22 at *
  refine Sx.ol_goal fun n1 h1 => ?_
  obtain ⟨d1, e1, t1, u1, D1, E1, s1⟩ := add3 dig_zero p00 dig_zero h1
  rw [u1]
  refine Sx.ol_goal fun n2 h2 => ?_
  obtain ⟨d2, e2, t2, u2, D2, E2, s2⟩ := add3 dig_zero p01 E1 h2
  rw [u2]
  refine Sx.ol_goal fun n3 h3 => ?_
  obtain ⟨d3, e3, t3, u3, D3, E3, s3⟩ := add3 dig_zero p02 E2 h3
  rw [u3]
  refine Sx.ol_goal fun n4 h4 => ?_
  obtain ⟨d4, e4, t4, u4, D4, E4, s4⟩ := add2 dig_zero E3 h4
  rw [u4]
  refine Sx.ol_goal fun n5 h5 => ?_
  obtain ⟨d5, e5, t5, u5, D5, E5, s5⟩ := add2 dig_zero E4 h5
  rw [u5]
  refine Sx.ol_goal fun n6 h6 => ?_
  obtain ⟨d6, e6, t6, u6, D6, E6, s6⟩ := add2 dig_zero E5 h6
  rw [t2]
  refine Sx.ol_goal fun n7 h7 => ?_
  obtain ⟨d7, e7, t7, u7, D7, E7, s7⟩ := add3 D2 p10 dig_zero h7
  rw [t3, u7]
  refine Sx.ol_goal fun n8 h8 => ?_
  obtain ⟨d8, e8, t8, u8, D8, E8, s8⟩ := add3 D3 p11 E7 h8
  rw [t4, u8]
  refine Sx.ol_goal fun n9 h9 => ?_
  obtain ⟨d9, e9, t9, u9, D9, E9, s9⟩ := add3 D4 p12 E8 h9
  rw [t5, u9]
  refine Sx.ol_goal fun n10 h10 => ?_
  obtain ⟨d10, e10, t10, u10, D10, E10, s10⟩ := add2 D5 E9 h10
  rw [t6, u10]
  refine Sx.ol_goal fun n11 h11 => ?_
  obtain ⟨d11, e11, t11, u11, D11, E11, s11⟩ := add2 D6 E10 h11
  rw [t8]
  refine Sx.ol_goal fun n12 h12 => ?_
  obtain ⟨d12, e12, t12, u12, D12, E12, s12⟩ := add3 D8 p20 dig_zero h12
  rw [t9, u12]
  refine Sx.ol_goal fun n13 h13 => ?_
  obtain ⟨d13, e13, t13, u13, D13, E13, s13⟩ := add3 D9 p21 E12 h13
  rw [t10, u13]
  refine Sx.ol_goal fun n14 h14 => ?_
  obtain ⟨d14, e14, t14, u14, D14, E14, s14⟩ := add3 D10 p22 E13 h14
  rw [t11, u14]
  refine Sx.ol_goal fun n15 h15 => ?_
  obtain ⟨d15, e15, t15, u15, D15, E15, s15⟩ := add2 D11 E14 h15
  rw [t1, t7, t12, t13, t14, t15]
  refine ⟨_, rfl, D1, D7, D12, D13, D14, D15, ?_⟩
  clear h1 h2 h3 h4 h5 h6 h7 h8 h9 h10 h11 h12 h13 h14 h15 t1 t2 t3 t4 t5 t6 t7 t8 t9 t10 t11 t12 t13 t14 t15 u1 u2 u3 u4 u5 u6 u7 u8 u9 u10 u11 u12 u13 u14 u15
  have key : dv d1 d7 d12 d13 d14 d15 = (a0 + 1000000000 * a1 + 1000000000000000000 * a2) * (b0 + 1000000000 * b1 + 1000000000000000000 * b2) := by
    rw [tm]
    unfold dv Dig at *
    omega
  show sv (!(an == bn)) (dv d1 d7 d12 d13 d14 d15) = a * b
  rw [key, ← Av, ← Bv]
  unfold sv
  cases an <;> cases bn <;> simp [Int.neg_mul, Int.mul_neg]
theorem times_ev {x y : WT} {a b : Int} (A : WS x a) (B : WS y b) : ∃ w, Ev (fun k => ephemerisref2_Times.f k x.1 x.2.1 x.2.2.1 x.2.2.2.1 x.2.2.2.2.1 x.2.2.2.2.2.1 x.2.2.2.2.2.2 y.1 y.2.1 y.2.2.1 y.2.2.2.1 y.2.2.2.2.1 y.2.2.2.2.2.1 y.2.2.2.2.2.2) w ∧ WD w (a * b) := by
  obtain ⟨w, h, hw⟩ := times_zero A B
  exact ⟨w, ⟨0, fun k _ => h⟩, hw⟩
theorem signOf_at (k : Nat) {w : WT} {v : Int} (h : WD w v) : ephemerisref2_signOf.f k w.1 w.2.1 w.2.2.1 w.2.2.2.1 w.2.2.2.2.1 w.2.2.2.2.2.1 w.2.2.2.2.2.2 = some (sg v) := by
  obtain ⟨n, x0, x1, x2, x3, x4, x5⟩ := w
  obtain ⟨h0, h1, h2, h3, h4, h5, hv⟩ := h
  simp only at *
  unfold Dig dv sv at *
  unfold ephemerisref2_signOf.f
  have fin : ∀ (z : Int), z ≠ 0 → (n = false → 0 < v) → (n = true → v < 0) → Sx.oif ((z != 0) = true) (Sx.oif (n = true) (some (-1)) (some 1)) (some (0 : Int)) = some (sg v) := by
    intro z hz c1 c2
    rw [oif_pos (by simpa using hz)]
    cases n
    · rw [oif_neg (by simp), sg_pos (c1 rfl)]
    · rw [oif_pos rfl, sg_neg (c2 rfl)]
  have fin2 : ∀ {R : Option Int} (z : Int), z ≠ 0 → (n = false → 0 < v) → (n = true → v < 0) → Sx.oif ((z != 0) = true) (Sx.oif (n = true) (some (-1)) (some 1)) R = some (sg v) := by
    intro R z hz c1 c2
    rw [oif_pos (by simpa using hz)]
    cases n
    · rw [oif_neg (by simp), sg_pos (c1 rfl)]
    · rw [oif_pos rfl, sg_neg (c2 rfl)]
  have f1 : n = false → v = x0 + 1000000000 * x1 + 1000000000000000000 * x2 + 1000000000000000000000000000 * x3 + 1000000000000000000000000000000000000 * x4 + 1000000000000000000000000000000000000000000000 * x5 := fun e => by rw [e] at hv; simpa using hv.symm
  have f2 : n = true → v = -(x0 + 1000000000 * x1 + 1000000000000000000 * x2 + 1000000000000000000000000000 * x3 + 1000000000000000000000000000000000000 * x4 + 1000000000000000000000000000000000000000000000 * x5) := fun e => by rw [e, if_pos rfl] at hv; exact hv.symm
  clear hv
  have go : ∀ z : Int, z ≠ 0 → z = x0 ∨ z = x1 ∨ z = x2 ∨ z = x3 ∨ z = x4 ∨ z = x5 → (n = false → 0 < v) ∧ (n = true → v < 0) := by
    intro z hz hor
    exact ⟨fun e => by have := f1 e; omega, fun e => by have := f2 e; omega⟩
  have no : ∀ (z : Int) {A B : Option Int}, z = 0 → Sx.oif ((z != 0) = true) A B = B := fun z A B h => oif_neg (by simp [h])
  by_cases c0 : x0 = 0
  · rw [no _ c0]
    by_cases c1 : x1 = 0
    · rw [no _ c1]
      by_cases c2 : x2 = 0
      · rw [no _ c2]
        by_cases c3 : x3 = 0
        · rw [no _ c3]
          by_cases c4 : x4 = 0
          · rw [no _ c4]
            by_cases c5 : x5 = 0
            · rw [no _ c5]
              have : v = 0 := by
                cases hn : n
                · have := f1 hn; omega
                · have := f2 hn; omega
              rw [sg_zero this]
            · obtain ⟨g1, g2⟩ := go x5 c5 (by simp); exact fin2 _ c5 g1 g2
          · obtain ⟨g1, g2⟩ := go x4 c4 (by simp); exact fin2 _ c4 g1 g2
        · obtain ⟨g1, g2⟩ := go x3 c3 (by simp); exact fin2 _ c3 g1 g2
      · obtain ⟨g1, g2⟩ := go x2 c2 (by simp); exact fin2 _ c2 g1 g2
    · obtain ⟨g1, g2⟩ := go x1 c1 (by simp); exact fin2 _ c1 g1 g2
  · obtain ⟨g1, g2⟩ := go x0 c0 (by simp); exact fin2 _ c0 g1 g2
/-- one digit after the other, from the highest on -/
theorem level {x y A B t r : Int} {R : Option Int} (hne : x ≠ y → (x < y ↔ A < B) ∧ A ≠ B) (hr : A ≠ B → (decide (A < B) == decide (t > 0)) = true → r = -1) (hr2 : A ≠ B → ¬ (decide (A < B) == decide (t > 0)) = true → r = 1) (hz : x = y → R = some r) :
    Sx.oif ((x != y) = true) (Sx.oif ((decide (x < y) == decide (t > 0)) = true) (some (-1)) (some 1)) R = some r := by
  by_cases c : x = y
  · rw [oif_neg (by simp [c])]; exact hz c
  · obtain ⟨h1, h2⟩ := hne c
    rw [oif_pos (by simpa using c)]
    by_cases d : (decide (A < B) == decide (t > 0)) = true
    · rw [oif_pos (by rw [decide_eq_decide.2 h1]; exact d), hr h2 d]
    · rw [oif_neg (by rw [decide_eq_decide.2 h1]; exact d), hr2 h2 d]
theorem compare_ev {x y : WT} {a b : Int} (X : WD x a) (Y : WD y b) : Ev (fun k => ephemerisref2_Compare.f k x.1 x.2.1 x.2.2.1 x.2.2.2.1 x.2.2.2.2.1 x.2.2.2.2.2.1 x.2.2.2.2.2.2 y.1 y.2.1 y.2.2.1 y.2.2.2.1 y.2.2.2.2.1 y.2.2.2.2.2.1 y.2.2.2.2.2.2) (sg (a - b)) := by
  unfold ephemerisref2_Compare.f
  refine ob_ev ⟨0, fun k _ => signOf_at k X⟩ (ob_ev ⟨0, fun k _ => signOf_at k Y⟩ ?_)
  obtain ⟨n, x0, x1, x2, x3, x4, x5⟩ := x
  obtain ⟨m, y0, y1, y2, y3, y4, y5⟩ := y
  obtain ⟨h0, h1, h2, h3, h4, h5, hv⟩ := X
  obtain ⟨g0, g1, g2, g3, g4, g5, gv⟩ := Y
  simp only at *
  unfold Dig at *
  refine ev_some 0 fun k => ?_
  by_cases c : sg a = sg b
  · rw [oif_neg (by simp [c])]
    have hA : dv x0 x1 x2 x3 x4 x5 = x0 + 1000000000 * x1 + 1000000000000000000 * x2 + 1000000000000000000000000000 * x3 + 1000000000000000000000000000000000000 * x4 + 1000000000000000000000000000000000000000000000 * x5 := rfl
    have hB : dv y0 y1 y2 y3 y4 y5 = y0 + 1000000000 * y1 + 1000000000000000000 * y2 + 1000000000000000000000000000 * y3 + 1000000000000000000000000000000000000 * y4 + 1000000000000000000000000000000000000000000000 * y5 := rfl
    generalize dv x0 x1 x2 x3 x4 x5 = A at *
    generalize dv y0 y1 y2 y3 y4 y5 = B at *
    have A0 : 0 ≤ A := by omega
    have B0 : 0 ≤ B := by omega
    -- the signs agree
    have key : (0 < a ∧ a = A ∧ b = B ∧ sg a = 1) ∨ (a < 0 ∧ a = -A ∧ b = -B ∧ sg a = -1) ∨ (a = 0 ∧ b = 0 ∧ A = 0 ∧ B = 0) := by
      unfold sv at hv gv
      unfold sg at c ⊢
      cases n <;> cases m <;> simp at hv gv <;> (repeat' split at c) <;> first | omega | (exfalso; omega)
    have r1 : A ≠ B → (decide (A < B) == decide (sg a > 0)) = true → sg (a - b) = -1 := by
      intro hne h
      rcases key with ⟨k1, k2, k3, k4⟩ | ⟨k1, k2, k3, k4⟩ | ⟨k1, k2, k3, k4⟩
      · rw [k4] at h; simp at h; exact sg_neg (by omega)
      · rw [k4] at h; simp at h; exact sg_neg (by omega)
      · omega
    have r2 : A ≠ B → ¬ (decide (A < B) == decide (sg a > 0)) = true → sg (a - b) = 1 := by
      intro hne h
      rcases key with ⟨k1, k2, k3, k4⟩ | ⟨k1, k2, k3, k4⟩ | ⟨k1, k2, k3, k4⟩
      · rw [k4] at h; simp at h; exact sg_pos (by omega)
      · rw [k4] at h; simp at h; exact sg_pos (by omega)
      · omega
    refine level (A := A) (B := B) (fun h => ⟨by omega, by omega⟩) r1 r2 fun z5 => ?_
    refine level (A := A) (B := B) (fun h => ⟨by omega, by omega⟩) r1 r2 fun z4 => ?_
    refine level (A := A) (B := B) (fun h => ⟨by omega, by omega⟩) r1 r2 fun z3 => ?_
    refine level (A := A) (B := B) (fun h => ⟨by omega, by omega⟩) r1 r2 fun z2 => ?_
    refine level (A := A) (B := B) (fun h => ⟨by omega, by omega⟩) r1 r2 fun z1 => ?_
    refine level (A := A) (B := B) (fun h => ⟨by omega, by omega⟩) r1 r2 fun z0 => ?_
    have : A = B := by omega
    rw [sg_zero (by omega)]
  · rw [oif_pos (by simpa using c)]
    by_cases d : sg a < sg b
    · rw [oif_pos (by simpa using d), sg_neg]
      unfold sg at d
      (repeat' split at d) <;> omega
    · rw [oif_neg (by simpa using d), sg_pos]
      unfold sg at c d
      (repeat' split at c) <;> (repeat' split at d) <;> omega
end Go.Proofs.Ytelcegpaakbppaa.WideT
