/- DialShadows: a shadow's arc contains the direction of the document. -/
import Derived.Test.YtedakilpogagiaaDialShadowsn18
import Derived.Test.YtedakilpogagiaaDialShadowsn52
namespace Go.Proofs.Ytedakilpogagiaa.Pure
open Go Go.RowKit YtedakilpogagiaaW.PrintWords YtedakilpogagiaaW.PrintLast YtedakilpogagiaaW.PrintMore Opn PAll Base RefT Turn OctT Circ Over Units Args Vals SkyT Cone ArcT EqT EqN SkyV ShadowT
set_option linter.unusedVariables false
set_option linter.unusedSimpArgs false
theorem dial_works : Ev (fun k => ephemerislaw2_dialWorks.f k) true := Ev.of ephemerislaw2_dialWorks.mono (k := 120) (by decide +kernel)
theorem none_at (e : Int) : ephemerislaw2_none.f 0 0 e e = some true := by unfold ephemerislaw2_none.f; simp
theorem none_not (a b : Int) {e x : Int} (h : e ≠ x) : ephemerislaw2_none.f a b e x = some false := by unfold ephemerislaw2_none.f; rw [if_neg h]
theorem eqz {x : Int} (h : x = 0) : (x == 0) = true := by simp [h]
theorem neq {x : Int} (h : x ≠ 0) : ¬ (x == 0) = true := by simp [h]
theorem real_nr {d : Int} {a b : Rat} (h : Nr ((d : Rat) - u * a) 100000000) (k : Nr (a - b) (1 / 1000000000000000)) : Nr ((d : Rat) - u * b) 110000000 := by
  rw [u_eq] at *
  unfold Nr at *
  constructor <;> grind
theorem azimuth_ev {lon lat r0 r1 d0 d1 t e0 e1 n0 n1 : Int} (h : Ev (fun k => place_Ground.f k lon lat r0 r1 d0 d1 t) (e0, e1, n0, n1, 0)) {x : Int × Int × Int} (k : Ev (fun k => trig_Arc.f k e0 e1 n0 n1) x) : Ev (fun k => place_Azimuth.f k lon lat r0 r1 d0 d1 t) x := by
  unfold place_Azimuth.f
  refine ob_ev h ?_
  refine Ev.congr (fun k => oif_neg (bne0 rfl)) ?_
  exact ob_ev k (ev_some 0 fun k => rfl)
theorem he_ok {lon lat r0 r1 d0 d1 t : Int} (h : PlaceT.pe lon lat = 0) (ht : it t = 0) (r : r0 ≤ r1) (a : 0 ≤ r0) (b : r1 ≤ 2000000000) (d : d0 ≤ d1) (c : -250000000 ≤ d0) (e : d1 ≤ 250000000) : PlaceT.he lon lat r0 r1 d0 d1 t = 0 := by
  unfold PlaceT.he
  rw [h, ht, sp_zero' (by omega) r (by omega), sp_zero' (by omega) d (by omega), if_neg (by omega), if_neg (by omega), if_neg (by omega), if_neg (by omega), if_neg (by omega)]
theorem cr_prod (θ α : Int) (c : Rat) : cr θ (c * S α) (c * C α) = c * (C θ * S α - S θ * C α) ∧ dt θ (c * S α) (c * C α) = c * (C θ * C α + S θ * S α) := by
  unfold cr dt
  constructor <;> grind
theorem side_nr {c s w : Rat} (h : Nr (s - w) (1 / 10000000000000000000)) (c0 : -1 ≤ c) (c1 : c ≤ 1) : Nr (c * -w - -(c * s)) (1 / 1000000000000000) := by
  have k := OctT.abs_mul c0 c1 h.1 h.2
  have e : c * -w - -(c * s) = c * (s - w) := by grind
  rw [e]
  unfold Nr
  constructor <;> grind
theorem north_nr {f z g c k w : Rat} (h : Nr (k - w) (1 / 10000000000000000000)) (c0 : -1 ≤ c) (c1 : c ≤ 1) (g0 : -1 ≤ g) (g1 : g ≤ 1) : Nr (f * z - g * (c * w) - (f * z - g * (c * k))) (1 / 1000000000000000) := by
  have m := OctT.abs_mul c0 c1 h.1 h.2
  have n := OctT.abs_mul g0 g1 m.1 m.2
  have e : f * z - g * (c * w) - (f * z - g * (c * k)) = g * (c * (k - w)) := by grind
  rw [e]
  unfold Nr
  constructor <;> grind
theorem unit_xy (α δ : Int) : (C δ * C α) * (C δ * C α) + (C δ * S α) * (C δ * S α) ≤ 1 := by
  have h1 := SC_sq α
  have h2 := SC_sq δ
  have h3 := Turn.sq_nonneg (S δ)
  have e : (C δ * C α) * (C δ * C α) + (C δ * S α) * (C δ * S α) = C δ * C δ * (C α * C α + S α * S α) := by grind
  rw [e, h1, Rat.mul_one]
  generalize C δ * C δ = a at *
  generalize S δ * S δ = b at *
  clear h1 e
  grind
def dsT (k : Nat) (lon lat t : Int) (t2 : Int × Int × Int) : Option Bool :=
   Sx.ob (ephemerisref2_PlaceErr.f lon lat) fun t3 =>
   Sx.oif ((t3 == 0) = true) (
    Sx.ob (ephemerisref2_InstantErr.f t) fun t4 =>
    Sx.oif ((t4 != 0) = true) (
     Sx.ob (ephemerislaw2_none.f t2.fst t2.snd.fst t2.snd.snd t4) fun t5 =>
     some (t5)) (
     Sx.ob (sun_At.f k t) fun t6 =>
     Sx.ob (place_Height.f k lon lat t6.fst t6.snd.fst t6.snd.snd.fst t6.snd.snd.snd.fst t) fun t7 =>
     Sx.oif (decide (t7.fst ≤ 0) = true) (
      Sx.ob (ephemerislaw2_none.f t2.fst t2.snd.fst t2.snd.snd 6) fun t8 =>
      some (t8)) (
      Sx.ob (ephemerisref2_Body.f k 0 t 0 0) fun t9 =>
      Sx.ob (ephemerisref2_Above.f k lon lat t9.fst t9.snd.fst t9.snd.snd t) fun t10 =>
      Sx.ob (ephemerislaw2_none.f t2.fst t2.snd.fst t2.snd.snd 11) fun t11 =>
      Sx.oif (t11 = true) (
       some (true)) (
       Sx.oif ((t2.snd.snd == 0) = true) (
        Sx.ob (ephemerisref2_InArc.f k t2.fst t2.snd.fst (IntKind.i64.wrap (0 - t10.snd.fst)) (IntKind.i64.wrap (0 - t10.snd.snd))) fun t12 =>
        some (t12)) (
        some (false)))))) (
    Sx.oif ((t3 != 0) = true) (
     Sx.ob (ephemerislaw2_none.f t2.fst t2.snd.fst t2.snd.snd t3) fun t13 =>
     some (t13)) (
     Sx.ob (sun_At.f k t) fun t14 =>
     Sx.ob (place_Height.f k lon lat t14.fst t14.snd.fst t14.snd.snd.fst t14.snd.snd.snd.fst t) fun t15 =>
     Sx.oif (decide (t15.fst ≤ 0) = true) (
      Sx.ob (ephemerislaw2_none.f t2.fst t2.snd.fst t2.snd.snd 6) fun t16 =>
      some (t16)) (
      Sx.ob (ephemerisref2_Body.f k 0 t 0 0) fun t17 =>
      Sx.ob (ephemerisref2_Above.f k lon lat t17.fst t17.snd.fst t17.snd.snd t) fun t18 =>
      Sx.ob (ephemerislaw2_none.f t2.fst t2.snd.fst t2.snd.snd 11) fun t19 =>
      Sx.oif (t19 = true) (
       some (true)) (
       Sx.oif ((t2.snd.snd == 0) = true) (
        Sx.ob (ephemerisref2_InArc.f k t2.fst t2.snd.fst (IntKind.i64.wrap (0 - t18.snd.fst)) (IntKind.i64.wrap (0 - t18.snd.snd))) fun t20 =>
        some (t20)) (
        some (false))))))
theorem neg1 {x : Rat} (h : -1 ≤ x ∧ x ≤ 1) : -1 ≤ -x ∧ -x ≤ 1 := by constructor <;> grind
theorem size_of2 {a : Int} {x : Rat} (h : Nr ((a : Rat) - u * x) 110000000) (x0 : -1 ≤ x) (x1 : x ≤ 1) : -1200000000000000000 ≤ a ∧ a ≤ 1200000000000000000 := by
  rw [u_eq] at h
  unfold Nr at h
  constructor
  · refine int_of_rat ?_
    push_cast
    grind
  · refine int_of_rat ?_
    push_cast
    grind
section
variable {lon lat t A0 A1 B0 B1 H0 H1 : Int} (pc : place_Check.f lon lat = some 0) (eA : Ev (fun k => sun_At.f k t) (A0, A1, B0, B1, 0)) (eH : Ev (fun k => place_Height.f k lon lat A0 A1 B0 B1 t) (H0, H1, 0)) (cH : ¬ H0 ≤ 0)
include pc eA eH cH
theorem shadow_none {e : Int} (eZ : Ev (fun k => place_Azimuth.f k lon lat A0 A1 B0 B1 t) (0, 0, e)) (e0 : e ≠ 0) : Ev (fun k => dial_Shadow.f k lon lat t) (0, 0, e) := by
  unfold dial_Shadow.f
  refine ob_ev (ev_some 0 fun k => pc) ?_
  refine Ev.congr (fun k => oif_neg (bne0 rfl)) ?_
  refine ob_ev eA ?_
  refine Ev.congr (fun k => oif_neg (bne0 rfl)) ?_
  refine ob_ev eH ?_
  refine Ev.congr (fun k => oif_neg (by rw [decide_eq_true_eq]; exact cH)) ?_
  refine ob_ev eZ ?_
  exact Ev.congr (fun k => oif_pos (bne1 e0)) (ev_some 0 fun k => rfl)
theorem shadow_some {z0 z1 : Int} (eZ : Ev (fun k => place_Azimuth.f k lon lat A0 A1 B0 B1 t) (z0, z1, 0)) (b0 : 0 ≤ z0) (b1 : z0 ≤ 1000000000) (b2 : 0 ≤ z1) (b3 : z1 ≤ 2000000000) : Ev (fun k => dial_Shadow.f k lon lat t) ((z0 + 500000000) % 1000000000, z1 + 500000000 - (z0 + 500000000) / 1000000000 * 1000000000, 0) := by
  unfold dial_Shadow.f
  refine ob_ev (ev_some 0 fun k => pc) ?_
  refine Ev.congr (fun k => oif_neg (bne0 rfl)) ?_
  refine ob_ev eA ?_
  refine Ev.congr (fun k => oif_neg (bne0 rfl)) ?_
  refine ob_ev eH ?_
  refine Ev.congr (fun k => oif_neg (by rw [decide_eq_true_eq]; exact cH)) ?_
  refine ob_ev eZ ?_
  refine Ev.congr (fun k => oif_neg (bne0 rfl)) ?_
  rw [iw, iw, w64 (x := z0 + 500000000) (by omega) (by omega), w64 (x := z1 + 500000000) (by omega) (by omega)]
  exact ob_ev (ev_some 0 fun k => sreduced_at (by omega) (by omega) (by omega) (by omega)) (ev_some 0 fun k => rfl)
end
theorem DialShadows : PureX := by
  intro s t wp wt
  obtain ⟨lon, lat⟩ := s
  refine ev_k ?_
  show Ev (fun k => ephemerislaw2_DialShadows.f k lon lat t) true
  unfold ephemerislaw2_DialShadows.f
  refine ob_ev dial_works ?_
  refine Ev.congr (fun k => oif_pos rfl) ?_
  by_cases hp : PlaceT.pe lon lat = 0
  · by_cases ht : it t = 0
    · obtain ⟨A0, A1, B0, B1, X, Y, Z, α, δ, eA, ⟨b0, b1, b2⟩, ⟨a0, a1, a2, a3⟩, eB, c1, c2, c3, c4, nX, nY, nZ⟩ := sunAt_real ht
      have hh := he_ok (r0 := A0) (r1 := A1) (d0 := B0) (d1 := B1) hp ht a0 a2 (by omega) b2 b0 b1
      obtain ⟨_, _, _, _, _, _, _, _, _, _, al, ah, bl, bh, ml, mh, eH, _⟩ := PlaceT.height_ev hh
      generalize mx (-1000000000) (mn 1000000000 (al + ml)) = H0 at *
      generalize mx (-1000000000) (mn 1000000000 (ah + mh)) = H1 at *
      have pc : place_Check.f lon lat = some 0 := by rw [PlaceT.check_at, hp]
      by_cases cH : H0 ≤ 0
      · have eS : Ev (fun k => dial_Shadow.f k lon lat t) (0, 0, 6) := by
          unfold dial_Shadow.f
          refine ob_ev (ev_some 0 fun k => pc) ?_
          refine Ev.congr (fun k => oif_neg (bne0 rfl)) ?_
          refine ob_ev eA ?_
          refine Ev.congr (fun k => oif_neg (bne0 rfl)) ?_
          refine ob_ev eH ?_
          exact Ev.congr (fun k => oif_pos (by rw [decide_eq_true_eq]; exact cH)) (ev_some 0 fun k => rfl)
        refine ob_ev eS (ob_ev (ev_some 0 fun k => PlaceT.placeErr_at lon lat) ?_)
        refine Ev.congr (fun k => oif_pos (eqz hp)) ?_
        refine ob_ev (ev_some 0 fun k => instErr_at t) ?_
        refine Ev.congr (fun k => oif_neg (bne0 ht)) ?_
        refine ob_ev eA (ob_ev eH ?_)
        refine Ev.congr (fun k => oif_pos (by rw [decide_eq_true_eq]; exact cH)) ?_
        exact ob_ev (ev_some 0 fun k => none_at 6) (ev_some 0 fun k => rfl)
      · obtain ⟨e0, e1, n0, n1, eG, ⟨g1, g2, g3⟩, ⟨g4, g5, g6⟩, tell⟩ := PlaceG.ground_ev hh
        obtain ⟨η, ξ, ⟨h1, h2⟩, ⟨h3, h4⟩, nη, nξ⟩ := tell α δ c1 c2 c3 c4
        obtain ⟨q1, q2, q3, q4⟩ := SC_bound δ
        obtain ⟨p1, p2, p3, p4⟩ := SC_bound α
        obtain ⟨w1, w2, w3, w4⟩ := SC_bound (lat * 1000000)
        have x1 := AboveT.prod1 q1 q2 p1 p2
        have x2 := AboveT.prod1 q1 q2 p3 p4
        obtain ⟨up, east, north, eU, _, nE, nN⟩ := AboveT.above_ev (lon := lon) (lat := lat) (t := t) hp ht nX nY nZ (unit_xy α δ) x1.1 x1.2 x2.1 x2.2 q3 q4
        obtain ⟨k1, k2⟩ := cr_prod (PlaceT.rsid lon t) α (C δ)
        obtain ⟨d1, d2⟩ := diff_pair (PlaceT.rsid lon t) α
        have pl := (AboveT.plane (θ := PlaceT.rsid lon t) (unit_xy α δ)).1
        have ns := PlaceG.north_size (f := lat * 1000000) (d := δ) (h := PlaceT.rsid lon t - α)
        have rE : Nr ((east : Rat) - u * -(C δ * S (PlaceT.rsid lon t - α))) 110000000 := by
          refine real_nr nE ?_
          rw [k1, show C (PlaceT.rsid lon t) * S α - S (PlaceT.rsid lon t) * C α = -(S (PlaceT.rsid lon t) * C α - C (PlaceT.rsid lon t) * S α) by rw [Rat.neg_sub]]
          exact side_nr d1 q1 q2
        have rN : Nr ((north : Rat) - u * (C (lat * 1000000) * S δ - S (lat * 1000000) * (C δ * C (PlaceT.rsid lon t - α)))) 110000000 := by
          refine real_nr nN ?_
          rw [k2]
          exact north_nr d2 q1 q2 w3 w4
        obtain ⟨o1, o2, o3, o4⟩ := SC_bound (PlaceT.rsid lon t - α)
        have x3 := neg1 (AboveT.prod1 q1 q2 o3 o4)
        have f1 := size_of2 rE x3.1 x3.2
        have f2 := size_of2 rN ns.1 ns.2
        have sy : sp e0 e1 = 0 := sp_zero' (by omega) (by omega) (by omega)
        have sx : sp n0 n1 = 0 := sp_zero' (by omega) (by omega) (by omega)
        have tail : ∀ {z0 z1 e : Int}, Ev (fun k => dial_Shadow.f k lon lat t) (z0, z1, e) → (e = 11 ∧ z0 = 0 ∧ z1 = 0 ∨ e = 0 ∧ Ev (fun k => ephemerisref2_InArc.f k z0 z1 (0 - east) (0 - north)) true) → Ev (fun k => Sx.ob (dial_Shadow.f k lon lat t) fun t2 => dsT k lon lat t t2) true := by
          intro z0 z1 e eS hz
          refine ob_ev eS ?_
          unfold dsT
          refine ob_ev (ev_some 0 fun k => PlaceT.placeErr_at lon lat) ?_
          refine Ev.congr (fun k => oif_pos (eqz hp)) ?_
          refine ob_ev (ev_some 0 fun k => instErr_at t) ?_
          refine Ev.congr (fun k => oif_neg (bne0 ht)) ?_
          refine ob_ev eA (ob_ev eH ?_)
          refine Ev.congr (fun k => oif_neg (by rw [decide_eq_true_eq]; exact cH)) ?_
          refine ob_ev eB (ob_ev eU ?_)
          rcases hz with ⟨rfl, rfl, rfl⟩ | ⟨rfl, hz⟩
          · refine ob_ev (ev_some 0 fun k => none_at 11) ?_
            exact Ev.congr (fun k => oif_pos rfl) (ev_some 0 fun k => rfl)
          · refine ob_ev (ev_some 0 fun k => none_not z0 z1 (show (0 : Int) ≠ 11 by decide)) ?_
            refine Ev.congr (fun k => oif_neg (by decide)) ?_
            refine Ev.congr (fun k => oif_pos (eqz rfl)) ?_
            dsimp only
            rw [iw, iw, w64 (x := 0 - east) (by omega) (by omega), w64 (x := 0 - north) (by omega) (by omega)]
            exact ob_ev hz (ev_some 0 fun k => rfl)
        by_cases nz : e0 ≤ 0 ∧ 0 ≤ e1 ∧ n0 ≤ 0 ∧ 0 ≤ n1
        · exact tail (shadow_none pc eA eH cH (azimuth_ev eG (arc_open sy sx nz)) (by decide)) (Or.inl ⟨rfl, rfl, rfl⟩)
        · obtain ⟨a, b, c, d, lo, hi, T1, T2, T3, T4, E, y1, y2, _, _, _, _, ev⟩ := arc_ev sy sx nz
          by_cases wide : hi - lo > 400000000
          · rw [if_pos wide] at ev
            exact tail (shadow_none pc eA eH cH (azimuth_ev eG ev) (by decide)) (Or.inl ⟨rfl, rfl, rfl⟩)
          · rw [if_neg wide] at ev
            have la := E.la
            have ha := E.ha
            exact tail (shadow_some pc eA eH cH (azimuth_ev eG ev) (by omega) (by omega) (by omega) (by omega)) (Or.inr ⟨rfl, shadow_part T1 T2 T3 T4 E (by omega) g1 g3 g4 g6 g2 g5 h1 h2 h3 h4 nη nξ rE rN f1 f2 (by omega) (by omega)⟩)
    · have eS : Ev (fun k => dial_Shadow.f k lon lat t) (0, 0, it t) := by
        unfold dial_Shadow.f
        refine ob_ev (ev_some 0 fun k => by rw [PlaceT.check_at, hp]) ?_
        refine Ev.congr (fun k => oif_neg (bne0 rfl)) ?_
        refine ob_ev (sunAt_bad ht) ?_
        exact Ev.congr (fun k => oif_pos (bne1 ht)) (ev_some 0 fun k => rfl)
      refine ob_ev eS (ob_ev (ev_some 0 fun k => PlaceT.placeErr_at lon lat) ?_)
      refine Ev.congr (fun k => oif_pos (eqz hp)) ?_
      refine ob_ev (ev_some 0 fun k => instErr_at t) ?_
      refine Ev.congr (fun k => oif_pos (bne1 ht)) ?_
      exact ob_ev (ev_some 0 fun k => none_at (it t)) (ev_some 0 fun k => rfl)
  · have eS : Ev (fun k => dial_Shadow.f k lon lat t) (0, 0, PlaceT.pe lon lat) := by
      unfold dial_Shadow.f
      refine ob_ev (ev_some 0 fun k => PlaceT.check_at lon lat) ?_
      exact Ev.congr (fun k => oif_pos (bne1 hp)) (ev_some 0 fun k => rfl)
    refine ob_ev eS (ob_ev (ev_some 0 fun k => PlaceT.placeErr_at lon lat) ?_)
    refine Ev.congr (fun k => oif_neg (neq hp)) ?_
    refine Ev.congr (fun k => oif_pos (bne1 hp)) ?_
    exact ob_ev (ev_some 0 fun k => none_at (PlaceT.pe lon lat)) (ev_some 0 fun k => rfl)
end Go.Proofs.Ytedakilpogagiaa.Pure
