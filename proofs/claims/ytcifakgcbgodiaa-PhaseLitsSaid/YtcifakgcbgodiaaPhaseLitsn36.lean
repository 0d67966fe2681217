/- PhaseLits: Lit holds the part of the moon that is lit. -/
import Derived.Test.YtcifakgcbgodiaaPhaseLitsn11
import Derived.Test.YtcifakgcbgodiaaPhaseLitsn18
import Derived.Test.YtcifakgcbgodiaaPhaseLitsn19
import Derived.Test.YtcifakgcbgodiaaPhaseLitsn35
namespace Go.Proofs.Ytcifakgcbgodiaa.Pure
open Go.RowKit Go.Proofs.YtcifakgcbgodiaaW.PrintWords Go.Proofs.YtcifakgcbgodiaaW.PrintLast Go.Proofs.YtcifakgcbgodiaaW.PrintMore Go.Proofs.Ytcifakgcbgodiaa.PAll Go.Proofs.Ytcifakgcbgodiaa.Base Go.Proofs.Ytcifakgcbgodiaa.Turn Go.Proofs.Ytcifakgcbgodiaa.Circ Go.Proofs.Ytcifakgcbgodiaa.Over Go.Proofs.Ytcifakgcbgodiaa.RefT Go.Proofs.Ytcifakgcbgodiaa.Units Go.Proofs.Ytcifakgcbgodiaa.Args Go.Proofs.Ytcifakgcbgodiaa.SumsT Go.Proofs.Ytcifakgcbgodiaa.Vals Go.Proofs.Ytcifakgcbgodiaa.SkyT Go.Proofs.Ytcifakgcbgodiaa.MoonT Go.Proofs.Ytcifakgcbgodiaa.OctT Go.Proofs.Ytcifakgcbgodiaa.SinT
set_option linter.unusedVariables false
set_option linter.unusedSimpArgs false
theorem phase_works : Ev (fun k => ephemerislaw2_phaseWorks.f k) true := Ev.of ephemerislaw2_phaseWorks.mono (k := 100) (by decide +kernel)
theorem near_rat {s s' c c' κ : Rat} (h1 : Nr (s - c) (1 / 10000000000000000000)) (h2 : Nr (s' - c') (1 / 10000000000000000000)) (h3 : Nr (s' - s) (κ + 1 / 10000000000000000000)) (hk : 1000000000 * κ ≤ 62832 / 10000) :
    1000000000 * c ≤ 1000000000 * c' + 63 / 10 ∧ 1000000000 * c' ≤ 1000000000 * c + 63 / 10 := by
  unfold Nr at h1 h2 h3
  constructor <;> grind
theorem C_near (p : Int) : 1000000000 * C (p * 1000000) ≤ 1000000000 * C ((p + 1) * 1000000) + 63 / 10 ∧ 1000000000 * C ((p + 1) * 1000000) ≤ 1000000000 * C (p * 1000000) + 63 / 10 := by
  have q1 := (quarter_at (p * 1000000)).1
  have q2 := (quarter_at ((p + 1) * 1000000)).1
  have e := ends_of (p + 250000000) (p + 1 + 250000000)
  have k := kap_ang 1
  rw [show (p + 250000000) * 1000000 = p * 1000000 + 250000000000000 by omega, show (p + 1 + 250000000) * 1000000 = (p + 1) * 1000000 + 250000000000000 by omega, show (p + 1 + 250000000 - (p + 250000000)) * 1000000 = 1 * 1000000 by omega] at e
  rcases e with e | e
  · rcases k with k | k
    · refine near_rat q1 q2 e ?_
      have : ((1 : Int) : Rat) = 1 := rfl
      rw [this] at k
      grind
    · omega
  · omega
theorem lit_rat {L H sl sh : Int} {c x : Rat} (h1 : (L : Rat) ≤ 1000000000 * c + 1 / 1000000000) (h2 : 1000000000 * c ≤ (H : Rat) + 1 / 1000000000) (n1 : 1000000000 * c ≤ 1000000000 * x + 63 / 10) (n2 : 1000000000 * x ≤ 1000000000 * c + 63 / 10) (hl : 2 * sl ≤ 1000000000 - H) (hh : 1000000000 - L ≤ 2 * sh) :
    ((sl - 10 : Int) : Rat) ≤ 1000000000 * ((1 - x) / 2) + 5 / 1000 ∧ 1000000000 * ((1 - x) / 2) ≤ ((sh + 10 : Int) : Rat) + 5 / 1000 := by
  have hl := Rat.intCast_le_intCast.2 hl
  have hh := Rat.intCast_le_intCast.2 hh
  push_cast at hl hh ⊢
  constructor <;> grind
theorem half_rat {c h : Int} {x : Rat} (e1 : -1600000 ≤ (c : Rat) - u * x) (e2 : (c : Rat) - u * x ≤ 1600000) (g1 : c - 1 ≤ 2 * h) (g2 : 2 * h ≤ c + 1) : -1600000 ≤ ((576460752303423488 - h : Int) : Rat) - u * ((1 - x) / 2) ∧ ((576460752303423488 - h : Int) : Rat) - u * ((1 - x) / 2) ≤ 1600000 := by
  have g1 := Rat.intCast_le_intCast.2 g1
  have g2 := Rat.intCast_le_intCast.2 g2
  unfold u at *
  push_cast at g1 g2 ⊢
  constructor <;> grind
theorem half_at (c : Int) : c - 1 ≤ 2 * Int.tdiv c 2 ∧ 2 * Int.tdiv c 2 ≤ c + 1 := by
  rcases Int.lt_or_le c 0 with h | h
  · have e : Int.tdiv c 2 = -Int.tdiv (-c) 2 := by rw [Int.neg_tdiv]; omega
    rw [e, Int.tdiv_eq_ediv_of_nonneg (by omega)]
    omega
  · rw [Int.tdiv_eq_ediv_of_nonneg h]
    omega
theorem PhaseLits : ephemerislaw2_PhaseLits.Pure := by
  intro t k0 k1 w1 w2 w3
  refine ev_k ?_
  unfold ephemerislaw2_PhaseLits.f
  refine ev_bind phase_works ?_
  refine Ev.congr (fun k => if_pos rfl) ?_
  by_cases h : it t = 0
  · obtain ⟨al, ah, w, v, e1, e2, e3, a0, a1, r1, r2, z, z1, z2⟩ := elong_ev h
    obtain ⟨j, hj, j0, j1⟩ := at_ok (k := k0) (n := 17) (by omega) (by omega)
    obtain ⟨i, hi, i0, i1⟩ := at_ok (k := k1) (n := 17) (by omega) (by omega)
    obtain ⟨L, H, ec, hc⟩ := cosover_ev (lo := al) (hi := ah) (by omega) (by omega) (by omega)
    obtain ⟨o1, o2⟩ := cosover_lo_hi hc (by omega)
    have hw := hc.wide
    have hL := hc.lo1
    have hH := hc.hi1
    have hLH : L ≤ H + 1 := by
      obtain ⟨a, b⟩ := hc.tell (al * 1000000) (by omega) (by omega)
      generalize C (al * 1000000) = x at *
      rcases Int.lt_or_le (H + 1) L with q | q
      · have q2 : ((H + 2 : Int) : Rat) ≤ (L : Rat) := Rat.intCast_le_intCast.2 (by omega)
        push_cast at q2
        grind
      · exact q
    have hlit : Ev (fun k => phase_Lit.f k t) ((1000000000 - H) / 2, (1000000000 - L + 1) / 2, 0) := by
      unfold phase_Lit.f
      refine ev_bind e1 ?_
      refine Ev.congr (fun k => if_pos rfl) ?_
      refine ev_bind ec (ev_some 0 fun k => ?_)
      have cl : ∀ x : Int, -1000000000 ≤ x → x ≤ 1000000000 → mx (-1000000000) (mn 1000000000 x) = x := by
        intro x h1 h2
        unfold mx mn
        (repeat' split) <;> omega
      simp only [sun_Clamp.f, Option.bind_some]
      rw [cl L hL o1, cl H o2 hH, w64 (x := 1000000000 - H) (by omega) (by omega), w64 (x := 1000000000 - L) (by omega) (by omega), w64 (x := 1000000000 - L + 1) (by omega) (by omega), Int.tdiv_eq_ediv_of_nonneg (by omega), Int.tdiv_eq_ediv_of_nonneg (by omega), w64 (x := (1000000000 - H) / 2) (by omega) (by omega), w64 (x := (1000000000 - L + 1) / 2) (by omega) (by omega)]
    refine ev_bind hlit ?_
    refine Ev.congr (fun k => by rw [instErr_at, Option.bind_some, if_pos h, hj, Option.bind_some, w64 (x := j - 8) (by omega) (by omega)]) ?_
    refine ev_bind (e2 (j - 8) (by omega) (by omega)) ?_
    refine Ev.congr (fun k => by rw [hi, Option.bind_some, w64 (x := i - 8) (by omega) (by omega)]) ?_
    refine ev_bind (e3 (i - 8) (by omega) (by omega)) ?_
    have em : ((w + 2500 * (j - 8) * 1048576) % 1048576000000000 - (v + 250 * (i - 8) * 1048576) % 1048576000000000) % 1048576000000000 = (w - v + 2500 * (j - 8) * 1048576 - 250 * (i - 8) * 1048576) % 1048576000000000 := by omega
    refine Ev.congr (fun k => by rw [w64 (x := (w + 2500 * (j - 8) * 1048576) % 1048576000000000 - (v + 250 * (i - 8) * 1048576) % 1048576000000000) (by omega) (by omega), mod_pos (by omega) (by omega), Option.bind_some, em]) ?_
    obtain ⟨g, hg⟩ : ∃ g, g = (w - v + 2500 * (j - 8) * 1048576 - 250 * (i - 8) * 1048576) % 1048576000000000 / 1048576 := ⟨_, rfl⟩
    obtain ⟨p, hp⟩ : ∃ p, p = (w - v + 2500 * (j - 8) * 1048576 - 250 * (i - 8) * 1048576 + z * 1048576000000000) / 1048576 := ⟨_, rfl⟩
    have p0 : al - 1 ≤ p := by omega
    have p1 : p ≤ ah := by omega
    have g0 : 0 ≤ g := by omega
    have g1 : g < 1000000000 := by omega
    obtain ⟨y, hy⟩ : ∃ y, p = g + y * 1000000000 := ⟨(w - v + 2500 * (j - 8) * 1048576 - 250 * (i - 8) * 1048576) / 1048576000000000 + z, by omega⟩
    obtain ⟨s, c, es, b1, b2, b3, b4⟩ := sincos_ev2 (a := g * 1000000) (by omega)
    rw [← hg]
    refine Ev.congr (fun k => by rw [w64 (x := g * 1000000) (by omega) (by omega)]) ?_
    refine ev_bind es (ev_some 0 fun k => ?_)
    have hper : C (g * 1000000) = C (p * 1000000) := C_per (a := g * 1000000) (b := p * 1000000) (by omega)
    rw [hper] at b2
    clear e1 e2 e3 ec es hlit hper b1 b3
    -- the real part that is lit
    have hreal : ∃ x : Rat, (L : Rat) ≤ 1000000000 * x + 1 / 1000000000 ∧ 1000000000 * x ≤ (H : Rat) + 1 / 1000000000 ∧ 1000000000 * x ≤ 1000000000 * C (p * 1000000) + 63 / 10 ∧ 1000000000 * C (p * 1000000) ≤ 1000000000 * x + 63 / 10 := by
      rcases Int.lt_or_le p al with q | q
      · obtain ⟨a, b⟩ := hc.tell ((p + 1) * 1000000) (by omega) (by omega)
        obtain ⟨n1, n2⟩ := C_near p
        exact ⟨_, a, b, n2, n1⟩
      · obtain ⟨a, b⟩ := hc.tell (p * 1000000) (by omega) (by omega)
        refine ⟨_, a, b, ?_, ?_⟩ <;> grind
    obtain ⟨x, x1, x2, x3, x4⟩ := hreal
    obtain ⟨f1, f2⟩ := lit_rat (sl := (1000000000 - H) / 2) (sh := (1000000000 - L + 1) / 2) x1 x2 x3 x4 (by omega) (by omega)
    have ht := half_at c
    obtain ⟨h1, h2⟩ := half_rat (h := Int.tdiv c 2) b2.1 b2.2 ht.1 ht.2
    generalize C (p * 1000000) = X at *
    dsimp only
    rw [if_pos rfl, if_pos (show (1000000000 - H) / 2 ≥ 0 by omega), if_pos (show (1000000000 - L + 1) / 2 ≤ 1000000000 by omega), w64 (x := (1000000000 - H) / 2 - 10) (by omega) (by omega), w64 (x := (1000000000 - L + 1) / 2 + 10) (by omega) (by omega), w64 (x := Int.tdiv c 2) (by omega) (by omega), w64 (x := 576460752303423488 - Int.tdiv c 2) (by omega) (by omega),
      unit_in (by omega) (by omega) (by omega) (by omega) f1 f2 h1 h2 (by omega) (by omega), Option.bind_some, if_pos rfl, w64 (by omega) (by omega)]
    exact congrArg some (decide_eq_true (by omega))
  · have hb : Ev (fun k => phase_Lit.f k t) (0, 0, it t) := by
      unfold phase_Lit.f
      refine ev_bind (elong_bad h) ?_
      simp only [if_neg h]
      exact ev_some 0 fun k => rfl
    refine ev_bind hb (ev_some 0 fun k => ?_)
    rw [instErr_at, Option.bind_some, if_neg h, none_at]
    rfl
end Go.Proofs.Ytcifakgcbgodiaa.Pure
