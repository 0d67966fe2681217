/- TideHeights: Height of the program holds the reference's sum of cosines and is as narrow as the document tells. -/
import Derived.Test.YtcifakgcbgodiaaTideHeightsn15
import Derived.Test.YtcifakgcbgodiaaTideHeightsn7
import Derived.Test.YtcifakgcbgodiaaTideHeightsn8
import Derived.Test.YtcifakgcbgodiaaTideHeightsn9
import Derived.Test.YtcifakgcbgodiaaTideHeightsn10
import Derived.Test.YtcifakgcbgodiaaTideHeightsn2
import Derived.Test.YtcifakgcbgodiaaTideHeightsn3
import Derived.Test.YtcifakgcbgodiaaTideHeightsn12
import Derived.Test.YtcifakgcbgodiaaTideHeightsn13
import Derived.Test.YtcifakgcbgodiaaTideHeightsn29
namespace Go.Proofs.Ytcifakgcbgodiaa.Pure
open Go.RowKit Go.Proofs.YtcifakgcbgodiaaW.PrintWords Go.Proofs.YtcifakgcbgodiaaW.PrintLast Go.Proofs.YtcifakgcbgodiaaW.PrintMore Go.Proofs.Ytcifakgcbgodiaa.Opn Go.Proofs.Ytcifakgcbgodiaa.PAll Go.Proofs.Ytcifakgcbgodiaa.Base Go.Proofs.Ytcifakgcbgodiaa.Turn Go.Proofs.Ytcifakgcbgodiaa.Fix Go.Proofs.Ytcifakgcbgodiaa.Oct Go.Proofs.Ytcifakgcbgodiaa.OctT Go.Proofs.Ytcifakgcbgodiaa.SinT Go.Proofs.Ytcifakgcbgodiaa.RefT Go.Proofs.Ytcifakgcbgodiaa.Circ Go.Proofs.Ytcifakgcbgodiaa.Over Go.Proofs.Ytcifakgcbgodiaa.Units Go.Proofs.Ytcifakgcbgodiaa.Args Go.Proofs.Ytcifakgcbgodiaa.SumsT Go.Proofs.Ytcifakgcbgodiaa.Vals
set_option linter.unusedVariables false
set_option linter.unusedSimpArgs false
/-- A constituent out of its bounds. -/
def tb (x : S38) : Prop := x.f0 < 0 ∨ 20000 < x.f0 ∨ x.f1 < 0 ∨ 1000000000 ≤ x.f1 ∨ x.f2 < 1 ∨ 4000000000000000 < x.f2
instance (x : S38) : Decidable (tb x) := by unfold tb; infer_instance
def tts : List S38 → Int
  | [] => 0
  | x :: t => if tb x then 3 else tts t
def te (l : List S38) : Int := if (l.length : Int) > 12 then 2 else tts l
def cv (x : S38) : S80 := ⟨x.f0, (x.f1 + 250000000) % 1000000000, x.f2⟩
theorem tide_works : Ev (fun k => ephemerislaw2_tideWorks.f k) true := Ev.of ephemerislaw2_tideWorks.mono (k := 80) (by decide +kernel)
theorem tone {s : S38} {R : Option Int} : (if s.f0 < 0 then some 3 else if s.f0 > 20000 then some 3 else if s.f1 < 0 then some 3 else if s.f1 ≥ 1000000000 then some 3 else if s.f2 < 1 then some 3 else if s.f2 > 4000000000000000 then some 3 else R) = (if tb s then some 3 else R) := by
  by_cases c1 : s.f0 < 0
  · rw [if_pos c1, if_pos (by unfold tb; omega)]
  rw [if_neg c1]
  by_cases c2 : s.f0 > 20000
  · rw [if_pos c2, if_pos (by unfold tb; omega)]
  rw [if_neg c2]
  by_cases c3 : s.f1 < 0
  · rw [if_pos c3, if_pos (by unfold tb; omega)]
  rw [if_neg c3]
  by_cases c4 : s.f1 ≥ 1000000000
  · rw [if_pos c4, if_pos (by unfold tb; omega)]
  rw [if_neg c4]
  by_cases c5 : s.f2 < 1
  · rw [if_pos c5, if_pos (by unfold tb; omega)]
  rw [if_neg c5]
  by_cases c6 : s.f2 > 4000000000000000
  · rw [if_pos c6, if_pos (by unfold tb; omega)]
  rw [if_neg c6, if_neg (by unfold tb; omega)]
theorem tone2 {s : S38} {R : Option Int} : (if s.f0 < 0 then some 3 else if s.f0 > 20000 then some 3 else if s.f1 < 0 then some 3 else if s.f1 > 999999999 then some 3 else if s.f2 < 1 then some 3 else if s.f2 > 4000000000000000 then some 3 else R) = (if tb s then some 3 else R) := by
  rw [← tone]
  by_cases c : s.f1 > 999999999
  · simp only [if_pos c, if_pos (show s.f1 ≥ 1000000000 by omega)]
  · simp only [if_neg c, if_neg (show ¬ s.f1 ≥ 1000000000 by omega)]
theorem tcheck_loop (l : List S38) (hl : l.length ≤ 12) : ∀ (t : List S38) (i : Int), 0 ≤ i → l.drop i.toNat = t → Ev (fun k => tide_Check.l0 k l (l.length : Int) i) (tts t) ∧ Ev (fun k => ephemerislaw2_tideErr.l0 k l (l.length : Int) i) (tts t) := by
  intro t
  induction t with
  | nil =>
    intro i h0 hd
    have hle := drop_nil h0 hd
    exact ⟨ev_some 1 fun k => by rw [tide_Check.l0, if_neg (by omega)]; rfl, ev_some 1 fun k => by rw [ephemerislaw2_tideErr.l0, if_neg (by omega)]; rfl⟩
  | cons s t ih =>
    intro i h0 hd
    obtain ⟨hlt, hs, ht⟩ := drop_cons z38 h0 hd
    have hs' : rd_T38 l i = s := hs
    have a9 : wrap64 (i + 1) = i + 1 := w64 (by omega) (by omega)
    obtain ⟨i1, i2⟩ := ih (i + 1) (by omega) ht
    have u1 : ∀ k, tide_Check.l0 (k + 1) l (l.length : Int) i = (if tb s then some 3 else tide_Check.l0 k l (l.length : Int) (i + 1)) := by
      intro k
      rw [tide_Check.l0, if_pos hlt, if_pos h0, if_pos hlt, hs', a9, tone]
    have u2 : ∀ k, ephemerislaw2_tideErr.l0 (k + 1) l (l.length : Int) i = (if tb s then some 3 else ephemerislaw2_tideErr.l0 k l (l.length : Int) (i + 1)) := by
      intro k
      rw [ephemerislaw2_tideErr.l0, if_pos hlt, if_pos h0, if_pos hlt, hs', a9, tone2]
    unfold tts
    by_cases c : tb s
    · rw [if_pos c]
      exact ⟨ev_some 1 fun k => by rw [u1, if_pos c], ev_some 1 fun k => by rw [u2, if_pos c]⟩
    · rw [if_neg c]
      exact ⟨ev_step 1 (fun k => by rw [u1, if_neg c]) i1, ev_step 1 (fun k => by rw [u2, if_neg c]) i2⟩
theorem tcheck_ev (l : List S38) : Ev (fun k => tide_Check.f k l) (te l) ∧ Ev (fun k => ephemerislaw2_tideErr.f k l) (te l) := by
  unfold tide_Check.f ephemerislaw2_tideErr.f te
  by_cases c1 : (l.length : Int) > 12
  · simp only [if_pos c1]; exact ⟨⟨0, fun _ _ => rfl⟩, ⟨0, fun _ _ => rfl⟩⟩
  simp only [if_neg c1]
  exact tcheck_loop l (by omega) l 0 (by omega) rfl
theorem tts_zero : ∀ {l : List S38}, tts l = 0 → ∀ x ∈ l, ¬ tb x
  | [], _, x, hx => by cases hx
  | y :: t, h, x, hx => by
    unfold tts at h
    by_cases c : tb y
    · rw [if_pos c] at h; exact absurd h (by decide)
    · rw [if_neg c] at h
      rcases List.mem_cons.1 hx with rfl | h2
      · exact c
      · exact tts_zero h x h2
theorem te_zero {l : List S38} (h : te l = 0) : l.length ≤ 12 ∧ ∀ x ∈ l, ¬ tb x := by
  unfold te at h
  by_cases c : (l.length : Int) > 12
  · rw [if_pos c] at h; exact absurd h (by decide)
  rw [if_neg c] at h
  exact ⟨by omega, tts_zero h⟩
theorem cv_good {x : S38} (h : ¬ tb x) : ¬ bad (cv x) := by
  rcases x with ⟨a, b, c⟩
  unfold tb at h
  unfold bad cv
  dsimp only at *
  omega
theorem ts_of : ∀ {l : List S38}, (∀ x ∈ l, ¬ tb x) → ts (l.map cv) = 0
  | [], _ => rfl
  | x :: t, h => by
    rw [List.map_cons]
    unfold ts
    rw [if_neg (cv_good (h x List.mem_cons_self)), ts_of fun y hy => h y (List.mem_cons_of_mem _ hy)]
theorem se_of {l : List S38} (hl : l.length ≤ 12) (h : ∀ x ∈ l, ¬ tb x) : se 0 0 (l.map cv) 0 = 0 := by
  unfold se
  rw [List.length_map, if_neg (by omega), if_neg (by unfold hb; omega), ts_of h]
theorem tsum_loop (l : List S38) (hl : l.length ≤ 12) (hg : ∀ x ∈ l, ¬ tb x) : ∀ (t : List S38) (i : Int) (acc : List S80), 0 ≤ i → l.drop i.toNat = t → acc.length + t.length ≤ 12 → Ev (fun k => tide_sum.l0 k l (l.length : Int) i 0 0 acc 0) (0, 0, acc ++ t.map cv, 0) := by
  intro t
  induction t with
  | nil =>
    intro i acc h0 hd hn
    have hle := drop_nil h0 hd
    exact ev_some 1 fun k => by rw [tide_sum.l0, if_neg (by omega), List.map_nil, List.append_nil]
  | cons s t ih =>
    intro i acc h0 hd hn
    obtain ⟨hlt, hs, ht⟩ := drop_cons z38 h0 hd
    have hs' : rd_T38 l i = s := hs
    have a9 : wrap64 (i + 1) = i + 1 := w64 (by omega) (by omega)
    have hb := hg s (drop_mem hd)
    rw [List.length_cons] at hn
    have r := ih (i + 1) (acc ++ [cv s]) (by omega) ht (by rw [List.length_append, List.length_singleton]; omega)
    rw [List.append_assoc, List.singleton_append, ← List.map_cons] at r
    have hf : 0 ≤ s.f1 ∧ s.f1 < 1000000000 := by unfold tb at hb; omega
    refine ev_step 1 (fun k => ?_) r
    rw [tide_sum.l0, if_pos hlt, if_pos h0, if_pos hlt, if_pos (by omega), hs', a9, w64 (x := s.f1 + 250000000) (by omega) (by omega), Int.tmod_eq_emod_of_nonneg (by omega)]
    rfl
theorem holds_whole2 {L H lo hi t s : Int} (A : Holds L H lo hi) (t0 : lo * 1000000 ≤ t) (t1 : t ≤ hi * 1000000) (e1 : -1600001 ≤ (s : Rat) - u * S t) (e2 : (s : Rat) - u * S t ≤ 1600001) (b1 : -1152921504606849376 ≤ s) (b2 : s ≤ 1152921504606849376) : L * 1152921504606846976 ≤ 1000000000 * (s + 2400) ∧ 1000000000 * (s - 2400) ≤ H * 1152921504606846976 := by
  obtain ⟨m1, m2⟩ := A.marg t t0 t1
  constructor
  · rcases m1 with m | m
    · omega
    · refine int_of_rat ?_
      push_cast
      rw [u_eq] at e1
      generalize S t = x at *
      generalize (s : Rat) = y at *
      generalize (L : Rat) = z at *
      clear e2 b1 b2 m2 A t0 t1
      grind
  · rcases m2 with m | m
    · omega
    · refine int_of_rat ?_
      push_cast
      rw [u_eq] at e2
      generalize S t = x at *
      generalize (s : Rat) = y at *
      generalize (H : Rat) = z at *
      clear e1 b1 b2 m1 A t0 t1
      grind
theorem cos_as {a b : Int} {c : Rat} (h : a % 1000000000000000 = (b + 250000000000000) % 1000000000000000) (e1 : -1600000 ≤ c - u * C b) (e2 : c - u * C b ≤ 1600000) : -1600001 ≤ c - u * S a ∧ c - u * S a ≤ 1600001 := by
  rw [S_per h]
  obtain ⟨⟨q1, q2⟩, _⟩ := quarter_at b
  rw [u_eq] at *
  generalize S (b + 250000000000000) = x at *
  generalize C b = y at *
  constructor <;> grind
/-- One constituent. -/
theorem tterm_ev {x : S38} (hx : ¬ tb x) {t : Int} (t1 : -345600000000000 ≤ t) (t2 : t < 345600086400000) : ∃ L H vl vh s c p, Ev (fun k => series_Turned.f k x.f2 t) (arg x.f2 t) ∧ Ev (fun k => trig_SinOver.f k (arg x.f2 t / 1000000 + (x.f1 + 250000000) % 1000000000) (arg x.f2 t / 1000000 + (x.f1 + 250000000) % 1000000000 + 1)) (L, H, 0) ∧ Ev (fun k => interval_Scale.f k L H x.f0 1000000000) (vl, vh, 0) ∧
    Ev (fun k => ephemerisref2_Arg.f k x.f2 t) (arg x.f2 t) ∧ Ev (fun k => ephemerisref2_SinCos.f k (arg x.f2 t + x.f1 * 1000000)) (s, c) ∧ ephemerisref2_Part.f x.f0 c = some p ∧
    vl * 1048576 ≤ p + 4 ∧ p ≤ vh * 1048576 + 4 ∧ vh - vl ≤ 2 ∧ -1000000000 ≤ vl ∧ vh ≤ 1000000000 ∧ vl ≤ vh ∧ -1100000000000000 ≤ p ∧ p ≤ 1100000000000000 := by
  unfold tb at hx
  obtain ⟨g0, g1⟩ := arg_bound x.f2 t
  have e1 := turned_ev (r := x.f2) (by omega) (by omega) t1 t2
  have e2 := arg_ev (r := x.f2) (by omega) (by omega) t1 t2
  obtain ⟨L, H, e3, A⟩ := over_ev (lo := arg x.f2 t / 1000000 + (x.f1 + 250000000) % 1000000000) (hi := arg x.f2 t / 1000000 + (x.f1 + 250000000) % 1000000000 + 1) (by omega) (by omega) (by omega)
  obtain ⟨s, c, e4, _, ⟨s1, s2⟩, _, ⟨s5, s6⟩⟩ := sincos_ev2 (a := arg x.f2 t + x.f1 * 1000000) (by omega)
  obtain ⟨p, e5, p1, p2, p3, p4⟩ := part_any (a := x.f0) (s := c) (by omega) (by omega) s5 s6
  obtain ⟨z1, z2⟩ := cos_as (a := arg x.f2 t + (x.f1 + 250000000) % 1000000000 * 1000000) (b := arg x.f2 t + x.f1 * 1000000) (by omega) s1 s2
  obtain ⟨w1, w2⟩ := holds_whole2 A (t := arg x.f2 t + (x.f1 + 250000000) % 1000000000 * 1000000) (by omega) (by omega) z1 z2 s5 s6
  have lh := holds_le A (by omega)
  have l1 := A.lo1
  have l2 := A.hi1
  have wd := A.wide (by omega)
  have b : ∀ z, -1000000000 ≤ z → z ≤ 1000000000 → -1000000000000000000 ≤ z * x.f0 ∧ z * x.f0 ≤ 1000000000000000000 := by
    intro z z1 z2
    have k1 := Int.mul_le_mul_of_nonneg_right z1 (show 0 ≤ x.f0 by omega)
    have k2 := Int.mul_le_mul_of_nonneg_right z2 (show 0 ≤ x.f0 by omega)
    constructor <;> omega
  obtain ⟨b1, b2⟩ := b L l1 (by omega)
  obtain ⟨b3, b4⟩ := b H (by omega) l2
  have e6 := scale_ev (lo := L) (hi := H) (num := x.f0) (den := 1000000000) (by omega) lh (by omega) (by omega) (by omega) (by omega) (by omega) (by omega) (by omega) (by omega) (by omega)
  have hv : ∃ vl vh, (vl, vh, (0 : Int)) = (if x.f0 < 0 then (H * x.f0 / 1000000000, -(-(L * x.f0) / 1000000000), 0) else (L * x.f0 / 1000000000, -(-(H * x.f0) / 1000000000), 0)) := by
    by_cases n : x.f0 < 0
    · rw [if_pos n]; exact ⟨_, _, rfl⟩
    · rw [if_neg n]; exact ⟨_, _, rfl⟩
  obtain ⟨vl, vh, hv⟩ := hv
  rw [← hv] at e6
  obtain ⟨q1, q2⟩ := term_in (by omega) (by omega) w1 w2 p1 p2 hv
  obtain ⟨q3, q4, q5, q6⟩ := term_wide (by omega) (by omega) (by omega) l1 l2 lh hv
  rw [if_neg (by omega)] at q3
  exact ⟨L, H, vl, vh, s, c, p, e1, e3, e6, e2, e4, e5, q1, q2, by omega, q4, q5, q6, p3, p4⟩
theorem tsums_ev {t : Int} (t1 : -345600000000000 ≤ t) (t2 : t < 345600086400000) (l : List S38) (hl : l.length ≤ 12) (hg : ∀ x ∈ l, ¬ tb x) : ∀ (r : List S38) (i : Int), 0 ≤ i → l.drop i.toNat = r → ∃ dl dh dp : Int, dl * 1048576 ≤ dp + 4 * (r.length : Int) ∧ dp ≤ dh * 1048576 + 4 * (r.length : Int) ∧ dh - dl ≤ 2 * (r.length : Int) ∧ -1000000000 * (r.length : Int) ≤ dl ∧ dh ≤ 1000000000 * (r.length : Int) ∧ dl ≤ dh ∧ -1100000000000000 * (r.length : Int) ≤ dp ∧ dp ≤ 1100000000000000 * (r.length : Int) ∧
    ∀ lo hi n, -41200000000 + 1000000000 * (r.length : Int) ≤ lo → lo ≤ 41200000000 - 1000000000 * (r.length : Int) → -41200000000 + 1000000000 * (r.length : Int) ≤ hi → hi ≤ 41200000000 - 1000000000 * (r.length : Int) → -45100000000000000 + 1100000000000000 * (r.length : Int) ≤ n → n ≤ 45100000000000000 - 1100000000000000 * (r.length : Int) →
      Ev (fun k => series_sum.l0 k t (l.map cv) ((l.map cv).length : Int) i lo hi) (lo + dl, hi + dh) ∧ ∀ (x6 A B : Int) (b : Bool), (∀ k j, (l.length : Int) ≤ j → ephemerislaw2_TideHeights.l0 (k + 1) l t x6 (n + dp) l (l.length : Int) j A B = some b) → Ev (fun k => ephemerislaw2_TideHeights.l0 k l t x6 n l (l.length : Int) i A B) b := by
  intro r
  induction r with
  | nil =>
    intro i h0 hd
    have hle := drop_nil h0 hd
    refine ⟨0, 0, 0, by simp, by simp, by simp, by simp, by simp, by omega, by simp, by simp, fun lo hi n _ _ _ _ _ _ => ⟨ev_some 1 fun k => ?_, fun x6 A B b hE => ev_some 1 fun k => ?_⟩⟩
    · rw [series_sum.l0, if_neg (by rw [List.length_map]; omega), Int.add_zero, Int.add_zero]
    · rw [Int.add_zero] at hE
      exact hE k i hle
  | cons s r ih =>
    intro i h0 hd
    obtain ⟨hlt, hs, ht⟩ := drop_cons z38 h0 hd
    have hs' : rd_T38 l i = s := hs
    have hm : (l.map cv).drop i.toNat = cv s :: r.map cv := by rw [← List.map_drop, hd, List.map_cons]
    obtain ⟨hltm, hsm, _⟩ := drop_cons z80 h0 hm
    have hsm' : rd_T80 (l.map cv) i = cv s := hsm
    have a9 : wrap64 (i + 1) = i + 1 := w64 (by omega) (by omega)
    have hb := hg s (drop_mem hd)
    obtain ⟨L, H, vl, vh, sn, c, p, e1, e3, e6, e2, e4, e5, q1, q2, q3, q4, q5, q6, q7, q8⟩ := tterm_ev hb t1 t2
    obtain ⟨dl, dh, dp, d1, d2, d3, d4, d5, d6, d7, d8, run⟩ := ih (i + 1) (by omega) ht
    obtain ⟨g0, g1⟩ := arg_bound s.f2 t
    have hf1 : 0 ≤ s.f1 ∧ s.f1 < 1000000000 := by unfold tb at hb; omega
    have hlen : r.length ≤ 11 := by
      have := congrArg List.length hd
      rw [List.length_drop, List.length_cons] at this
      omega
    have hlc : ((s :: r).length : Int) = (r.length : Int) + 1 := by rw [List.length_cons]; push_cast; rfl
    rw [hlc]
    have c0 : (cv s).f0 = s.f0 := rfl
    have c1 : (cv s).f1 = (s.f1 + 250000000) % 1000000000 := rfl
    have c2 : (cv s).f2 = s.f2 := rfl
    refine ⟨vl + dl, vh + dh, p + dp, by omega, by omega, by omega, by omega, by omega, by omega, by omega, by omega, fun lo hi n b1 b2 b3 b4 b5 b6 => ?_⟩
    obtain ⟨r1, r2⟩ := run (lo + vl) (hi + vh) (n + p) (by omega) (by omega) (by omega) (by omega) (by omega) (by omega)
    constructor
    · rw [Int.add_assoc, Int.add_assoc] at r1
      refine ev_step 1 (fun k => by rw [series_sum.l0, if_pos hltm, if_pos h0, if_pos hltm, hsm', a9, c0, c1, c2]) ?_
      refine ev_bind e1 ?_
      rw [Int.tdiv_eq_ediv_of_nonneg g0, w64 (x := arg s.f2 t / 1000000) (by omega) (by omega), w64 (x := arg s.f2 t / 1000000 + (s.f1 + 250000000) % 1000000000) (by omega) (by omega), w64 (x := arg s.f2 t / 1000000 + (s.f1 + 250000000) % 1000000000 + 1) (by omega) (by omega)]
      refine ev_bind e3 (ev_bind e6 ?_)
      rw [w64 (x := lo + vl) (by omega) (by omega), w64 (x := hi + vh) (by omega) (by omega)]
      exact r1
    · intro x6 A B b hE
      rw [← Int.add_assoc] at hE
      have r3 := r2 x6 A B b hE
      refine ev_step 1 (fun k => by rw [ephemerislaw2_TideHeights.l0, if_pos hlt, if_pos h0, if_pos hlt, hs', a9]) ?_
      refine ev_bind e2 ?_
      rw [w64 (x := s.f1 * 1000000) (by omega) (by omega), w64 (x := arg s.f2 t + s.f1 * 1000000) (by omega) (by omega)]
      refine ev_bind e4 ?_
      refine Ev.congr (fun k => by rw [e5, Option.bind_some, w64 (x := n + p) (by omega) (by omega)]) r3
theorem tsum_ev {l : List S38} (hl : l.length ≤ 12) (hg : ∀ x ∈ l, ¬ tb x) : Ev (fun k => tide_sum.f k l) (0, 0, l.map cv, 0) := by
  unfold tide_sum.f
  exact tsum_loop l hl hg l 0 [] (by omega) rfl (by simpa using hl)
theorem height_bad {l : List S38} {t : Int} (h : te l ≠ 0) : Ev (fun k => tide_Height.f k l t) (0, 0, te l) := by
  unfold tide_Height.f
  refine ev_bind (tcheck_ev l).1 ?_
  simp only [if_neg h]
  exact ev_some 0 fun k => rfl
theorem height_of {l : List S38} {t a b e : Int} (h : te l = 0) (v : Ev (fun k => series_Value.f k 0 0 (l.map cv) 0 t) (a, b, e)) : Ev (fun k => tide_Height.f k l t) (a, b, e) := by
  obtain ⟨hl, hg⟩ := te_zero h
  unfold tide_Height.f
  refine ev_bind (h ▸ (tcheck_ev l).1) ?_
  refine Ev.congr (fun k => if_pos rfl) ?_
  refine ev_bind (tsum_ev hl hg) (ev_bind v ?_)
  exact ev_some 0 fun k => rfl
theorem none_at (e : Int) : ephemerislaw2_none.f 0 0 e e = some true := by unfold ephemerislaw2_none.f; simp
theorem TideHeights : PureX := by
  intro l t w1 w2
  refine ev_k ?_
  unfold ephemerislaw2_TideHeights.f
  refine ev_bind tide_works ?_
  refine Ev.congr (fun k => if_pos rfl) ?_
  show Ev (fun k => (tide_Height.f k l t).bind _) true
  obtain ⟨ec, er⟩ := tcheck_ev l
  by_cases h : te l = 0
  · obtain ⟨hl, hg⟩ := te_zero h
    have hse := se_of hl hg
    rw [h] at ec er
    by_cases hi : it t = 0
    · obtain ⟨i1, i2⟩ := it_zero hi
      obtain ⟨dl, dh, dp, d1, d2, d3, d4, d5, d6, d7, d8, run⟩ := tsums_ev i1 i2 l hl hg l 0 (by omega) rfl
      obtain ⟨r1, r2⟩ := run (0 - 0) (0 + 0) 0 (by omega) (by omega) (by omega) (by omega) (by omega) (by omega)
      have v : Ev (fun k => series_Value.f k 0 0 (l.map cv) 0 t) (dl, dh, 0) := by
        have hst : st2 0 0 (l.map cv) 0 t = 0 := by unfold st2; rw [if_pos hse, hi]
        unfold series_Value.f
        refine ev_bind (check2_ev 0 0 (l.map cv) 0 t) ?_
        simp only [if_pos hst]
        have r1' : Ev (fun k => series_sum.f k 0 0 (l.map cv) 0 t) (dl, dh) := by
          unfold series_sum.f
          rw [w64 (x := (0 : Int) - 0) (by omega) (by omega), w64 (x := (0 : Int) + 0) (by omega) (by omega)]
          have e : ((0 : Int) - 0 + dl, (0 : Int) + 0 + dh) = (dl, dh) := by rw [show (0 : Int) - 0 + dl = dl by omega, show (0 : Int) + 0 + dh = dh by omega]
          rw [e] at r1
          exact r1
        exact ev_bind r1' (ev_some 0 fun k => rfl)
      refine ev_bind (height_of h v) (ev_bind er (ev_bind ec ?_))
      refine Ev.congr (fun k => by rw [if_pos rfl, if_pos rfl, instErr_at, Option.bind_some, hi]) ?_
      refine ev_step 1 (fun k => by rw [ephemerislaw2_TideHeights.j0, if_pos rfl]) ?_
      refine r2 0 dl dh true fun k j hj => ?_
      rw [Int.zero_add, ephemerislaw2_TideHeights.l0, if_neg (by omega), if_pos rfl]
      unfold ephemerisref2_Contains.f
      rw [w64 (x := dl * 1048576) (by omega) (by omega), w64 (x := (0 : Int) * 1048576) (by omega) (by omega), w64 (x := dp - 0 * 1048576) (by omega) (by omega), w64 (x := dp - 0 * 1048576 + 8192) (by omega) (by omega), if_pos (by omega), w64 (x := dp + 0 * 1048576) (by omega) (by omega), w64 (x := dh * 1048576) (by omega) (by omega), w64 (x := dh * 1048576 + 8192) (by omega) (by omega), decide_eq_true (by omega), Option.bind_some, if_pos rfl, w64 (x := dh - dl) (by omega) (by omega), w64 (x := 2 * (l.length : Int)) (by omega) (by omega)]
      exact congrArg some (decide_eq_true d3)
    · have v : Ev (fun k => series_Value.f k 0 0 (l.map cv) 0 t) (0, 0, it t) := by
        have hst : st2 0 0 (l.map cv) 0 t = it t := by unfold st2; rw [if_pos hse]
        have := value_bad (m := 0) (b := 0) (d := 0) (t := t) (l := l.map cv) (by rw [hst]; exact hi)
        rw [hst] at this
        exact this
      refine ev_bind (height_of h v) (ev_bind er (ev_bind ec ?_))
      refine Ev.congr (fun k => by rw [if_pos rfl, if_pos rfl, instErr_at, Option.bind_some]) ?_
      refine ev_some 1 fun k => ?_
      rw [ephemerislaw2_TideHeights.j0, if_neg hi, none_at]
      rfl
  · refine ev_bind (height_bad h) (ev_bind er (ev_bind ec ?_))
    refine Ev.congr (fun k => by rw [if_pos rfl, if_neg h]) ?_
    refine ev_some 1 fun k => ?_
    rw [ephemerislaw2_TideHeights.j0, if_neg h, none_at]
    rfl
end Go.Proofs.Ytcifakgcbgodiaa.Pure
