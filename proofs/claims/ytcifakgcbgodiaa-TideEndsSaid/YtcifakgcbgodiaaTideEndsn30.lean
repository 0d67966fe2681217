/- TideEnds: High and Low are what the document says. -/
import Derived.Test.YtcifakgcbgodiaaTideEndsn15
import Derived.Test.YtcifakgcbgodiaaTideEndsn29
namespace Go.Proofs.Ytcifakgcbgodiaa.Pure
open Go.RowKit YtcifakgcbgodiaaW.PrintWords YtcifakgcbgodiaaW.PrintLast YtcifakgcbgodiaaW.PrintMore Opn PAll Base Turn Fix Oct OctT SinT RefT Circ Over Units Args SumsT Vals
set_option linter.unusedVariables false
set_option linter.unusedSimpArgs false
def tb (x : S38) : Prop := x.f0 < 0 ∨ 20000 < x.f0 ∨ x.f1 < 0 ∨ 1000000000 ≤ x.f1 ∨ x.f2 < 1 ∨ 4000000000000000 < x.f2
instance (x : S38) : Decidable (tb x) := by unfold tb; infer_instance
def tts : List S38 → Int
 | [] => 0
 | x :: t => if tb x then 3 else tts t
def te (l : List S38) : Int := if (l.length : Int) > 12 then 2 else tts l
def cv (x : S38) : S80 := ⟨x.f0, (x.f1 + 250000000) % 1000000000, x.f2⟩
theorem tide_works : Ev (fun k => ephemerislaw2_tideWorks.f k) true := Ev.of ephemerislaw2_tideWorks.mono (k := 80) (by decide +kernel)
theorem tone {s : S38} {R : Option Int} : (if s.f0 < 0 then some 3 else if s.f0 > 20000 then some 3 else if s.f1 < 0 then some 3 else if s.f1 ≥ 1000000000 then some 3 else if s.f2 < 1 then some 3 else if s.f2 > 4000000000000000 then some 3 else R) = (if tb s then some 3 else R) := by
 by_cases c1 : s.f0 < 0
 ·rw [if_pos c1, if_pos (by unfold tb; omega)]
 rw [if_neg c1]
 by_cases c2 : s.f0 > 20000
 ·rw [if_pos c2, if_pos (by unfold tb; omega)]
 rw [if_neg c2]
 by_cases c3 : s.f1 < 0
 ·rw [if_pos c3, if_pos (by unfold tb; omega)]
 rw [if_neg c3]
 by_cases c4 : s.f1 ≥ 1000000000
 ·rw [if_pos c4, if_pos (by unfold tb; omega)]
 rw [if_neg c4]
 by_cases c5 : s.f2 < 1
 ·rw [if_pos c5, if_pos (by unfold tb; omega)]
 rw [if_neg c5]
 by_cases c6 : s.f2 > 4000000000000000
 ·rw [if_pos c6, if_pos (by unfold tb; omega)]
 rw [if_neg c6, if_neg (by unfold tb; omega)]
theorem tone2 {s : S38} {R : Option Int} : (if s.f0 < 0 then some 3 else if s.f0 > 20000 then some 3 else if s.f1 < 0 then some 3 else if s.f1 > 999999999 then some 3 else if s.f2 < 1 then some 3 else if s.f2 > 4000000000000000 then some 3 else R) = (if tb s then some 3 else R) := by
 rw [← tone]
 by_cases c : s.f1 > 999999999
 ·simp only [if_pos c, if_pos (show s.f1 ≥ 1000000000 by omega)]
 ·simp only [if_neg c, if_neg (show ¬ s.f1 ≥ 1000000000 by omega)]
theorem tcheck_loop (l : List S38) (hl : l.length ≤ 12) : ∀ (t : List S38) (i : Int), 0 ≤ i → l.drop i.toNat = t → Ev (fun k => tide_Check.l0 k l (l.length : Int) i) (tts t) ∧ Ev (fun k => ephemerislaw2_tideErr.l0 k l (l.length : Int) i) (tts t) := by
 intro t
 induction t with
 | nil =>
  intro i h0 hd
  have hle := drop_nil h0 hd
  exact ⟨ev_some 1 fun k => by rw [tide_Check.l0, if_neg (by omega)]; rfl, ev_some 1 fun k => by rw [ephemerislaw2_tideErr.l0, if_neg (by omega)]; rfl⟩
 | cons s t ih =>
  intro i h0 hd
  obtain ⟨hlt, hs, ht⟩ := drop_cons z38 h0 hd
  have hs' : rd_T38 l i = s := hs
  have a9 : wrap64 (i + 1) = i + 1 := w64 (by omega) (by omega)
  obtain ⟨i1, i2⟩ := ih (i + 1) (by omega) ht
  have u1 : ∀ k, tide_Check.l0 (k + 1) l (l.length : Int) i = (if tb s then some 3 else tide_Check.l0 k l (l.length : Int) (i + 1)) := by
   intro k
   rw [tide_Check.l0, if_pos hlt, if_pos h0, if_pos hlt, hs', a9, tone]
  have u2 : ∀ k, ephemerislaw2_tideErr.l0 (k + 1) l (l.length : Int) i = (if tb s then some 3 else ephemerislaw2_tideErr.l0 k l (l.length : Int) (i + 1)) := by
   intro k
   rw [ephemerislaw2_tideErr.l0, if_pos hlt, if_pos h0, if_pos hlt, hs', a9, tone2]
  unfold tts
  by_cases c : tb s
  ·rw [if_pos c]
   exact ⟨ev_some 1 fun k => by rw [u1, if_pos c], ev_some 1 fun k => by rw [u2, if_pos c]⟩
  ·rw [if_neg c]
   exact ⟨ev_step 1 (fun k => by rw [u1, if_neg c]) i1, ev_step 1 (fun k => by rw [u2, if_neg c]) i2⟩
theorem tcheck_ev (l : List S38) : Ev (fun k => tide_Check.f k l) (te l) ∧ Ev (fun k => ephemerislaw2_tideErr.f k l) (te l) := by
 unfold tide_Check.f ephemerislaw2_tideErr.f te
 by_cases c1 : (l.length : Int) > 12
 ·simp only [if_pos c1]; exact ⟨⟨0, fun _ _ => rfl⟩, ⟨0, fun _ _ => rfl⟩⟩
 simp only [if_neg c1]
 exact tcheck_loop l (by omega) l 0 (by omega) rfl
theorem tts_zero : ∀ {l : List S38}, tts l = 0 → ∀ x ∈ l, ¬ tb x
 | [], _, x, hx => by cases hx
 | y :: t, h, x, hx => by
  unfold tts at h
  by_cases c : tb y
  ·rw [if_pos c] at h; exact absurd h (by decide)
  ·rw [if_neg c] at h
   rcases List.mem_cons.1 hx with rfl | h2
   ·exact c
   ·exact tts_zero h x h2
theorem te_zero {l : List S38} (h : te l = 0) : l.length ≤ 12 ∧ ∀ x ∈ l, ¬ tb x := by
 unfold te at h
 by_cases c : (l.length : Int) > 12
 ·rw [if_pos c] at h; exact absurd h (by decide)
 rw [if_neg c] at h
 exact ⟨by omega, tts_zero h⟩
theorem cv_good {x : S38} (h : ¬ tb x) : ¬ bad (cv x) := by
 rcases x with ⟨a, b, c⟩
 unfold tb at h
 unfold bad cv
 dsimp only at *
 omega
theorem ts_of : ∀ {l : List S38}, (∀ x ∈ l, ¬ tb x) → ts (l.map cv) = 0
 | [], _ => rfl
 | x :: t, h => by
  rw [List.map_cons]
  unfold ts
  rw [if_neg (cv_good (h x List.mem_cons_self)), ts_of fun y hy => h y (List.mem_cons_of_mem _ hy)]
theorem se_of {l : List S38} (hl : l.length ≤ 12) (h : ∀ x ∈ l, ¬ tb x) : se 0 0 (l.map cv) 0 = 0 := by
 unfold se
 rw [List.length_map, if_neg (by omega), if_neg (by unfold hb; omega), ts_of h]
theorem tsum_loop (l : List S38) (hl : l.length ≤ 12) (hg : ∀ x ∈ l, ¬ tb x) : ∀ (t : List S38) (i : Int) (acc : List S80), 0 ≤ i → l.drop i.toNat = t → acc.length + t.length ≤ 12 → Ev (fun k => tide_sum.l0 k l (l.length : Int) i 0 0 acc 0) (0, 0, acc ++ t.map cv, 0) := by
 intro t
 induction t with
 | nil =>
  intro i acc h0 hd hn
  have hle := drop_nil h0 hd
  exact ev_some 1 fun k => by rw [tide_sum.l0, if_neg (by omega), List.map_nil, List.append_nil]
 | cons s t ih =>
  intro i acc h0 hd hn
  obtain ⟨hlt, hs, ht⟩ := drop_cons z38 h0 hd
  have hs' : rd_T38 l i = s := hs
  have a9 : wrap64 (i + 1) = i + 1 := w64 (by omega) (by omega)
  have hb := hg s (drop_mem hd)
  rw [List.length_cons] at hn
  have r := ih (i + 1) (acc ++ [cv s]) (by omega) ht (by rw [List.length_append, List.length_singleton]; omega)
  rw [List.append_assoc, List.singleton_append, ← List.map_cons] at r
  have hf : 0 ≤ s.f1 ∧ s.f1 < 1000000000 := by unfold tb at hb; omega
  refine ev_step 1 (fun k => ?_) r
  rw [tide_sum.l0, if_pos hlt, if_pos h0, if_pos hlt, if_pos (by omega), hs', a9, w64 (x := s.f1 + 250000000) (by omega) (by omega), Int.tmod_eq_emod_of_nonneg (by omega)]
  rfl
theorem holds_whole2 {L H lo hi t s : Int} (A : Holds L H lo hi) (t0 : lo * 1000000 ≤ t) (t1 : t ≤ hi * 1000000) (e1 : -1600001 ≤ (s : Rat) - u * S t) (e2 : (s : Rat) - u * S t ≤ 1600001) (b1 : -1152921504606849376 ≤ s) (b2 : s ≤ 1152921504606849376) : L * 1152921504606846976 ≤ 1000000000 * (s + 2400) ∧ 1000000000 * (s - 2400) ≤ H * 1152921504606846976 := by
 obtain ⟨m1, m2⟩ := A.marg t t0 t1
 constructor
 ·rcases m1 with m | m
  ·omega
  ·refine int_of_rat ?_
   push_cast
   rw [u_eq] at e1
   generalize S t = x at *
   generalize (s : Rat) = y at *
   generalize (L : Rat) = z at *
   clear e2 b1 b2 m2 A t0 t1
   grind
 ·rcases m2 with m | m
  ·omega
  ·refine int_of_rat ?_
   push_cast
   rw [u_eq] at e2
   generalize S t = x at *
   generalize (s : Rat) = y at *
   generalize (H : Rat) = z at *
   clear e1 b1 b2 m1 A t0 t1
   grind
theorem cos_as {a b : Int} {c : Rat} (h : a % 1000000000000000 = (b + 250000000000000) % 1000000000000000) (e1 : -1600000 ≤ c - u * C b) (e2 : c - u * C b ≤ 1600000) : -1600001 ≤ c - u * S a ∧ c - u * S a ≤ 1600001 := by
 rw [S_per h]
 obtain ⟨⟨q1, q2⟩, _⟩ := quarter_at b
 rw [u_eq] at *
 generalize S (b + 250000000000000) = x at *
 generalize C b = y at *
 constructor <;> grind
theorem tterm_ev {x : S38} (hx : ¬ tb x) {t : Int} (t1 : -345600000000000 ≤ t) (t2 : t < 345600086400000) : ∃ L H vl vh s c p, Ev (fun k => series_Turned.f k x.f2 t) (arg x.f2 t) ∧ Ev (fun k => trig_SinOver.f k (arg x.f2 t / 1000000 + (x.f1 + 250000000) % 1000000000) (arg x.f2 t / 1000000 + (x.f1 + 250000000) % 1000000000 + 1)) (L, H, 0) ∧ Ev (fun k => interval_Scale.f k L H x.f0 1000000000) (vl, vh, 0) ∧
  Ev (fun k => ephemerisref2_Arg.f k x.f2 t) (arg x.f2 t) ∧ Ev (fun k => ephemerisref2_SinCos.f k (arg x.f2 t + x.f1 * 1000000)) (s, c) ∧ ephemerisref2_Part.f x.f0 c = some p ∧
  vl * 1048576 ≤ p + 4 ∧ p ≤ vh * 1048576 + 4 ∧ vh - vl ≤ 2 ∧ -1000000000 ≤ vl ∧ vh ≤ 1000000000 ∧ vl ≤ vh ∧ -1100000000000000 ≤ p ∧ p ≤ 1100000000000000 := by
 unfold tb at hx
 obtain ⟨g0, g1⟩ := arg_bound x.f2 t
 have e1 := turned_ev (r := x.f2) (by omega) (by omega) t1 t2
 have e2 := arg_ev (r := x.f2) (by omega) (by omega) t1 t2
 obtain ⟨L, H, e3, A⟩ := over_ev (lo := arg x.f2 t / 1000000 + (x.f1 + 250000000) % 1000000000) (hi := arg x.f2 t / 1000000 + (x.f1 + 250000000) % 1000000000 + 1) (by omega) (by omega) (by omega)
 obtain ⟨s, c, e4, _, ⟨s1, s2⟩, _, ⟨s5, s6⟩⟩ := sincos_ev2 (a := arg x.f2 t + x.f1 * 1000000) (by omega)
 obtain ⟨p, e5, p1, p2, p3, p4⟩ := part_any (a := x.f0) (s := c) (by omega) (by omega) s5 s6
 obtain ⟨z1, z2⟩ := cos_as (a := arg x.f2 t + (x.f1 + 250000000) % 1000000000 * 1000000) (b := arg x.f2 t + x.f1 * 1000000) (by omega) s1 s2
 obtain ⟨w1, w2⟩ := holds_whole2 A (t := arg x.f2 t + (x.f1 + 250000000) % 1000000000 * 1000000) (by omega) (by omega) z1 z2 s5 s6
 have lh := holds_le A (by omega)
 have l1 := A.lo1
 have l2 := A.hi1
 have wd := A.wide (by omega)
 have b : ∀ z, -1000000000 ≤ z → z ≤ 1000000000 → -1000000000000000000 ≤ z * x.f0 ∧ z * x.f0 ≤ 1000000000000000000 := by
  intro z z1 z2
  have k1 := Int.mul_le_mul_of_nonneg_right z1 (show 0 ≤ x.f0 by omega)
  have k2 := Int.mul_le_mul_of_nonneg_right z2 (show 0 ≤ x.f0 by omega)
  constructor <;> omega
 obtain ⟨b1, b2⟩ := b L l1 (by omega)
 obtain ⟨b3, b4⟩ := b H (by omega) l2
 have e6 := scale_ev (lo := L) (hi := H) (num := x.f0) (den := 1000000000) (by omega) lh (by omega) (by omega) (by omega) (by omega) (by omega) (by omega) (by omega) (by omega) (by omega)
 have hv : ∃ vl vh, (vl, vh, (0 : Int)) = (if x.f0 < 0 then (H * x.f0 / 1000000000, -(-(L * x.f0) / 1000000000), 0) else (L * x.f0 / 1000000000, -(-(H * x.f0) / 1000000000), 0)) := by
  by_cases n : x.f0 < 0
  ·rw [if_pos n]; exact ⟨_, _, rfl⟩
  ·rw [if_neg n]; exact ⟨_, _, rfl⟩
 obtain ⟨vl, vh, hv⟩ := hv
 rw [← hv] at e6
 obtain ⟨q1, q2⟩ := term_in (by omega) (by omega) w1 w2 p1 p2 hv
 obtain ⟨q3, q4, q5, q6⟩ := term_wide (by omega) (by omega) (by omega) l1 l2 lh hv
 rw [if_neg (by omega)] at q3
 exact ⟨L, H, vl, vh, s, c, p, e1, e3, e6, e2, e4, e5, q1, q2, by omega, q4, q5, q6, p3, p4⟩
theorem tsums_ev {t : Int} (t1 : -345600000000000 ≤ t) (t2 : t < 345600086400000) (l : List S38) (hl : l.length ≤ 12) (hg : ∀ x ∈ l, ¬ tb x) : ∀ (r : List S38) (i : Int), 0 ≤ i → l.drop i.toNat = r → ∃ dl dh dp : Int, dl * 1048576 ≤ dp + 4 * (r.length : Int) ∧ dp ≤ dh * 1048576 + 4 * (r.length : Int) ∧ dh - dl ≤ 2 * (r.length : Int) ∧ -1000000000 * (r.length : Int) ≤ dl ∧ dh ≤ 1000000000 * (r.length : Int) ∧ dl ≤ dh ∧ -1100000000000000 * (r.length : Int) ≤ dp ∧ dp ≤ 1100000000000000 * (r.length : Int) ∧
  ∀ lo hi n, -41200000000 + 1000000000 * (r.length : Int) ≤ lo → lo ≤ 41200000000 - 1000000000 * (r.length : Int) → -41200000000 + 1000000000 * (r.length : Int) ≤ hi → hi ≤ 41200000000 - 1000000000 * (r.length : Int) → -45100000000000000 + 1100000000000000 * (r.length : Int) ≤ n → n ≤ 45100000000000000 - 1100000000000000 * (r.length : Int) →
   Ev (fun k => series_sum.l0 k t (l.map cv) ((l.map cv).length : Int) i lo hi) (lo + dl, hi + dh) ∧ ∀ (x6 A B : Int) (b : Bool), (∀ k j, (l.length : Int) ≤ j → ephemerislaw2_TideHeights.l0 (k + 1) l t x6 (n + dp) l (l.length : Int) j A B = some b) → Ev (fun k => ephemerislaw2_TideHeights.l0 k l t x6 n l (l.length : Int) i A B) b := by
 intro r
 induction r with
 | nil =>
  intro i h0 hd
  have hle := drop_nil h0 hd
  refine ⟨0, 0, 0, by simp, by simp, by simp, by simp, by simp, by omega, by simp, by simp, fun lo hi n _ _ _ _ _ _ => ⟨ev_some 1 fun k => ?_, fun x6 A B b hE => ev_some 1 fun k => ?_⟩⟩
  ·rw [series_sum.l0, if_neg (by rw [List.length_map]; omega), Int.add_zero, Int.add_zero]
  ·rw [Int.add_zero] at hE
   exact hE k i hle
 | cons s r ih =>
  intro i h0 hd
  obtain ⟨hlt, hs, ht⟩ := drop_cons z38 h0 hd
  have hs' : rd_T38 l i = s := hs
  have hm : (l.map cv).drop i.toNat = cv s :: r.map cv := by rw [← List.map_drop, hd, List.map_cons]
  obtain ⟨hltm, hsm, _⟩ := drop_cons z80 h0 hm
  have hsm' : rd_T80 (l.map cv) i = cv s := hsm
  have a9 : wrap64 (i + 1) = i + 1 := w64 (by omega) (by omega)
  have hb := hg s (drop_mem hd)
  obtain ⟨L, H, vl, vh, sn, c, p, e1, e3, e6, e2, e4, e5, q1, q2, q3, q4, q5, q6, q7, q8⟩ := tterm_ev hb t1 t2
  obtain ⟨dl, dh, dp, d1, d2, d3, d4, d5, d6, d7, d8, run⟩ := ih (i + 1) (by omega) ht
  obtain ⟨g0, g1⟩ := arg_bound s.f2 t
  have hf1 : 0 ≤ s.f1 ∧ s.f1 < 1000000000 := by unfold tb at hb; omega
  have hlen : r.length ≤ 11 := by
   have := congrArg List.length hd
   rw [List.length_drop, List.length_cons] at this
   omega
  have hlc : ((s :: r).length : Int) = (r.length : Int) + 1 := by rw [List.length_cons]; push_cast; rfl
  rw [hlc]
  have c0 : (cv s).f0 = s.f0 := rfl
  have c1 : (cv s).f1 = (s.f1 + 250000000) % 1000000000 := rfl
  have c2 : (cv s).f2 = s.f2 := rfl
  refine ⟨vl + dl, vh + dh, p + dp, by omega, by omega, by omega, by omega, by omega, by omega, by omega, by omega, fun lo hi n b1 b2 b3 b4 b5 b6 => ?_⟩
  obtain ⟨r1, r2⟩ := run (lo + vl) (hi + vh) (n + p) (by omega) (by omega) (by omega) (by omega) (by omega) (by omega)
  constructor
  ·rw [Int.add_assoc, Int.add_assoc] at r1
   refine ev_step 1 (fun k => by rw [series_sum.l0, if_pos hltm, if_pos h0, if_pos hltm, hsm', a9, c0, c1, c2]) ?_
   refine ev_bind e1 ?_
   rw [Int.tdiv_eq_ediv_of_nonneg g0, w64 (x := arg s.f2 t / 1000000) (by omega) (by omega), w64 (x := arg s.f2 t / 1000000 + (s.f1 + 250000000) % 1000000000) (by omega) (by omega), w64 (x := arg s.f2 t / 1000000 + (s.f1 + 250000000) % 1000000000 + 1) (by omega) (by omega)]
   refine ev_bind e3 (ev_bind e6 ?_)
   rw [w64 (x := lo + vl) (by omega) (by omega), w64 (x := hi + vh) (by omega) (by omega)]
   exact r1
  ·intro x6 A B b hE
   rw [← Int.add_assoc] at hE
   have r3 := r2 x6 A B b hE
   refine ev_step 1 (fun k => by rw [ephemerislaw2_TideHeights.l0, if_pos hlt, if_pos h0, if_pos hlt, hs', a9]) ?_
   refine ev_bind e2 ?_
   rw [w64 (x := s.f1 * 1000000) (by omega) (by omega), w64 (x := arg s.f2 t + s.f1 * 1000000) (by omega) (by omega)]
   refine ev_bind e4 ?_
   refine Ev.congr (fun k => by rw [e5, Option.bind_some, w64 (x := n + p) (by omega) (by omega)]) r3
theorem tsum_ev {l : List S38} (hl : l.length ≤ 12) (hg : ∀ x ∈ l, ¬ tb x) : Ev (fun k => tide_sum.f k l) (0, 0, l.map cv, 0) := by
 unfold tide_sum.f
 exact tsum_loop l hl hg l 0 [] (by omega) rfl (by simpa using hl)
theorem height_of {l : List S38} {t a b e : Int} (h : te l = 0) (v : Ev (fun k => series_Value.f k 0 0 (l.map cv) 0 t) (a, b, e)) : Ev (fun k => tide_Height.f k l t) (a, b, e) := by
 obtain ⟨hl, hg⟩ := te_zero h
 unfold tide_Height.f
 refine ev_bind (h ▸ (tcheck_ev l).1) ?_
 refine Ev.congr (fun k => if_pos rfl) ?_
 refine ev_bind (tsum_ev hl hg) (ev_bind v ?_)
 exact ev_some 0 fun k => rfl
theorem val_ex {l : List S38} (h : te l = 0) {t : Int} (hi : it t = 0) : ∃ dl dh : Int, Ev (fun k => series_Value.f k 0 0 (l.map cv) 0 t) (dl, dh, 0) ∧ -12000000000 ≤ dl ∧ dl ≤ dh ∧ dh ≤ 12000000000 := by
 obtain ⟨hl, hg⟩ := te_zero h
 have hse := se_of hl hg
 obtain ⟨i1, i2⟩ := it_zero hi
 obtain ⟨dl, dh, dp, d1, d2, d3, d4, d5, d6, d7, d8, run⟩ := tsums_ev i1 i2 l hl hg l 0 (by omega) rfl
 obtain ⟨r1, r2⟩ := run (0 - 0) (0 + 0) 0 (by omega) (by omega) (by omega) (by omega) (by omega) (by omega)
 refine ⟨dl, dh, ?_, by omega, d6, by omega⟩
 have hst : st2 0 0 (l.map cv) 0 t = 0 := by unfold st2; rw [if_pos hse, hi]
 unfold series_Value.f
 refine ev_bind (check2_ev 0 0 (l.map cv) 0 t) ?_
 simp only [if_pos hst]
 have r1' : Ev (fun k => series_sum.f k 0 0 (l.map cv) 0 t) (dl, dh) := by
  unfold series_sum.f
  rw [w64 (x := (0 : Int) - 0) (by omega) (by omega), w64 (x := (0 : Int) + 0) (by omega) (by omega)]
  have e : ((0 : Int) - 0 + dl, (0 : Int) + 0 + dh) = (dl, dh) := by rw [show (0 : Int) - 0 + dl = dl by omega, show (0 : Int) + 0 + dh = dh by omega]
  rw [e] at r1
  exact r1
 exact ev_bind r1' (ev_some 0 fun k => rfl)
section
variable {l : List S38} {from_ to_ : Int} {P : Int → Int × Int} {n : Nat}
def ht (P : Int → Int × Int) (from_ s : Int) (j : Nat) : S24 := if s < 0 then ⟨-(P (from_ + (j : Int) * 3600000)).2, -(P (from_ + (j : Int) * 3600000)).1⟩ else ⟨(P (from_ + (j : Int) * 3600000)).1, (P (from_ + (j : Int) * 3600000)).2⟩
def hts (P : Int → Int × Int) (from_ s : Int) (n : Nat) : List S24 := (List.range n).map (ht P from_ s)
theorem hts_length (s : Int) : (hts P from_ s n).length = n := by unfold hts; simp
theorem hts_at {s : Int} {j : Nat} (h : j < n) : rd_T24 (hts P from_ s n) (j : Int) = ht P from_ s j := by
 unfold rd_T24 hts
 simp [List.getD, h]
def pk (P : Int → Int × Int) (from_ s : Int) (j : Nat) : Prop := (ht P from_ s j).f0 > (ht P from_ s (j - 1)).f1 ∧ (ht P from_ s j).f0 > (ht P from_ s (j + 1)).f1
instance (P : Int → Int × Int) (from_ s : Int) (j : Nat) : Decidable (pk P from_ s j) := by unfold pk; infer_instance
def sp_ (from_ : Int) (j : Nat) : S24 := ⟨from_ + ((j : Int) - 1) * 3600000, from_ + ((j : Int) + 1) * 3600000⟩
def outs (P : Int → Int × Int) (from_ s : Int) : Nat → Nat → List S24
 | _, 0 => []
 | j, d + 1 => (if pk P from_ s j then [sp_ from_ j] else []) ++ outs P from_ s (j + 1) d
variable (hn : (n : Int) = (to_ - from_) / 3600000 + 1) (hn2 : n ≤ 500) (b1 : -345600000000000 ≤ from_) (b2 : to_ < 345600086400000) (hft : from_ ≤ to_)
include hn hn2 b1 b2 hft
theorem ends_heights (H : ∀ t, it t = 0 → Ev (fun k => series_Value.f k 0 0 (l.map cv) 0 t) ((P t).1, (P t).2, 0) ∧ -12000000000 ≤ (P t).1 ∧ (P t).1 ≤ (P t).2 ∧ (P t).2 ≤ 12000000000) (hl : l.length ≤ 12) (hg : ∀ x ∈ l, ¬ tb x) {s : Int} {r : List S24 × Int} (hr : Ev (fun k => tide_ends.l1 k from_ (hts P from_ s n) [] 1) r) :
  ∀ (d i : Nat), i + d = n → Ev (fun k => tide_ends.l0 k l from_ to_ s (hts P from_ s i) (from_ + (i : Int) * 3600000)) r := by
 intro d
 induction d with
 | zero =>
  intro i e
  obtain rfl : i = n := by omega
  refine ev_step 1 (fun k => by rw [tide_ends.l0, if_neg (by omega)]) hr
 | succ d ih =>
  intro i e
  have r2 := ih (i + 1) (by omega)
  have vt : it (from_ + (i : Int) * 3600000) = 0 := if_pos ⟨by omega, by omega⟩
  obtain ⟨hv, v1, v2, v3⟩ := H _ vt
  have e2 : hts P from_ s (i + 1) = hts P from_ s i ++ [ht P from_ s i] := by unfold hts; rw [List.range_succ, List.map_append]; rfl
  have e3 : from_ + ((i + 1 : Nat) : Int) * 3600000 = from_ + (i : Int) * 3600000 + 3600000 := by omega
  have len : (hts P from_ s i).length < 8796093022208 := by rw [hts_length]; omega
  rw [e2, e3] at r2
  refine ev_step 1 (fun k => by rw [tide_ends.l0, if_pos (by omega)]) ?_
  refine ev_bind (tsum_ev hl hg) ?_
  refine ev_bind hv ?_
  dsimp only
  rw [w64 (x := from_ + (i : Int) * 3600000 + 3600000) (by omega) (by omega), w64 (x := -(P (from_ + (i : Int) * 3600000)).2) (by omega) (by omega), w64 (x := -(P (from_ + (i : Int) * 3600000)).1) (by omega) (by omega)]
  unfold ht at r2
  by_cases c : s < 0
  ·rw [if_pos c] at r2
   exact Ev.congr (fun k => by rw [if_pos c, if_pos len]) r2
  ·rw [if_neg c] at r2
   exact Ev.congr (fun k => by rw [if_neg c, if_pos len]) r2
theorem ends_peaks (s : Int) : ∀ (d j : Nat) (acc : List S24), 1 ≤ j → j ≤ 600 → j + 1 + d = max n (j + 1) → acc.length + d ≤ 1000 → Ev (fun k => tide_ends.l1 k from_ (hts P from_ s n) acc (j : Int)) (acc ++ outs P from_ s j d, 0) := by
 intro d
 induction d with
 | zero =>
  intro j acc h1 h6 e _
  refine ev_some 1 fun k => ?_
  rw [tide_ends.l1, hts_length, w64 (x := (j : Int) + 1) (by omega) (by omega), if_neg (by omega), outs, List.append_nil]
 | succ d ih =>
  intro j acc h1 h6 e hl
  have c1 : j + 1 < n := by omega
  have hp : (((j - 1 : Nat)) : Int) = (j : Int) - 1 := by omega
  have a0 := hts_at (P := P) (from_ := from_) (s := s) (n := n) (j := j) (by omega)
  have a1 := hts_at (P := P) (from_ := from_) (s := s) (n := n) (j := j - 1) (by omega)
  have a2 := hts_at (P := P) (from_ := from_) (s := s) (n := n) (j := j + 1) (by omega)
  rw [hp] at a1
  rw [show ((j + 1 : Nat) : Int) = (j : Int) + 1 by omega] at a2
  have len : acc.length < 8796093022208 := by omega
  have w1 : wrap64 ((j : Int) + 1) = (j : Int) + 1 := w64 (by omega) (by omega)
  have w2 : wrap64 ((j : Int) - 1) = (j : Int) - 1 := w64 (by omega) (by omega)
  have u : ∀ k, tide_ends.l1 (k + 1) from_ (hts P from_ s n) acc (j : Int) = tide_ends.l1 k from_ (hts P from_ s n) (acc ++ (if pk P from_ s j then [sp_ from_ j] else [])) ((j : Int) + 1) := by
   intro k
   rw [tide_ends.l1, hts_length, w1, w2, if_pos (by omega), if_pos (by omega), if_pos (by omega), if_pos (by omega), if_pos (by omega), a0, a1, a2]
   by_cases d1 : (ht P from_ s j).f0 > (ht P from_ s (j - 1)).f1
   ·rw [if_pos d1, if_pos (by omega)]
    by_cases d2 : (ht P from_ s j).f0 > (ht P from_ s (j + 1)).f1
    ·rw [if_pos d2, if_pos len, if_pos (show pk P from_ s j from ⟨d1, d2⟩), w64 (x := ((j : Int) - 1) * 3600000) (by omega) (by omega), w64 (x := ((j : Int) + 1) * 3600000) (by omega) (by omega), w64 (x := from_ + ((j : Int) - 1) * 3600000) (by omega) (by omega), w64 (x := from_ + ((j : Int) + 1) * 3600000) (by omega) (by omega)]
     rfl
    ·rw [if_neg d2, if_neg (fun h : pk P from_ s j => d2 h.2), List.append_nil]
   ·rw [if_neg d1, if_neg (fun h : pk P from_ s j => d1 h.1), List.append_nil]
  have r := ih (j + 1) (acc ++ (if pk P from_ s j then [sp_ from_ j] else [])) (by omega) (by omega) (by omega) (by rw [List.length_append]; split <;> simp <;> omega)
  rw [List.append_assoc] at r
  exact ev_step 1 u r
theorem law_rounds (H : ∀ t, it t = 0 → Ev (fun k => series_Value.f k 0 0 (l.map cv) 0 t) ((P t).1, (P t).2, 0) ∧ -12000000000 ≤ (P t).1 ∧ (P t).1 ≤ (P t).2 ∧ (P t).2 ≤ 12000000000) (hte : te l = 0) {A B : List S24} (hA : A.length ≤ 1000) (hB : B.length ≤ 1000) : ∀ (d j : Nat) (x y : Int), 1 ≤ j → j ≤ 600 → j + 1 + d = max n (j + 1) → 0 ≤ x → 0 ≤ y → A.drop x.toNat = outs P from_ 1 j d → B.drop y.toNat = outs P from_ (-1) j d →
  x ≤ (A.length : Int) → y ≤ (B.length : Int) → Ev (fun k => ephemerislaw2_TideEnds.l0 k l to_ A B x y (from_ + (j : Int) * 3600000)) true := by
 intro d
 induction d with
 | zero =>
  intro j x y h1 h6 e x0 y0 hx hy x1 y1
  have d1 := drop_nil x0 hx
  have d2 := drop_nil y0 hy
  refine ev_some 1 fun k => ?_
  rw [ephemerislaw2_TideEnds.l0, w64 (x := from_ + (j : Int) * 3600000 + 3600000) (by omega) (by omega), if_neg (by omega), if_pos (by omega)]
  exact congrArg some (by simp; omega)
 | succ d ih =>
  intro j x y h1 h6 e x0 y0 hx hy x1 y1
  have c1 : j + 1 < n := by omega
  have v0 : it (from_ + (j : Int) * 3600000) = 0 := if_pos ⟨by omega, by omega⟩
  have v1 : it (from_ + (j : Int) * 3600000 - 3600000) = 0 := if_pos ⟨by omega, by omega⟩
  have v2 : it (from_ + (j : Int) * 3600000 + 3600000) = 0 := if_pos ⟨by omega, by omega⟩
  obtain ⟨p0, q0, q0', q0''⟩ := H _ v0
  obtain ⟨p1, q1, q1', q1''⟩ := H _ v1
  obtain ⟨p2, q2, q2', q2''⟩ := H _ v2
  have em : from_ + ((j - 1 : Nat) : Int) * 3600000 = from_ + (j : Int) * 3600000 - 3600000 := by omega
  have ep : from_ + ((j + 1 : Nat) : Int) * 3600000 = from_ + (j : Int) * 3600000 + 3600000 := by omega
  have k1 : pk P from_ 1 j ↔ (P (from_ + (j : Int) * 3600000)).1 > (P (from_ + (j : Int) * 3600000 - 3600000)).2 ∧ (P (from_ + (j : Int) * 3600000)).1 > (P (from_ + (j : Int) * 3600000 + 3600000)).2 := by
   unfold pk ht
   rw [em, ep, if_neg (by omega), if_neg (by omega), if_neg (by omega)]
  have k2 : pk P from_ (-1) j ↔ (P (from_ + (j : Int) * 3600000)).2 < (P (from_ + (j : Int) * 3600000 - 3600000)).1 ∧ (P (from_ + (j : Int) * 3600000)).2 < (P (from_ + (j : Int) * 3600000 + 3600000)).1 := by
   unfold pk ht
   rw [em, ep, if_pos (by omega), if_pos (by omega), if_pos (by omega)]
   dsimp only
   constructor <;> rintro ⟨g1, g2⟩ <;> exact ⟨by omega, by omega⟩
  have sl : from_ + (j : Int) * 3600000 - 3600000 = (sp_ from_ j).f0 := by unfold sp_; dsimp only; omega
  have sh : from_ + (j : Int) * 3600000 + 3600000 = (sp_ from_ j).f1 := by unfold sp_; dsimp only; omega
  have wm : wrap64 (from_ + (j : Int) * 3600000 - 3600000) = from_ + (j : Int) * 3600000 - 3600000 := w64 (by omega) (by omega)
  have wp : wrap64 (from_ + (j : Int) * 3600000 + 3600000) = from_ + (j : Int) * 3600000 + 3600000 := w64 (by omega) (by omega)
  refine ev_step 1 (fun k => by rw [ephemerislaw2_TideEnds.l0, wp, wm, if_pos (by omega)]) ?_
  refine ev_bind (height_of hte p1) (ev_bind (height_of hte p0) (ev_bind (height_of hte p2) ?_))
  dsimp only
  have hx' : A.drop x.toNat = (if pk P from_ 1 j then [sp_ from_ j] else []) ++ outs P from_ 1 (j + 1) d := hx
  have hy' : B.drop y.toNat = (if pk P from_ (-1) j then [sp_ from_ j] else []) ++ outs P from_ (-1) (j + 1) d := hy
  clear hx hy
  generalize (P (from_ + (j : Int) * 3600000)).1 = m0 at *
  generalize (P (from_ + (j : Int) * 3600000)).2 = m1 at *
  generalize (P (from_ + (j : Int) * 3600000 - 3600000)).1 = n0 at *
  generalize (P (from_ + (j : Int) * 3600000 - 3600000)).2 = n1 at *
  generalize (P (from_ + (j : Int) * 3600000 + 3600000)).1 = o0 at *
  generalize (P (from_ + (j : Int) * 3600000 + 3600000)).2 = o1 at *
  have low : ∀ x', A.drop x'.toNat = outs P from_ 1 (j + 1) d → 0 ≤ x' → x' ≤ (A.length : Int) → Ev (fun k => ephemerislaw2_TideEnds.j5 k l to_ A B x' y (from_ + (j : Int) * 3600000) n0 n1 m0 m1 o0 o1 (from_ + (j : Int) * 3600000 - 3600000) (from_ + (j : Int) * 3600000 + 3600000)) true := by
   intro x' hx x0' x1'
   have nx : ∀ y', B.drop y'.toNat = outs P from_ (-1) (j + 1) d → 0 ≤ y' → y' ≤ (B.length : Int) → Ev (fun k => ephemerislaw2_TideEnds.l0 k l to_ A B x' y' (wrap64 (from_ + (j : Int) * 3600000 + 3600000))) true := by
    intro y' hy y0' y1'
    rw [wp, ← ep]
    exact ih (j + 1) x' y' (by omega) (by omega) (by omega) x0' y0' hx hy x1' y1'
   have no : ¬ pk P from_ (-1) j → Ev (fun k => ephemerislaw2_TideEnds.j6 k l to_ A B x' y (from_ + (j : Int) * 3600000) false (from_ + (j : Int) * 3600000 - 3600000) (from_ + (j : Int) * 3600000 + 3600000)) true := by
    intro hp
    rw [if_neg hp, List.nil_append] at hy'
    exact ev_step 1 (fun k => by rw [ephemerislaw2_TideEnds.j6, if_neg (by simp)]) (nx y hy' y0 y1)
   by_cases d1 : m1 < n0
   ·by_cases d2 : m1 < o0
    ·have hp := k2.2 ⟨d1, d2⟩
     rw [if_pos hp, List.singleton_append] at hy'
     obtain ⟨g1, g2, g3⟩ := drop_cons z24 y0 hy'
     have g2' : rd_T24 B y = sp_ from_ j := g2
     refine ev_step 2 (fun k => ?_) (nx (y + 1) g3 (by omega) (by omega))
     rw [ephemerislaw2_TideEnds.j5, if_pos d1, decide_eq_true d2, ephemerislaw2_TideEnds.j6, if_pos rfl, if_neg (by omega), if_pos y0, if_pos g1, g2', sl, sh, if_neg (by simp), w64 (x := y + 1) (by omega) (by omega)]
    ·exact ev_step 1 (fun k => by rw [ephemerislaw2_TideEnds.j5, if_pos d1, decide_eq_false d2]) (no fun h => d2 (k2.1 h).2)
   ·exact ev_step 1 (fun k => by rw [ephemerislaw2_TideEnds.j5, if_neg d1]) (no fun h => d1 (k2.1 h).1)
  have no : ¬ pk P from_ 1 j → Ev (fun k => ephemerislaw2_TideEnds.j4 k l to_ A B x y (from_ + (j : Int) * 3600000) false n0 n1 m0 m1 o0 o1 (from_ + (j : Int) * 3600000 - 3600000) (from_ + (j : Int) * 3600000 + 3600000)) true := by
   intro hp
   rw [if_neg hp, List.nil_append] at hx'
   exact ev_step 1 (fun k => by rw [ephemerislaw2_TideEnds.j4, if_neg (by simp)]) (low x hx' x0 x1)
  by_cases d1 : m0 > n1
  ·by_cases d2 : m0 > o1
   ·have hp := k1.2 ⟨d1, d2⟩
    rw [if_pos hp, List.singleton_append] at hx'
    obtain ⟨g1, g2, g3⟩ := drop_cons z24 x0 hx'
    have g2' : rd_T24 A x = sp_ from_ j := g2
    refine ev_step 1 (fun k => ?_) (low (x + 1) g3 (by omega) (by omega))
    rw [if_pos d1, decide_eq_true d2, ephemerislaw2_TideEnds.j4, if_pos rfl, if_neg (by omega), if_pos x0, if_pos g1, g2', ← sl, ← sh, if_neg (by simp), w64 (x := x + 1) (by omega) (by omega)]
   ·exact Ev.congr (fun k => by rw [if_pos d1, decide_eq_false d2]) (no fun h => d2 (k1.1 h).2)
  ·exact Ev.congr (fun k => by rw [if_neg d1]) (no fun h => d1 (k1.1 h).1)
end
theorem outs_length (P : Int → Int × Int) (from_ s : Int) : ∀ d j, (outs P from_ s j d).length ≤ d := by
 intro d
 induction d with
 | zero => intro j; simp [outs]
 | succ d ih =>
  intro j
  have := ih (j + 1)
  rw [outs, List.length_append]
  split <;> simp <;> omega
def ee (l : List S38) (a b : Int) : Int := if te l ≠ 0 then te l else if it a ≠ 0 ∨ it b ≠ 0 then 3 else if a > b then 9 else if b - a > 1728000000 then 2 else 0
theorem ends_bad {l : List S38} {a b s : Int} (h : ee l a b ≠ 0) : Ev (fun k => tide_ends.f k l a b s) (([] : List S24), ee l a b) := by
 unfold tide_ends.f
 unfold ee at h ⊢
 refine ev_bind (tcheck_ev l).1 ?_
 by_cases c : te l = 0
 ·simp only [c, ne_eq, not_true_eq_false, if_false, if_true] at h ⊢
  have vd : ∀ x, decide (-345600000000000 ≤ x ∧ x < 345600086400000) = decide (it x = 0) := by
   intro x
   unfold it
   by_cases c : -345600000000000 ≤ x ∧ x < 345600086400000
   ·rw [if_pos c, decide_eq_true c]; rfl
   ·rw [if_neg c, decide_eq_false c]; rfl
  refine ev_some 1 fun k => ?_
  rw [valid_at, valid_at, vd, vd, Option.bind_some]
  by_cases c1 : it a = 0
  ·rw [decide_eq_true c1, if_pos rfl, Option.bind_some]
   by_cases c2 : it b = 0
   ·obtain ⟨a1, a2⟩ := it_zero c1
    obtain ⟨b1, b2⟩ := it_zero c2
    simp only [c1, c2, not_true_eq_false, or_self, if_false] at h ⊢
    rw [tide_ends.j0, w64 (x := b - a) (by omega) (by omega)]
    by_cases c3 : a > b
    ·simp [c3]
    ·by_cases c4 : b - a > 1728000000
     ·simp [c3, c4]
     ·simp [c3, c4] at h
   ·simp [c1, c2, tide_ends.j0]
  ·simp [c1, tide_ends.j0]
 ·simp only [ne_eq, c, not_false_eq_true, if_true, if_neg c]
  exact ev_some 0 fun k => rfl
theorem law_err {l A B : List S38} {a b : Int} {k : Nat} {e : Int} (he : e ≠ 0) : ephemerislaw2_TideEnds.j1 (k + 2) l a b ([] : List S24) e [] e e = some true := by
 rw [ephemerislaw2_TideEnds.j1, if_neg he, ephemerislaw2_TideEnds.j2, if_pos rfl, if_pos rfl, if_pos rfl]
 simp
theorem TideEnds : PureX := by
 intro l a b hl ha hb
 refine ev_k (g := fun k => ephemerislaw2_TideEnds.f k l a b) ?_
 unfold ephemerislaw2_TideEnds.f
 refine ev_bind tide_works ?_
 refine Ev.congr (fun k => if_pos rfl) ?_
 have law : ∀ (A B : List S24) (ea eb : Int), Ev (fun k => tide_ends.f k l a b 1) (A, ea) → Ev (fun k => tide_ends.f k l a b (-1)) (B, eb) → Ev (fun k => ephemerislaw2_TideEnds.j1 k l a b A ea B eb (ee l a b)) true →
   Ev (fun k => (tide_High.f k l a b).bind fun bt265 => ((tide_Low.f k l a b).bind fun bt269 => ((ephemerislaw2_tideErr.f k l).bind fun t273 => (if t273 = 0 then ((ephemerisref2_InstantErr.f a).bind fun t274 => (if t274 = 0 then ((ephemerisref2_InstantErr.f b).bind fun t275 => (ephemerislaw2_TideEnds.j0 k l a b bt265.1 bt265.2 bt269.1 bt269.2 t273 (t275 != 0))) else (ephemerislaw2_TideEnds.j0 k l a b bt265.1 bt265.2 bt269.1 bt269.2 t273 true))) else (ephemerislaw2_TideEnds.j1 k l a b bt265.1 bt265.2 bt269.1 bt269.2 t273))))) true := by
  intro A B ea eb h1 h2 h3
  have g1 : Ev (fun k => tide_High.f k l a b) (A, ea) := by
   unfold tide_High.f
   exact ev_bind h1 (ev_some 0 fun k => rfl)
  have g2 : Ev (fun k => tide_Low.f k l a b) (B, eb) := by
   unfold tide_Low.f
   exact ev_bind h2 (ev_some 0 fun k => rfl)
  refine ev_bind g1 (ev_bind g2 (ev_bind (tcheck_ev l).2 ?_))
  dsimp only
  unfold ee at h3
  by_cases c : te l = 0
  ·simp only [c, ne_eq, not_true_eq_false, if_false, if_true] at h3 ⊢
   refine Ev.congr (fun k => by rw [instErr_at, Option.bind_some]) ?_
   by_cases c1 : it a = 0
   ·refine Ev.congr (fun k => by rw [if_pos c1, instErr_at, Option.bind_some]) ?_
    by_cases c2 : it b = 0
    ·obtain ⟨a1, a2⟩ := it_zero c1
     obtain ⟨b1, b2⟩ := it_zero c2
     simp only [c1, c2, not_true_eq_false, or_self, if_false] at h3
     have e2 : (it b != 0) = false := by simp [c2]
     refine ev_step 1 (fun k => by rw [e2, ephemerislaw2_TideEnds.j0, if_neg (by simp), w64 (x := b - a) (by omega) (by omega)]) ?_
     by_cases c3 : a > b
     ·rw [if_pos c3] at h3
      exact Ev.congr (fun k => by rw [if_pos c3]) h3
     ·rw [if_neg c3] at h3
      by_cases c4 : b - a > 1728000000
      ·rw [if_pos c4] at h3
       exact Ev.congr (fun k => by rw [if_neg c3, if_pos c4]) h3
      ·rw [if_neg c4] at h3
       exact Ev.congr (fun k => by rw [if_neg c3, if_neg c4]) h3
    ·have e2 : (it b != 0) = true := by simp [c2]
     simp only [c2, not_false_eq_true, or_true, if_true] at h3
     exact ev_step 1 (fun k => by rw [e2, ephemerislaw2_TideEnds.j0, if_pos rfl]) h3
   ·simp only [c1, not_false_eq_true, true_or, if_true] at h3
    exact ev_step 1 (fun k => by rw [if_neg c1, ephemerislaw2_TideEnds.j0, if_pos rfl]) h3
  ·simp only [ne_eq, c, not_false_eq_true, if_true, if_neg c] at h3 ⊢
   exact h3
 by_cases h0 : ee l a b = 0
 ·have h1 : te l = 0 ∧ it a = 0 ∧ it b = 0 ∧ a ≤ b ∧ b - a ≤ 1728000000 := by
   unfold ee at h0
   by_cases c : te l = 0
   ·by_cases c1 : it a = 0
    ·by_cases c2 : it b = 0
     ·refine ⟨c, c1, c2, ?_⟩
      simp only [c, c1, c2, ne_eq, not_true_eq_false, or_self, if_false] at h0
      by_cases c3 : a > b
      ·rw [if_pos c3] at h0; exact absurd h0 (by decide)
      ·rw [if_neg c3] at h0
       by_cases c4 : b - a > 1728000000
       ·rw [if_pos c4] at h0; exact absurd h0 (by decide)
       ·omega
     ·simp [c, c2] at h0
    ·simp [c, c1] at h0
   ·simp [c] at h0
  obtain ⟨hte, hia, hib, hab, hle⟩ := h1
  obtain ⟨hl12, hg⟩ := te_zero hte
  obtain ⟨a1, a2⟩ := it_zero hia
  obtain ⟨b1, b2⟩ := it_zero hib
  have ex : ∀ t, ∃ p : Int × Int, it t = 0 → Ev (fun k => series_Value.f k 0 0 (l.map cv) 0 t) (p.1, p.2, 0) ∧ -12000000000 ≤ p.1 ∧ p.1 ≤ p.2 ∧ p.2 ≤ 12000000000 := by
   intro t
   by_cases c : it t = 0
   ·obtain ⟨dl, dh, h⟩ := val_ex hte c
    exact ⟨(dl, dh), fun _ => h⟩
   ·exact ⟨(0, 0), fun h => absurd h c⟩
  obtain ⟨P, hP⟩ := Classical.axiomOfChoice ex
  obtain ⟨n, hn⟩ : ∃ n : Nat, (n : Int) = (b - a) / 3600000 + 1 := ⟨((b - a) / 3600000 + 1).toNat, by omega⟩
  have hn2 : n ≤ 500 := by omega
  obtain ⟨d, hd⟩ : ∃ d : Nat, 1 + 1 + d = max n (1 + 1) := ⟨max n 2 - 2, by omega⟩
  have ends : ∀ s : Int, Ev (fun k => tide_ends.f k l a b s) (outs P a s 1 d, 0) := by
   intro s
   have r := ends_heights (l := l) (P := P) hn hn2 a1 b2 hab hP hl12 hg (s := s) (ends_peaks (P := P) hn hn2 a1 b2 hab s d 1 [] (by omega) (by omega) hd (by simp; omega)) n 0 (by omega)
   rw [List.nil_append] at r
   unfold tide_ends.f
   refine ev_bind (hte ▸ (tcheck_ev l).1) ?_
   refine ev_step 1 (fun k => by rw [if_pos rfl, valid_at, decide_eq_true ⟨a1, a2⟩, Option.bind_some, if_pos rfl, valid_at, decide_eq_true ⟨b1, b2⟩, Option.bind_some, Bool.not_true, tide_ends.j0, if_neg (by simp), if_neg (by omega), w64 (x := b - a) (by omega) (by omega), if_neg (by omega)]) ?_
   have e0 : a + ((0 : Nat) : Int) * 3600000 = a := by omega
   rw [e0] at r
   exact r
  refine law _ _ 0 0 (ends 1) (ends (-1)) ?_
  rw [h0]
  have o1 := outs_length P a 1 d 1
  have o2 := outs_length P a (-1) d 1
  have r := law_rounds (l := l) (P := P) hn hn2 a1 b2 hab hP hte (A := outs P a 1 1 d) (B := outs P a (-1) 1 d) (by omega) (by omega) d 1 0 0 (by omega) (by omega) hd (by omega) (by omega) rfl rfl (by omega) (by omega)
  have e1 : a + ((1 : Nat) : Int) * 3600000 = a + 3600000 := by omega
  rw [e1] at r
  refine ev_step 2 (fun k => ?_) r
  rw [ephemerislaw2_TideEnds.j1, if_pos rfl, if_pos rfl, ephemerislaw2_TideEnds.j2]
  rw [if_neg (by decide), w64 (x := a + 3600000) (by omega) (by omega)]
 ·exact law [] [] _ _ (ends_bad h0) (ends_bad h0) (ev_some 2 fun k => law_err (A := l) (B := l) h0)
end Go.Proofs.Ytcifakgcbgodiaa.Pure
