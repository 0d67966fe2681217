/- PhaseNumbers: Number is the lunation of the last new moon. -/
import Derived.Test.YtcifakgcbgodiaaPhaseNumbersn37
namespace Go.Proofs.Ytcifakgcbgodiaa.Pure
open Go Go.RowKit YtcifakgcbgodiaaW.PrintWords YtcifakgcbgodiaaW.PrintLast YtcifakgcbgodiaaW.PrintMore PAll Base Over RefT Units SumsT Vals SinT PhaseT
set_option linter.unusedVariables false
set_option linter.unusedSimpArgs false
theorem phase_works : Ev (fun k => ephemerislaw2_phaseWorks.f k) true := Ev.of ephemerislaw2_phaseWorks.mono (k := 100) (by decide +kernel)
theorem find_ex : ∃ x y : Int → Int, ∀ n, -100000 ≤ n → n ≤ 100000 → Ev (fun k => phase_Find.f k n 0) (x n, y n, 0) ∧ 977949455 + 2551442878 * n - 172800000 < x n ∧ x n ≤ y n ∧ y n < 977949455 + 2551442878 * n + 172800000 := by
 have h : ∀ n, ∃ p : Int × Int, -100000 ≤ n → n ≤ 100000 → Ev (fun k => phase_Find.f k n 0) (p.1, p.2, 0) ∧ 977949455 + 2551442878 * n - 172800000 < p.1 ∧ p.1 ≤ p.2 ∧ p.2 < 977949455 + 2551442878 * n + 172800000 := by
  intro n
  by_cases c : -100000 ≤ n ∧ n ≤ 100000
  ·obtain ⟨x, y, v, w, ef, x1, xy, y1, _⟩ := find_ev (L := n) (q := 0) (by omega) (by omega) (by omega) (by omega)
   unfold md at x1 y1
   exact ⟨(x, y), fun _ _ => ⟨ef, by dsimp only; omega, xy, by dsimp only; omega⟩⟩
  ·exact ⟨(0, 0), fun a b => absurd ⟨a, b⟩ c⟩
 obtain ⟨p, hp⟩ := Classical.axiomOfChoice h
 exact ⟨fun n => (p n).1, fun n => (p n).2, hp⟩
theorem open_rounds {x y : Int → Int} (H : ∀ n, -100000 ≤ n → n ≤ 100000 → Ev (fun k => phase_Find.f k n 0) (x n, y n, 0)) {t K m : Int} (k1 : -99999 ≤ K) (k2 : K ≤ 99999) (m2 : m ≤ K + 2) (m3 : m ≤ 100000) (h1 : x m ≤ t) (h2 : t ≤ y m) : ∀ (d : Nat) (i : Int), -100000 ≤ i → i + (d : Int) = m → Ev (fun k => ephemerislaw2_PhaseNumbers.l0 k t 0 11 K i) true := by
 intro d
 induction d with
 | zero =>
  intro i i1 e
  obtain rfl : i = m := by omega
  refine ev_step 1 (fun k => by rw [ephemerislaw2_PhaseNumbers.l0, w64 (x := K + 2) (by omega) (by omega), if_pos (by omega)]) ?_
  refine ev_bind (H i i1 m3) (ev_some 0 fun k => ?_)
  dsimp only
  rw [if_pos rfl, if_pos h1, if_pos h2, if_pos rfl]
  rfl
 | succ d ih =>
  intro i i1 e
  have r := ih (i + 1) (by omega) (by omega)
  refine ev_step 1 (fun k => by rw [ephemerislaw2_PhaseNumbers.l0, w64 (x := K + 2) (by omega) (by omega), if_pos (by omega)]) ?_
  refine ev_bind (H i i1 (by omega)) ?_
  dsimp only
  refine Ev.congr (fun k => if_pos rfl) ?_
  rw [w64 (x := i + 1) (by omega) (by omega)]
  by_cases c : x i ≤ t
  ·by_cases c2 : t ≤ y i
   ·exact ev_some 0 fun k => by rw [if_pos c, if_pos c2, if_pos rfl]; rfl
   ·exact Ev.congr (fun k => by rw [if_pos c, if_neg c2]) r
  ·exact Ev.congr (fun k => if_neg c) r
theorem PhaseNumbers : ephemerislaw2_PhaseNumbers.Pure := by
 intro t ht
 refine ev_k (g := fun k => ephemerislaw2_PhaseNumbers.f k t) ?_
 unfold ephemerislaw2_PhaseNumbers.f
 refine ev_bind phase_works ?_
 refine Ev.congr (fun k => if_pos rfl) ?_
 by_cases hv : it t = 0
 ·obtain ⟨v1, v2⟩ := it_zero hv
  have e0 : wrap64 (t - 977949455) = t - 977949455 := w64 (by omega) (by omega)
  obtain ⟨K, hK⟩ : ∃ K, K = (t - 977949455) / 2551442878 := ⟨_, rfl⟩
  have hn : ∀ k, phase_Number.f k t = if K < -99998 then phase_Number.j0 k t K true else phase_Number.j0 k t K (decide (K > 99998)) := by
   intro k
   unfold phase_Number.f
   rw [e0, floor_pos (by omega) (by omega), Option.bind_some, valid_at, decide_eq_true ⟨v1, v2⟩, Option.bind_some, if_pos rfl, ← hK]
  by_cases c : K < -99998 ∨ 99998 < K
  ·have en : Ev (fun k => phase_Number.f k t) (0, 3) := by
    refine ev_some 1 fun k => ?_
    rw [hn]
    by_cases c1 : K < -99998
    ·rw [if_pos c1, phase_Number.j0, if_pos rfl]
    ·rw [if_neg c1, decide_eq_true (by omega), phase_Number.j0, if_pos rfl]
   refine ev_bind en ?_
   refine ev_some 1 fun k => ?_
   dsimp only
   rw [instErr_at, Option.bind_some, if_pos hv, e0]
   by_cases c1 : t - 977949455 < -255139184914244
   ·rw [if_pos c1, ephemerislaw2_PhaseNumbers.j0, if_pos rfl, if_pos rfl]; rfl
   ·rw [if_neg c1, decide_eq_true (by omega), ephemerislaw2_PhaseNumbers.j0, if_pos rfl, if_pos rfl]; rfl
  ·obtain ⟨x, y, H⟩ := find_ex
   have Hf : ∀ n, -100000 ≤ n → n ≤ 100000 → Ev (fun k => phase_Find.f k n 0) (x n, y n, 0) := fun n a b => (H n a b).1
   have law : ∀ n e : Int, Ev (fun k => phase_Number.f k t) (n, e) → Ev (fun k => ephemerislaw2_PhaseNumbers.j0 k t n e false) true → Ev (fun k => (phase_Number.f k t).bind fun bt325 => ((ephemerisref2_InstantErr.f t).bind fun t327 => (if t327 = 0 then (if (wrap64 (t - 977949455)) < (-255139184914244) then (ephemerislaw2_PhaseNumbers.j0 k t bt325.1 bt325.2 true) else (ephemerislaw2_PhaseNumbers.j0 k t bt325.1 bt325.2 (decide ((wrap64 (t - 977949455)) ≥ 255141736357122)))) else (ephemerislaw2_PhaseNumbers.j0 k t bt325.1 bt325.2 true)))) true := by
    intro n e h1 h2
    refine ev_bind h1 ?_
    refine Ev.congr (fun k => by rw [instErr_at, Option.bind_some, if_pos hv, e0, if_neg (by omega), decide_eq_false (by omega)]) ?_
    exact h2
   have num : ∀ r, Ev (fun k => phase_Number.l0 k t K (K + 1)) r → Ev (fun k => phase_Number.f k t) r := by
    intro r h
    refine ev_step 1 (fun k => ?_) h
    rw [hn, if_neg (by omega), decide_eq_false (by omega), phase_Number.j0, if_neg (by simp), w64 (x := K + 1) (by omega) (by omega)]
   have step : ∀ (n : Int) r, K - 1 ≤ n → n ≤ K + 1 → (y n < t → r = (n, 0)) → (x n ≤ t → t ≤ y n → r = (0, 11)) → (t < x n → Ev (fun k => phase_Number.l0 k t K (n - 1)) r) → Ev (fun k => phase_Number.l0 k t K n) r := by
    intro n r n1 n2 g1 g2 g3
    refine ev_step 1 (fun k => by rw [phase_Number.l0, w64 (x := K - 1) (by omega) (by omega), if_pos n1]) ?_
    refine ev_bind (Hf n (by omega) (by omega)) ?_
    dsimp only
    refine Ev.congr (fun k => if_pos rfl) ?_
    rw [w64 (x := n - 1) (by omega) (by omega)]
    by_cases c1 : t > y n
    ·rw [g1 c1]
     exact ev_some 0 fun k => if_pos c1
    ·by_cases c2 : t ≥ x n
     ·rw [g2 c2 (by omega)]
      exact ev_some 0 fun k => by rw [if_neg c1, if_pos c2]
     ·exact Ev.congr (fun k => by rw [if_neg c1, if_neg c2]) (g3 (by omega))
   obtain ⟨f0, f1, f2, f3⟩ := H K (by omega) (by omega)
   obtain ⟨u0, u1, u2, u3⟩ := H (K + 1) (by omega) (by omega)
   obtain ⟨w0, w1, w2, w3⟩ := H (K + 2) (by omega) (by omega)
   obtain ⟨d0, d1, d2, d3⟩ := H (K - 1) (by omega) (by omega)
   have good : ∀ n : Int, -100000 ≤ n → n + 1 ≤ 100000 → y n < t → t < x (n + 1) → Ev (fun k => ephemerislaw2_PhaseNumbers.j0 k t n 0 false) true := by
    intro n n1 n2 g1 g2
    refine ev_step 1 (fun k => by rw [ephemerislaw2_PhaseNumbers.j0, if_neg (by simp), if_pos rfl, w64 (x := n + 1) (by omega) (by omega)]) ?_
    refine ev_bind (Hf n n1 (by omega)) (ev_bind (Hf (n + 1) (by omega) n2) (ev_some 0 fun k => ?_))
    dsimp only
    rw [if_pos rfl, if_pos rfl, if_pos g1]
    exact congrArg some (decide_eq_true g2)
   have bad : ∀ n : Int, K - 1 ≤ n → n ≤ K + 1 → x n ≤ t → t ≤ y n → Ev (fun k => ephemerislaw2_PhaseNumbers.j0 k t 0 11 false) true := by
    intro n n1 n2 g1 g2
    obtain ⟨T, hT⟩ : ∃ T, T = Int.tdiv (t - 977949455) 2551442878 := ⟨_, rfl⟩
    have hT2 : T = K ∨ T = K + 1 := by
     rw [hT, hK, Int.tdiv_eq_ediv]
     split <;> simp <;> omega
    have hT3 : T ≤ 99998 := by
     rcases Int.lt_or_le (t - 977949455) 0 with c1 | c1
     ·omega
     ·rw [Int.tdiv_eq_ediv_of_nonneg c1] at hT; omega
    refine ev_step 1 (fun k => by rw [ephemerislaw2_PhaseNumbers.j0, if_neg (by simp), if_neg (by decide), e0, ← hT, w64 (x := T) (by omega) (by omega), w64 (x := T - 2) (by omega) (by omega)]) ?_
    exact open_rounds Hf (K := T) (m := n) (by omega) (by omega) (by omega) (by omega) g1 g2 (n - (T - 2)).toNat (T - 2) (by omega) (by omega)
   rcases Int.lt_or_le (y (K + 1)) t with a1 | a1
   ·exact law (K + 1) 0 (num _ (step (K + 1) _ (by omega) (by omega) (fun _ => rfl) (fun _ h => absurd h (by omega)) (fun h => absurd h (by omega)))) (good (K + 1) (by omega) (by omega) a1 (by rw [show K + 1 + 1 = K + 2 by omega]; omega))
   rcases Int.lt_or_le t (x (K + 1)) with a2 | a2
   ·rcases Int.lt_or_le (y K) t with b1 | b1
    ·refine law K 0 (num _ (step (K + 1) _ (by omega) (by omega) (fun h => absurd h (by omega)) (fun h => absurd h (by omega)) (fun _ => ?_))) (good K (by omega) (by omega) b1 a2)
     rw [show K + 1 - 1 = K by omega]
     exact step K _ (by omega) (by omega) (fun _ => rfl) (fun _ h => absurd h (by omega)) (fun h => absurd h (by omega))
    ·rcases Int.lt_or_le t (x K) with b2 | b2
     ·refine law (K - 1) 0 (num _ (step (K + 1) _ (by omega) (by omega) (fun h => absurd h (by omega)) (fun h => absurd h (by omega)) (fun _ => ?_))) (good (K - 1) (by omega) (by omega) (by omega) (by rw [show K - 1 + 1 = K by omega]; exact b2))
      rw [show K + 1 - 1 = K by omega]
      refine step K _ (by omega) (by omega) (fun h => absurd h (by omega)) (fun h => absurd h (by omega)) (fun _ => ?_)
      exact step (K - 1) _ (by omega) (by omega) (fun _ => rfl) (fun _ h => absurd h (by omega)) (fun h => absurd h (by omega))
     ·refine law 0 11 (num _ (step (K + 1) _ (by omega) (by omega) (fun h => absurd h (by omega)) (fun h => absurd h (by omega)) (fun _ => ?_))) (bad K (by omega) (by omega) b2 b1)
      rw [show K + 1 - 1 = K by omega]
      exact step K _ (by omega) (by omega) (fun h => absurd h (by omega)) (fun _ _ => rfl) (fun h => absurd h (by omega))
   ·exact law 0 11 (num _ (step (K + 1) _ (by omega) (by omega) (fun h => absurd h (by omega)) (fun _ _ => rfl) (fun h => absurd h (by omega)))) (bad (K + 1) (by omega) (by omega) a2 a1)
 ·have hv2 : ¬ (-345600000000000 ≤ t ∧ t < 345600086400000) := fun h => hv (if_pos h)
  have en : Ev (fun k => phase_Number.f k t) (0, 3) := by
   obtain ⟨q, hq⟩ : ∃ q, interval_Floor.f (wrap64 (t - 977949455)) 2551442878 = some q := ⟨_, floor_pos ⟨w64_lo _, w64_hi _⟩ (by omega)⟩
   refine ev_some 1 fun k => ?_
   unfold phase_Number.f
   rw [hq, Option.bind_some, valid_at, decide_eq_false hv2, Option.bind_some, if_neg (by simp), phase_Number.j0, if_pos rfl]
  refine ev_bind en ?_
  refine ev_some 1 fun k => ?_
  dsimp only
  rw [instErr_at, Option.bind_some, if_neg hv, ephemerislaw2_PhaseNumbers.j0, if_pos rfl, if_pos rfl]
  rfl
end Go.Proofs.Ytcifakgcbgodiaa.Pure
