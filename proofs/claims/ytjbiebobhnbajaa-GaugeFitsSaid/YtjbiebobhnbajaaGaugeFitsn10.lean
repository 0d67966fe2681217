/- Written by a program of this session out of the translation. -/
import Derived.Test.YtjbiebobhnbajaaGaugeFitsn3
namespace Go.Proofs.Ytjbiebobhnbajaa.PAll
open Go.RowKit Go.Proofs.YtjbiebobhnbajaaW.PrintWords Go.Proofs.YtjbiebobhnbajaaW.PrintLast Go.Proofs.YtjbiebobhnbajaaW.PrintMore Go.Proofs.Ytjbiebobhnbajaa.More2
attribute [local go_sem] max2_int min2_int max_two min_two max_three min_three max_four min_four tdiv2e18_ tdiv1e18_ cellSS_  -- for this text's walks alone
set_option linter.unusedVariables false
set_option linter.unusedSimpArgs false
mutual
def ephemerisref2_Dependent.l0 : Nat → List (List Int) → Int → List (List Int) → Int → Int → Option (Bool)
  | 0, _, _, _, _, _ => none
  | k + 1, x0, x3, x14, x15, x16 => if x16 < x15 then (if 0 ≤ x16 then (if x16 < (x14.length : Int) then (if x3 = 1 then (if 0 < ((rd_L1 x14 x16).length : Int) then (ephemerisref2_Dependent.j1 k x0 x3 (rd_L1 x14 x16) x14 x15 x16 ((rd (rd_L1 x14 x16) 0) != 0)) else (none)) else (ephemerisref2_Dependent.j1 k x0 x3 (rd_L1 x14 x16) x14 x15 x16 false)) else (none)) else (none)) else (some true)
def ephemerisref2_Dependent.j1 : Nat → List (List Int) → Int → List Int → List (List Int) → Int → Int → Bool → Option (Bool)
  | 0, _, _, _, _, _, _, _ => none
  | k + 1, x0, x3, x5, x14, x15, x16, x27 => if x27 = true then (some false) else (ephemerisref2_Dependent.l1 k x0 x3 x5 x14 x15 x16 x0 (x0.length : Int) 0)
def ephemerisref2_Dependent.l1 : Nat → List (List Int) → Int → List Int → List (List Int) → Int → Int → List (List Int) → Int → Int → Option (Bool)
  | 0, _, _, _, _, _, _, _, _, _ => none
  | k + 1, x0, x3, x5, x14, x15, x16, x28, x29, x30 => if x30 < x29 then (if 0 ≤ x30 then (if x30 < (x28.length : Int) then (if x3 = 2 then (if 0 < (x5.length : Int) then (if 1 < ((rd_L1 x28 x30).length : Int) then (if 1 < (x5.length : Int) then (if 0 < ((rd_L1 x28 x30).length : Int) then (ephemerisref2_Dependent.j3 k x0 x3 x5 (rd_L1 x28 x30) x14 x15 x16 x28 x29 x30 ((wrap64 ((rd x5 0) * (rd (rd_L1 x28 x30) 1))) != (wrap64 ((rd x5 1) * (rd (rd_L1 x28 x30) 0))))) else (none)) else (none)) else (none)) else (none)) else (ephemerisref2_Dependent.j3 k x0 x3 x5 (rd_L1 x28 x30) x14 x15 x16 x28 x29 x30 false)) else (none)) else (none)) else (ephemerisref2_Dependent.l0 k x0 x3 x14 x15 (wrap64 (x16 + 1)))
def ephemerisref2_Dependent.j3 : Nat → List (List Int) → Int → List Int → List Int → List (List Int) → Int → Int → List (List Int) → Int → Int → Bool → Option (Bool)
  | 0, _, _, _, _, _, _, _, _, _, _, _ => none
  | k + 1, x0, x3, x5, x7, x14, x15, x16, x28, x29, x30, x52 => if x52 = true then (some false) else (ephemerisref2_Dependent.l2 k x0 x3 x5 x7 x14 x15 x16 x28 x29 x30 x0 (x0.length : Int) 0)
def ephemerisref2_Dependent.l2 : Nat → List (List Int) → Int → List Int → List Int → List (List Int) → Int → Int → List (List Int) → Int → Int → List (List Int) → Int → Int → Option (Bool)
  | 0, _, _, _, _, _, _, _, _, _, _, _, _, _ => none
  | k + 1, x0, x3, x5, x7, x14, x15, x16, x28, x29, x30, x53, x54, x55 => if x55 < x54 then (if 0 ≤ x55 then (if x55 < (x53.length : Int) then (if x3 = 3 then (if 0 < (x5.length : Int) then (if 1 < (x7.length : Int) then (if 2 < ((rd_L1 x53 x55).length : Int) then (if 2 < (x7.length : Int) then (if 1 < ((rd_L1 x53 x55).length : Int) then (if 1 < (x5.length : Int) then (if 0 < (x7.length : Int) then (if 0 < ((rd_L1 x53 x55).length : Int) then (if 2 < (x5.length : Int) then (if (wrap64 ((wrap64 ((wrap64 ((rd x5 0) * (wrap64 ((wrap64 ((rd x7 1) * (rd (rd_L1 x53 x55) 2))) - (wrap64 ((rd x7 2) * (rd (rd_L1 x53 x55) 1))))))) - (wrap64 ((rd x5 1) * (wrap64 ((wrap64 ((rd x7 0) * (rd (rd_L1 x53 x55) 2))) - (wrap64 ((rd x7 2) * (rd (rd_L1 x53 x55) 0))))))))) + (wrap64 ((rd x5 2) * (wrap64 ((wrap64 ((rd x7 0) * (rd (rd_L1 x53 x55) 1))) - (wrap64 ((rd x7 1) * (rd (rd_L1 x53 x55) 0))))))))) = 0 then (ephemerisref2_Dependent.l2 k x0 x3 x5 x7 x14 x15 x16 x28 x29 x30 x53 x54 (wrap64 (x55 + 1))) else (some false)) else (none)) else (none)) else (none)) else (none)) else (none)) else (none)) else (none)) else (none)) else (none)) else (ephemerisref2_Dependent.l2 k x0 x3 x5 x7 x14 x15 x16 x28 x29 x30 x53 x54 (wrap64 (x55 + 1)))) else (none)) else (none)) else (ephemerisref2_Dependent.l1 k x0 x3 x5 x14 x15 x16 x28 x29 (wrap64 (x30 + 1)))
end
def ephemerisref2_Dependent.f (k : Nat) (l0 : List (List Int)) : Option (Bool) := if 0 < (l0.length : Int) then (ephemerisref2_Dependent.l0 k l0 ((rd_L1 l0 0).length : Int) l0 (l0.length : Int) 0) else (none)
set_option maxHeartbeats 8000000 in
set_option maxRecDepth 100000 in
theorem ephemerisref2_Dependent.calls (k : Nat) (A0 : Option Addr) (c0 : Nat) (l0 : List (List Int)) (r : Bool) (w : World) (hr0 : Kd.C (Kd.slice 3 (Kd.int .i64)) w A0 l0.length l0) (hc0 : l0.length ≤ c0) (h : ephemerisref2_Dependent.f k l0 = some r) :
    Calls Try.prog 20 #[.slice A0 l0.length c0] w fun e w' => e = .returned (.bool r) ∧ Drawn0 w w' := by
  have HR0 := Aside0.mk hr0
  have HC0 := Aside0.mk hc0
  clear hr0 hc0
  have H : (if 0 < (l0.length : Int) then (ephemerisref2_Dependent.l0 k l0 ((rd_L1 l0 0).length : Int) l0 (l0.length : Int) 0) else (none)) = some r := h
  clear h
  by_cases c2 : 0 < (l0.length : Int)
  · rw [if_pos c2] at H
    have c2b0 : decide (0 < (l0.length : Int)) = true := decide_eq_true c2
    have c2b1 : decide (0 < l0.length) = true := decide_eq_true (by omega)
    clear c2
    have H' := Aside0.mk H
    clear H
    have p211 : 0 ≤ (0 : Int) := (by omega)
    have q211 : 0 < (l0.length : Int) := of_decide_eq_true (by first | (with_reducible assumption) | assumption)
    obtain ⟨ad211, A211_0, c211_0, e211, hx211_0, hl211_0, hi211_0⟩ := at_L1 HR0.out 0 p211 q211
    cases e211
    have qi211 : (0 < l0.length) = True := eq_true (by omega)
    (try rw [show ((0 : Int)).toNat = 0 from rfl] at hx211_0)
    (try rw [Addr.add_zero'] at hx211_0)
    have HR211_0 := Aside0.mk hi211_0
    have HC211_0 := Aside0.mk hl211_0
    clear hi211_0 hl211_0
    replace p211 := eq_true p211
    replace q211 := eq_true q211
    go_enter Try.func20, Try.ntmps20
    go_wp2
    repeat (go_quiet (fail); try go_wp2)
    go_loopg [16] k (fun kq v16 w' => ∃ (x16_1 : Int), v16 = .int .i64 x16_1 ∧ Aside0 (ephemerisref2_Dependent.l0 kq l0 ((rd_L1 l0 0).length : Int) l0 (l0.length : Int) x16_1 = some r) ∧ Aside0 (kq ≤ k) ∧ Drawn0 w w')
    case atStart => exact ⟨(0), (by first | rfl | (simp; done) | (simp [*]; done)), H', ⟨Nat.le_refl _⟩, by repeat (first | exact Drawn0.refl _ | apply Drawn0.step)⟩
    case round =>
      clear H'
      try clear c2
      try clear c2b0
      try clear c2b1
      try clear p2
      try clear q2
      try clear hx2
      try clear qi2
      try clear hx211_0
      try clear p211
      try clear q211
      obtain ⟨x16_1, rfl, HA, HK1, ⟨m1, rfl⟩⟩ := hrel
      cases gk with
      | zero => exact absurd HA.out (by simp [ephemerisref2_Dependent.l0])
      | succ k1 =>
        have H := HA.out
        clear HA
        simp only [ephemerisref2_Dependent.l0] at H
        by_cases c3 : x16_1 < (l0.length : Int)
        · rw [if_pos c3] at H
          have c3b0 : decide (x16_1 < (l0.length : Int)) = true := decide_eq_true c3
          clear c3
          by_cases c4 : 0 ≤ x16_1
          · rw [if_pos c4] at H
            have c4b0 : decide (0 ≤ x16_1) = true := decide_eq_true c4
            clear c4
            by_cases c5 : x16_1 < (l0.length : Int)
            · rw [if_pos c5] at H
              have c5b0 : decide (x16_1 < (l0.length : Int)) = true := decide_eq_true c5
              clear c5
              have HC6 := Aside0.mk H
              clear H
              have p212 : 0 ≤ (x16_1 : Int) := of_decide_eq_true (by first | (with_reducible assumption) | assumption)
              have q212 : x16_1 < (l0.length : Int) := of_decide_eq_true (by first | (with_reducible assumption) | assumption)
              obtain ⟨ad212, A212_0, c212_0, e212, hx212_0, hl212_0, hi212_0⟩ := at_L1 HR0.out x16_1 p212 q212
              obtain rfl : ad211 = ad212 := (by injection e212)
              have HR212_0 := Aside0.mk hi212_0
              have HC212_0 := Aside0.mk hl212_0
              clear hi212_0 hl212_0
              replace p212 := eq_true p212
              replace q212 := eq_true q212
              go_upto_region 5 with (fail)
              repeat (go_quiet (fail); go_upto_region 5 with (fail))
              go_cut [27] (fun v27 wc => ∃ (kq : Nat) (x27_5 : Bool), v27 = .bool x27_5 ∧ Aside0 (ephemerisref2_Dependent.j1 kq l0 ((rd_L1 l0 0).length : Int) (rd_L1 l0 x16_1) l0 (l0.length : Int) x16_1 x27_5 = some r) ∧ Aside0 (kq ≤ k1) ∧ Drawn0 w wc)
              case first =>
                have H := HC6.out
                clear HC6
                by_cases c7 : ((rd_L1 l0 0).length : Int) = 1
                · rw [if_pos c7] at H
                  have c7b0 : (((rd_L1 l0 0).length : Int) == 1) = true := beq_iff_eq.mpr c7
                  have c7b1 : (((rd_L1 l0 0).length : Int) != 1) = false := bne_eq_false_iff_eq.mpr c7
                  clear c7
                  (first | rw [c7b0] | (simp only [i64_w, i32_w]; rw [c7b0]) | skip)
                  by_cases c8 : 0 < ((rd_L1 l0 x16_1).length : Int)
                  · rw [if_pos c8] at H
                    have c8b0 : decide (0 < ((rd_L1 l0 x16_1).length : Int)) = true := decide_eq_true c8
                    have c8b1 : decide (0 < (rd_L1 l0 x16_1).length) = true := decide_eq_true (by omega)
                    clear c8
                    have H' := Aside0.mk H
                    clear H
                    have p213 : 0 ≤ (0 : Int) := (by omega)
                    have q213 : 0 < ((rd_L1 l0 x16_1).length : Int) := of_decide_eq_true (by first | (with_reducible assumption) | assumption)
                    obtain ⟨ad213, e213, hx213_0⟩ := Kd.at_int HR212_0.out 0 p213 q213
                    cases e213
                    have qi213 : (0 < (rd_L1 l0 x16_1).length) = True := eq_true (by omega)
                    (try rw [show ((0 : Int)).toNat = 0 from rfl] at hx213_0)
                    (try rw [Addr.add_zero'] at hx213_0)
                    replace p213 := eq_true p213
                    replace q213 := eq_true q213
                    go_wp2
                    repeat (go_quiet (fail); try go_wp2)
                    go_meet
                    case rel => exact ⟨_, (((rd (rd_L1 l0 x16_1) 0) != 0)), (by first | rfl | (simp; done) | (simp [*]; done)), H', ⟨by have := HK1.out; first | omega | exact Nat.le_refl _⟩, by repeat (first | exact Drawn0.refl _ | apply Drawn0.step)⟩
                  · rw [if_neg c8] at H
                    exact absurd H (by simp)
                · rw [if_neg c7] at H
                  have c7b0 : (((rd_L1 l0 0).length : Int) == 1) = false := beq_eq_false_iff_ne.mpr c7
                  have c7b1 : (((rd_L1 l0 0).length : Int) != 1) = true := bne_iff_ne.mpr c7
                  (first | rw [c7b0] | (simp only [i64_w, i32_w]; rw [c7b0]) | skip)
                  have H' := Aside0.mk H
                  clear H
                  go_wp2
                  repeat (go_quiet (fail); try go_wp2)
                  go_meet
                  case rel => exact ⟨_, (false), (by first | rfl | (simp; done) | (simp [*]; done)), H', ⟨by have := HK1.out; first | omega | exact Nat.le_refl _⟩, by repeat (first | exact Drawn0.refl _ | apply Drawn0.step)⟩
              case rest =>
                clear HC6
                try clear c2
                try clear c2b0
                try clear c2b1
                try clear p2
                try clear q2
                try clear hx2
                try clear qi2
                try clear c3
                try clear c3b0
                try clear c4
                try clear c4b0
                try clear c5
                try clear c5b0
                try clear c7
                try clear c7b0
                try clear c7b1
                try clear c8
                try clear c8b0
                try clear c8b1
                try clear hx211_0
                try clear hx212_0
                try clear hx213_0
                try clear p2
                try clear p211
                try clear p212
                try clear p213
                try clear q2
                try clear q211
                try clear q212
                try clear q213
                obtain ⟨kq, x27_5, rfl, HA, HJ5, ⟨mc5, rfl⟩⟩ := hcut
                cases kq with
                | zero => exact absurd HA.out (by simp [ephemerisref2_Dependent.j1])
                | succ kj5 =>
                  have H := HA.out
                  clear HA
                  simp only [ephemerisref2_Dependent.j1] at H
                  by_cases c9 : x27_5 = true
                  · subst c9
                    have H1 : (some false) = some r := by rw [if_pos rfl] at H; exact H
                    clear H
                    have H := H1
                    clear H1
                    obtain rfl := Option.some.inj H
                    simp only [Option.some.injEq, Prod.mk.injEq] at H
                    obtain ⟨rfl⟩ := H
                    go_wp2
                    repeat (go_quiet (fail); try go_wp2)
                    go_ret
                    exact ⟨by first | rfl | (simp; done) | (simp [*]; done), by repeat (first | exact Drawn0.refl _ | apply Drawn0.step)⟩
                  · replace c9 := Bool.eq_false_iff.mpr c9
                    subst c9
                    have H1 : (ephemerisref2_Dependent.l1 kj5 l0 ((rd_L1 l0 0).length : Int) (rd_L1 l0 x16_1) l0 (l0.length : Int) x16_1 l0 (l0.length : Int) 0) = some r := by rw [if_neg (show ¬ (false = true) by decide)] at H; exact H
                    clear H
                    have H := H1
                    clear H1
                    have H' := Aside0.mk H
                    clear H
                    go_wp2
                    repeat (go_quiet (fail); try go_wp2)
                    go_loopg [30] kj5 (fun kq v30 w' => ∃ (x30_3 : Int), v30 = .int .i64 x30_3 ∧ Aside0 (ephemerisref2_Dependent.l1 kq l0 ((rd_L1 l0 0).length : Int) (rd_L1 l0 x16_1) l0 (l0.length : Int) x16_1 l0 (l0.length : Int) x30_3 = some r) ∧ Aside0 (kq ≤ kj5) ∧ Drawn0 w w')
                    case atStart => exact ⟨(0), (by first | rfl | (simp; done) | (simp [*]; done)), H', ⟨Nat.le_refl _⟩, by repeat (first | exact Drawn0.refl _ | apply Drawn0.step)⟩
                    case round =>
                      clear H'
                      try clear c2
                      try clear c2b0
                      try clear c2b1
                      try clear p2
                      try clear q2
                      try clear hx2
                      try clear qi2
                      try clear c3
                      try clear c3b0
                      try clear c4
                      try clear c4b0
                      try clear c5
                      try clear c5b0
                      try clear c7
                      try clear c7b0
                      try clear c7b1
                      try clear c8
                      try clear c8b0
                      try clear c8b1
                      try clear c9
                      try clear hx211_0
                      try clear hx212_0
                      try clear hx213_0
                      try clear p2
                      try clear p211
                      try clear p212
                      try clear p213
                      try clear q2
                      try clear q211
                      try clear q212
                      try clear q213
                      obtain ⟨x30_3, rfl, HA, HK3, ⟨m3, rfl⟩⟩ := hrel
                      cases gk with
                      | zero => exact absurd HA.out (by simp [ephemerisref2_Dependent.l1])
                      | succ k3 =>
                        have H := HA.out
                        clear HA
                        simp only [ephemerisref2_Dependent.l1] at H
                        by_cases c10 : x30_3 < (l0.length : Int)
                        · rw [if_pos c10] at H
                          have c10b0 : decide (x30_3 < (l0.length : Int)) = true := decide_eq_true c10
                          clear c10
                          by_cases c11 : 0 ≤ x30_3
                          · rw [if_pos c11] at H
                            have c11b0 : decide (0 ≤ x30_3) = true := decide_eq_true c11
                            clear c11
                            by_cases c12 : x30_3 < (l0.length : Int)
                            · rw [if_pos c12] at H
                              have c12b0 : decide (x30_3 < (l0.length : Int)) = true := decide_eq_true c12
                              clear c12
                              have HC13 := Aside0.mk H
                              clear H
                              have p214 : 0 ≤ (x30_3 : Int) := of_decide_eq_true (by first | (with_reducible assumption) | assumption)
                              have q214 : x30_3 < (l0.length : Int) := of_decide_eq_true (by first | (with_reducible assumption) | assumption)
                              obtain ⟨ad214, A214_0, c214_0, e214, hx214_0, hl214_0, hi214_0⟩ := at_L1 HR0.out x30_3 p214 q214
                              obtain rfl : ad211 = ad214 := (by injection e214)
                              have HR214_0 := Aside0.mk hi214_0
                              have HC214_0 := Aside0.mk hl214_0
                              clear hi214_0 hl214_0
                              replace p214 := eq_true p214
                              replace q214 := eq_true q214
                              go_upto_region 10 with (fail)
                              repeat (go_quiet (fail); go_upto_region 10 with (fail))
                              go_cut [52] (fun v52 wc => ∃ (kq : Nat) (x52_12 : Bool), v52 = .bool x52_12 ∧ Aside0 (ephemerisref2_Dependent.j3 kq l0 ((rd_L1 l0 0).length : Int) (rd_L1 l0 x16_1) (rd_L1 l0 x30_3) l0 (l0.length : Int) x16_1 l0 (l0.length : Int) x30_3 x52_12 = some r) ∧ Aside0 (kq ≤ k3) ∧ Drawn0 w wc)
                              case first =>
                                have H := HC13.out
                                clear HC13
                                by_cases c14 : ((rd_L1 l0 0).length : Int) = 2
                                · rw [if_pos c14] at H
                                  have c14b0 : (((rd_L1 l0 0).length : Int) == 2) = true := beq_iff_eq.mpr c14
                                  have c14b1 : (((rd_L1 l0 0).length : Int) != 2) = false := bne_eq_false_iff_eq.mpr c14
                                  clear c14
                                  (first | rw [c14b0] | (simp only [i64_w, i32_w]; rw [c14b0]) | skip)
                                  by_cases c15 : 0 < ((rd_L1 l0 x16_1).length : Int)
                                  · rw [if_pos c15] at H
                                    have c15b0 : decide (0 < ((rd_L1 l0 x16_1).length : Int)) = true := decide_eq_true c15
                                    have c15b1 : decide (0 < (rd_L1 l0 x16_1).length) = true := decide_eq_true (by omega)
                                    clear c15
                                    by_cases c16 : 1 < ((rd_L1 l0 x30_3).length : Int)
                                    · rw [if_pos c16] at H
                                      have c16b0 : decide (1 < ((rd_L1 l0 x30_3).length : Int)) = true := decide_eq_true c16
                                      have c16b1 : decide (1 < (rd_L1 l0 x30_3).length) = true := decide_eq_true (by omega)
                                      clear c16
                                      by_cases c17 : 1 < ((rd_L1 l0 x16_1).length : Int)
                                      · rw [if_pos c17] at H
                                        have c17b0 : decide (1 < ((rd_L1 l0 x16_1).length : Int)) = true := decide_eq_true c17
                                        have c17b1 : decide (1 < (rd_L1 l0 x16_1).length) = true := decide_eq_true (by omega)
                                        clear c17
                                        by_cases c18 : 0 < ((rd_L1 l0 x30_3).length : Int)
                                        · rw [if_pos c18] at H
                                          have c18b0 : decide (0 < ((rd_L1 l0 x30_3).length : Int)) = true := decide_eq_true c18
                                          have c18b1 : decide (0 < (rd_L1 l0 x30_3).length) = true := decide_eq_true (by omega)
                                          clear c18
                                          have H' := Aside0.mk H
                                          clear H
                                          have p215 : 0 ≤ (0 : Int) := (by omega)
                                          have q215 : 0 < ((rd_L1 l0 x16_1).length : Int) := of_decide_eq_true (by first | (with_reducible assumption) | assumption)
                                          obtain ⟨ad215, e215, hx215_0⟩ := Kd.at_int HR212_0.out 0 p215 q215
                                          cases e215
                                          have qi215 : (0 < (rd_L1 l0 x16_1).length) = True := eq_true (by omega)
                                          (try rw [show ((0 : Int)).toNat = 0 from rfl] at hx215_0)
                                          (try rw [Addr.add_zero'] at hx215_0)
                                          replace p215 := eq_true p215
                                          replace q215 := eq_true q215
                                          have p216 : 0 ≤ (1 : Int) := (by omega)
                                          have q216 : 1 < ((rd_L1 l0 x30_3).length : Int) := of_decide_eq_true (by first | (with_reducible assumption) | assumption)
                                          obtain ⟨ad216, e216, hx216_0⟩ := Kd.at_int HR214_0.out 1 p216 q216
                                          cases e216
                                          (try simp only [show (1 : Int).toNat = 1 from rfl, Nat.reduceMul, Nat.reduceEqDiff, Go.Addr.add, ↓reduceIte] at hx216_0)
                                          have qi216 : (1 < (rd_L1 l0 x30_3).length) = True := eq_true (by omega)
                                          (try rw [show ((1 : Int)).toNat = 1 from rfl] at hx216_0)
                                          replace p216 := eq_true p216
                                          replace q216 := eq_true q216
                                          have p217 : 0 ≤ (1 : Int) := (by omega)
                                          have q217 : 1 < ((rd_L1 l0 x16_1).length : Int) := of_decide_eq_true (by first | (with_reducible assumption) | assumption)
                                          obtain ⟨ad217, e217, hx217_0⟩ := Kd.at_int HR212_0.out 1 p217 q217
                                          obtain rfl : ad215 = ad217 := (by injection e217)
                                          (try simp only [show (1 : Int).toNat = 1 from rfl, Nat.reduceMul, Nat.reduceEqDiff, Go.Addr.add, ↓reduceIte] at hx217_0)
                                          have qi217 : (1 < (rd_L1 l0 x16_1).length) = True := eq_true (by omega)
                                          (try rw [show ((1 : Int)).toNat = 1 from rfl] at hx217_0)
                                          replace p217 := eq_true p217
                                          replace q217 := eq_true q217
                                          have p218 : 0 ≤ (0 : Int) := (by omega)
                                          have q218 : 0 < ((rd_L1 l0 x30_3).length : Int) := of_decide_eq_true (by first | (with_reducible assumption) | assumption)
                                          obtain ⟨ad218, e218, hx218_0⟩ := Kd.at_int HR214_0.out 0 p218 q218
                                          obtain rfl : ad216 = ad218 := (by injection e218)
                                          have qi218 : (0 < (rd_L1 l0 x30_3).length) = True := eq_true (by omega)
                                          (try rw [show ((0 : Int)).toNat = 0 from rfl] at hx218_0)
                                          (try rw [Addr.add_zero'] at hx218_0)
                                          replace p218 := eq_true p218
                                          replace q218 := eq_true q218
                                          go_wp2
                                          repeat (go_quiet (fail); try go_wp2)
                                          go_meet
                                          case rel => exact ⟨_, (((wrap64 ((rd (rd_L1 l0 x16_1) 0) * (rd (rd_L1 l0 x30_3) 1))) != (wrap64 ((rd (rd_L1 l0 x16_1) 1) * (rd (rd_L1 l0 x30_3) 0))))), (by first | rfl | (simp; done) | (simp [*]; done)), H', ⟨by have := HK1.out; have := HJ5.out; have := HK3.out; first | omega | exact Nat.le_refl _⟩, by repeat (first | exact Drawn0.refl _ | apply Drawn0.step)⟩
                                        · rw [if_neg c18] at H
                                          exact absurd H (by simp)
                                      · rw [if_neg c17] at H
                                        exact absurd H (by simp)
                                    · rw [if_neg c16] at H
                                      exact absurd H (by simp)
                                  · rw [if_neg c15] at H
                                    exact absurd H (by simp)
                                · rw [if_neg c14] at H
                                  have c14b0 : (((rd_L1 l0 0).length : Int) == 2) = false := beq_eq_false_iff_ne.mpr c14
                                  have c14b1 : (((rd_L1 l0 0).length : Int) != 2) = true := bne_iff_ne.mpr c14
                                  (first | rw [c14b0] | (simp only [i64_w, i32_w]; rw [c14b0]) | skip)
                                  have H' := Aside0.mk H
                                  clear H
                                  go_wp2
                                  repeat (go_quiet (fail); try go_wp2)
                                  go_meet
                                  case rel => exact ⟨_, (false), (by first | rfl | (simp; done) | (simp [*]; done)), H', ⟨by have := HK1.out; have := HJ5.out; have := HK3.out; first | omega | exact Nat.le_refl _⟩, by repeat (first | exact Drawn0.refl _ | apply Drawn0.step)⟩
                              case rest =>
                                clear HC13
                                try clear c1
                                try clear c2
                                try clear c2b0
                                try clear c2b1
                                try clear p2
                                try clear q2
                                try clear hx2
                                try clear qi2
                                try clear c3
                                try clear c3b0
                                try clear c4
                                try clear c4b0
                                try clear c5
                                try clear c5b0
                                try clear p6
                                try clear c7
                                try clear c7b0
                                try clear c7b1
                                try clear c8
                                try clear c8b0
                                try clear c8b1
                                try clear c9
                                try clear c10
                                try clear c10b0
                                try clear c11
                                try clear c11b0
                                try clear c12
                                try clear c12b0
                                try clear c14
                                try clear c14b0
                                try clear c14b1
                                try clear c15
                                try clear c15b0
                                try clear c15b1
                                try clear c16
                                try clear c16b0
                                try clear c16b1
                                try clear c17
                                try clear c17b0
                                try clear c17b1
                                try clear c18
                                try clear c18b0
                                try clear c18b1
                                try clear hx211_0
                                try clear hx212_0
                                try clear hx213_0
                                try clear hx214_0
                                try clear hx215_0
                                try clear hx216_0
                                try clear hx217_0
                                try clear hx218_0
                                try clear p2
                                try clear p211
                                try clear p212
                                try clear p213
                                try clear p214
                                try clear p215
                                try clear p216
                                try clear p217
                                try clear p218
                                try clear q2
                                try clear q211
                                try clear q212
                                try clear q213
                                try clear q214
                                try clear q215
                                try clear q216
                                try clear q217
                                try clear q218
                                obtain ⟨kq, x52_12, rfl, HA, HJ12, ⟨mc12, rfl⟩⟩ := hcut
                                cases kq with
                                | zero => exact absurd HA.out (by simp [ephemerisref2_Dependent.j3])
                                | succ kj12 =>
                                  have H := HA.out
                                  clear HA
                                  simp only [ephemerisref2_Dependent.j3] at H
                                  by_cases c19 : x52_12 = true
                                  · subst c19
                                    have H1 : (some false) = some r := by rw [if_pos rfl] at H; exact H
                                    clear H
                                    have H := H1
                                    clear H1
                                    obtain rfl := Option.some.inj H
                                    simp only [Option.some.injEq, Prod.mk.injEq] at H
                                    obtain ⟨rfl⟩ := H
                                    go_wp2
                                    repeat (go_quiet (fail); try go_wp2)
                                    go_ret
                                    exact ⟨by first | rfl | (simp; done) | (simp [*]; done), by repeat (first | exact Drawn0.refl _ | apply Drawn0.step)⟩
                                  · replace c19 := Bool.eq_false_iff.mpr c19
                                    subst c19
                                    have H1 : (ephemerisref2_Dependent.l2 kj12 l0 ((rd_L1 l0 0).length : Int) (rd_L1 l0 x16_1) (rd_L1 l0 x30_3) l0 (l0.length : Int) x16_1 l0 (l0.length : Int) x30_3 l0 (l0.length : Int) 0) = some r := by rw [if_neg (show ¬ (false = true) by decide)] at H; exact H
                                    clear H
                                    have H := H1
                                    clear H1
                                    have H' := Aside0.mk H
                                    clear H
                                    go_wp2
                                    repeat (go_quiet (fail); try go_wp2)
                                    go_loopg [55] kj12 (fun kq v55 w' => ∃ (x55_5 : Int), v55 = .int .i64 x55_5 ∧ Aside0 (ephemerisref2_Dependent.l2 kq l0 ((rd_L1 l0 0).length : Int) (rd_L1 l0 x16_1) (rd_L1 l0 x30_3) l0 (l0.length : Int) x16_1 l0 (l0.length : Int) x30_3 l0 (l0.length : Int) x55_5 = some r) ∧ Aside0 (kq ≤ kj12) ∧ Drawn0 w w')
                                    case atStart => exact ⟨(0), (by first | rfl | (simp; done) | (simp [*]; done)), H', ⟨Nat.le_refl _⟩, by repeat (first | exact Drawn0.refl _ | apply Drawn0.step)⟩
                                    case round =>
                                      clear H'
                                      try clear c1
                                      try clear c2
                                      try clear c2b0
                                      try clear c2b1
                                      try clear p2
                                      try clear q2
                                      try clear hx2
                                      try clear qi2
                                      try clear c3
                                      try clear c3b0
                                      try clear c4
                                      try clear c4b0
                                      try clear c5
                                      try clear c5b0
                                      try clear p6
                                      try clear c7
                                      try clear c7b0
                                      try clear c7b1
                                      try clear c8
                                      try clear c8b0
                                      try clear c8b1
                                      try clear c9
                                      try clear c10
                                      try clear c10b0
                                      try clear c11
                                      try clear c11b0
                                      try clear c12
                                      try clear c12b0
                                      try clear c14
                                      try clear c14b0
                                      try clear c14b1
                                      try clear c15
                                      try clear c15b0
                                      try clear c15b1
                                      try clear c16
                                      try clear c16b0
                                      try clear c16b1
                                      try clear c17
                                      try clear c17b0
                                      try clear c17b1
                                      try clear c18
                                      try clear c18b0
                                      try clear c18b1
                                      try clear c19
                                      try clear hx211_0
                                      try clear hx212_0
                                      try clear hx213_0
                                      try clear hx214_0
                                      try clear hx215_0
                                      try clear hx216_0
                                      try clear hx217_0
                                      try clear hx218_0
                                      try clear p2
                                      try clear p211
                                      try clear p212
                                      try clear p213
                                      try clear p214
                                      try clear p215
                                      try clear p216
                                      try clear p217
                                      try clear p218
                                      try clear p6
                                      try clear q2
                                      try clear q211
                                      try clear q212
                                      try clear q213
                                      try clear q214
                                      try clear q215
                                      try clear q216
                                      try clear q217
                                      try clear q218
                                      obtain ⟨x55_5, rfl, HA, HK5, ⟨m5, rfl⟩⟩ := hrel
                                      cases gk with
                                      | zero => exact absurd HA.out (by simp [ephemerisref2_Dependent.l2])
                                      | succ k5 =>
                                        have H := HA.out
                                        clear HA
                                        simp only [ephemerisref2_Dependent.l2] at H
                                        by_cases c20 : x55_5 < (l0.length : Int)
                                        · rw [if_pos c20] at H
                                          have c20b0 : decide (x55_5 < (l0.length : Int)) = true := decide_eq_true c20
                                          clear c20
                                          by_cases c21 : 0 ≤ x55_5
                                          · rw [if_pos c21] at H
                                            have c21b0 : decide (0 ≤ x55_5) = true := decide_eq_true c21
                                            clear c21
                                            by_cases c22 : x55_5 < (l0.length : Int)
                                            · rw [if_pos c22] at H
                                              have c22b0 : decide (x55_5 < (l0.length : Int)) = true := decide_eq_true c22
                                              clear c22
                                              by_cases c23 : ((rd_L1 l0 0).length : Int) = 3
                                              · rw [if_pos c23] at H
                                                have c23b0 : (((rd_L1 l0 0).length : Int) == 3) = true := beq_iff_eq.mpr c23
                                                have c23b1 : (((rd_L1 l0 0).length : Int) != 3) = false := bne_eq_false_iff_eq.mpr c23
                                                clear c23
                                                by_cases c24 : 0 < ((rd_L1 l0 x16_1).length : Int)
                                                · rw [if_pos c24] at H
                                                  have c24b0 : decide (0 < ((rd_L1 l0 x16_1).length : Int)) = true := decide_eq_true c24
                                                  have c24b1 : decide (0 < (rd_L1 l0 x16_1).length) = true := decide_eq_true (by omega)
                                                  clear c24
                                                  by_cases c25 : 1 < ((rd_L1 l0 x30_3).length : Int)
                                                  · rw [if_pos c25] at H
                                                    have c25b0 : decide (1 < ((rd_L1 l0 x30_3).length : Int)) = true := decide_eq_true c25
                                                    have c25b1 : decide (1 < (rd_L1 l0 x30_3).length) = true := decide_eq_true (by omega)
                                                    clear c25
                                                    by_cases c26 : 2 < ((rd_L1 l0 x55_5).length : Int)
                                                    · rw [if_pos c26] at H
                                                      have c26b0 : decide (2 < ((rd_L1 l0 x55_5).length : Int)) = true := decide_eq_true c26
                                                      have c26b1 : decide (2 < (rd_L1 l0 x55_5).length) = true := decide_eq_true (by omega)
                                                      clear c26
                                                      by_cases c27 : 2 < ((rd_L1 l0 x30_3).length : Int)
                                                      · rw [if_pos c27] at H
                                                        have c27b0 : decide (2 < ((rd_L1 l0 x30_3).length : Int)) = true := decide_eq_true c27
                                                        have c27b1 : decide (2 < (rd_L1 l0 x30_3).length) = true := decide_eq_true (by omega)
                                                        clear c27
                                                        by_cases c28 : 1 < ((rd_L1 l0 x55_5).length : Int)
                                                        · rw [if_pos c28] at H
                                                          have c28b0 : decide (1 < ((rd_L1 l0 x55_5).length : Int)) = true := decide_eq_true c28
                                                          have c28b1 : decide (1 < (rd_L1 l0 x55_5).length) = true := decide_eq_true (by omega)
                                                          clear c28
                                                          by_cases c29 : 1 < ((rd_L1 l0 x16_1).length : Int)
                                                          · rw [if_pos c29] at H
                                                            have c29b0 : decide (1 < ((rd_L1 l0 x16_1).length : Int)) = true := decide_eq_true c29
                                                            have c29b1 : decide (1 < (rd_L1 l0 x16_1).length) = true := decide_eq_true (by omega)
                                                            clear c29
                                                            by_cases c30 : 0 < ((rd_L1 l0 x30_3).length : Int)
                                                            · rw [if_pos c30] at H
                                                              have c30b0 : decide (0 < ((rd_L1 l0 x30_3).length : Int)) = true := decide_eq_true c30
                                                              have c30b1 : decide (0 < (rd_L1 l0 x30_3).length) = true := decide_eq_true (by omega)
                                                              clear c30
                                                              by_cases c31 : 0 < ((rd_L1 l0 x55_5).length : Int)
                                                              · rw [if_pos c31] at H
                                                                have c31b0 : decide (0 < ((rd_L1 l0 x55_5).length : Int)) = true := decide_eq_true c31
                                                                have c31b1 : decide (0 < (rd_L1 l0 x55_5).length) = true := decide_eq_true (by omega)
                                                                clear c31
                                                                by_cases c32 : 2 < ((rd_L1 l0 x16_1).length : Int)
                                                                · rw [if_pos c32] at H
                                                                  have c32b0 : decide (2 < ((rd_L1 l0 x16_1).length : Int)) = true := decide_eq_true c32
                                                                  have c32b1 : decide (2 < (rd_L1 l0 x16_1).length) = true := decide_eq_true (by omega)
                                                                  clear c32
                                                                  by_cases c33 : (wrap64 ((wrap64 ((wrap64 ((rd (rd_L1 l0 x16_1) 0) * (wrap64 ((wrap64 ((rd (rd_L1 l0 x30_3) 1) * (rd (rd_L1 l0 x55_5) 2))) - (wrap64 ((rd (rd_L1 l0 x30_3) 2) * (rd (rd_L1 l0 x55_5) 1))))))) - (wrap64 ((rd (rd_L1 l0 x16_1) 1) * (wrap64 ((wrap64 ((rd (rd_L1 l0 x30_3) 0) * (rd (rd_L1 l0 x55_5) 2))) - (wrap64 ((rd (rd_L1 l0 x30_3) 2) * (rd (rd_L1 l0 x55_5) 0))))))))) + (wrap64 ((rd (rd_L1 l0 x16_1) 2) * (wrap64 ((wrap64 ((rd (rd_L1 l0 x30_3) 0) * (rd (rd_L1 l0 x55_5) 1))) - (wrap64 ((rd (rd_L1 l0 x30_3) 1) * (rd (rd_L1 l0 x55_5) 0))))))))) = 0
                                                                  · rw [if_pos c33] at H
                                                                    have c33b0 : ((wrap64 ((wrap64 ((wrap64 ((rd (rd_L1 l0 x16_1) 0) * (wrap64 ((wrap64 ((rd (rd_L1 l0 x30_3) 1) * (rd (rd_L1 l0 x55_5) 2))) - (wrap64 ((rd (rd_L1 l0 x30_3) 2) * (rd (rd_L1 l0 x55_5) 1))))))) - (wrap64 ((rd (rd_L1 l0 x16_1) 1) * (wrap64 ((wrap64 ((rd (rd_L1 l0 x30_3) 0) * (rd (rd_L1 l0 x55_5) 2))) - (wrap64 ((rd (rd_L1 l0 x30_3) 2) * (rd (rd_L1 l0 x55_5) 0))))))))) + (wrap64 ((rd (rd_L1 l0 x16_1) 2) * (wrap64 ((wrap64 ((rd (rd_L1 l0 x30_3) 0) * (rd (rd_L1 l0 x55_5) 1))) - (wrap64 ((rd (rd_L1 l0 x30_3) 1) * (rd (rd_L1 l0 x55_5) 0))))))))) == 0) = true := beq_iff_eq.mpr c33
                                                                    have c33b1 : ((wrap64 ((wrap64 ((wrap64 ((rd (rd_L1 l0 x16_1) 0) * (wrap64 ((wrap64 ((rd (rd_L1 l0 x30_3) 1) * (rd (rd_L1 l0 x55_5) 2))) - (wrap64 ((rd (rd_L1 l0 x30_3) 2) * (rd (rd_L1 l0 x55_5) 1))))))) - (wrap64 ((rd (rd_L1 l0 x16_1) 1) * (wrap64 ((wrap64 ((rd (rd_L1 l0 x30_3) 0) * (rd (rd_L1 l0 x55_5) 2))) - (wrap64 ((rd (rd_L1 l0 x30_3) 2) * (rd (rd_L1 l0 x55_5) 0))))))))) + (wrap64 ((rd (rd_L1 l0 x16_1) 2) * (wrap64 ((wrap64 ((rd (rd_L1 l0 x30_3) 0) * (rd (rd_L1 l0 x55_5) 1))) - (wrap64 ((rd (rd_L1 l0 x30_3) 1) * (rd (rd_L1 l0 x55_5) 0))))))))) != 0) = false := bne_eq_false_iff_eq.mpr c33
                                                                    clear c33
                                                                    have H' := Aside0.mk H
                                                                    clear H
                                                                    have p219 : 0 ≤ (x55_5 : Int) := of_decide_eq_true (by first | (with_reducible assumption) | assumption)
                                                                    have q219 : x55_5 < (l0.length : Int) := of_decide_eq_true (by first | (with_reducible assumption) | assumption)
                                                                    obtain ⟨ad219, A219_0, c219_0, e219, hx219_0, hl219_0, hi219_0⟩ := at_L1 HR0.out x55_5 p219 q219
                                                                    obtain rfl : ad211 = ad219 := (by injection e219)
                                                                    have HR219_0 := Aside0.mk hi219_0
                                                                    have HC219_0 := Aside0.mk hl219_0
                                                                    clear hi219_0 hl219_0
                                                                    replace p219 := eq_true p219
                                                                    replace q219 := eq_true q219
                                                                    have p220 : 0 ≤ (0 : Int) := (by omega)
                                                                    have q220 : 0 < ((rd_L1 l0 x16_1).length : Int) := of_decide_eq_true (by first | (with_reducible assumption) | assumption)
                                                                    obtain ⟨ad220, e220, hx220_0⟩ := Kd.at_int HR212_0.out 0 p220 q220
                                                                    cases e220
                                                                    have qi220 : (0 < (rd_L1 l0 x16_1).length) = True := eq_true (by omega)
                                                                    (try rw [show ((0 : Int)).toNat = 0 from rfl] at hx220_0)
                                                                    (try rw [Addr.add_zero'] at hx220_0)
                                                                    replace p220 := eq_true p220
                                                                    replace q220 := eq_true q220
                                                                    have p221 : 0 ≤ (1 : Int) := (by omega)
                                                                    have q221 : 1 < ((rd_L1 l0 x30_3).length : Int) := of_decide_eq_true (by first | (with_reducible assumption) | assumption)
                                                                    obtain ⟨ad221, e221, hx221_0⟩ := Kd.at_int HR214_0.out 1 p221 q221
                                                                    cases e221
                                                                    (try simp only [show (1 : Int).toNat = 1 from rfl, Nat.reduceMul, Nat.reduceEqDiff, Go.Addr.add, ↓reduceIte] at hx221_0)
                                                                    have qi221 : (1 < (rd_L1 l0 x30_3).length) = True := eq_true (by omega)
                                                                    (try rw [show ((1 : Int)).toNat = 1 from rfl] at hx221_0)
                                                                    replace p221 := eq_true p221
                                                                    replace q221 := eq_true q221
                                                                    have p222 : 0 ≤ (2 : Int) := (by omega)
                                                                    have q222 : 2 < ((rd_L1 l0 x55_5).length : Int) := of_decide_eq_true (by first | (with_reducible assumption) | assumption)
                                                                    obtain ⟨ad222, e222, hx222_0⟩ := Kd.at_int HR219_0.out 2 p222 q222
                                                                    cases e222
                                                                    (try simp only [show (2 : Int).toNat = 2 from rfl, Nat.reduceMul, Nat.reduceEqDiff, Go.Addr.add, ↓reduceIte] at hx222_0)
                                                                    have qi222 : (2 < (rd_L1 l0 x55_5).length) = True := eq_true (by omega)
                                                                    (try rw [show ((2 : Int)).toNat = 2 from rfl] at hx222_0)
                                                                    replace p222 := eq_true p222
                                                                    replace q222 := eq_true q222
                                                                    have p223 : 0 ≤ (2 : Int) := (by omega)
                                                                    have q223 : 2 < ((rd_L1 l0 x30_3).length : Int) := of_decide_eq_true (by first | (with_reducible assumption) | assumption)
                                                                    obtain ⟨ad223, e223, hx223_0⟩ := Kd.at_int HR214_0.out 2 p223 q223
                                                                    obtain rfl : ad221 = ad223 := (by injection e223)
                                                                    (try simp only [show (2 : Int).toNat = 2 from rfl, Nat.reduceMul, Nat.reduceEqDiff, Go.Addr.add, ↓reduceIte] at hx223_0)
                                                                    have qi223 : (2 < (rd_L1 l0 x30_3).length) = True := eq_true (by omega)
                                                                    (try rw [show ((2 : Int)).toNat = 2 from rfl] at hx223_0)
                                                                    replace p223 := eq_true p223
                                                                    replace q223 := eq_true q223
                                                                    have p224 : 0 ≤ (1 : Int) := (by omega)
                                                                    have q224 : 1 < ((rd_L1 l0 x55_5).length : Int) := of_decide_eq_true (by first | (with_reducible assumption) | assumption)
                                                                    obtain ⟨ad224, e224, hx224_0⟩ := Kd.at_int HR219_0.out 1 p224 q224
                                                                    obtain rfl : ad222 = ad224 := (by injection e224)
                                                                    (try simp only [show (1 : Int).toNat = 1 from rfl, Nat.reduceMul, Nat.reduceEqDiff, Go.Addr.add, ↓reduceIte] at hx224_0)
                                                                    have qi224 : (1 < (rd_L1 l0 x55_5).length) = True := eq_true (by omega)
                                                                    (try rw [show ((1 : Int)).toNat = 1 from rfl] at hx224_0)
                                                                    replace p224 := eq_true p224
                                                                    replace q224 := eq_true q224
                                                                    have p225 : 0 ≤ (1 : Int) := (by omega)
                                                                    have q225 : 1 < ((rd_L1 l0 x16_1).length : Int) := of_decide_eq_true (by first | (with_reducible assumption) | assumption)
                                                                    obtain ⟨ad225, e225, hx225_0⟩ := Kd.at_int HR212_0.out 1 p225 q225
                                                                    obtain rfl : ad220 = ad225 := (by injection e225)
                                                                    (try simp only [show (1 : Int).toNat = 1 from rfl, Nat.reduceMul, Nat.reduceEqDiff, Go.Addr.add, ↓reduceIte] at hx225_0)
                                                                    have qi225 : (1 < (rd_L1 l0 x16_1).length) = True := eq_true (by omega)
                                                                    (try rw [show ((1 : Int)).toNat = 1 from rfl] at hx225_0)
                                                                    replace p225 := eq_true p225
                                                                    replace q225 := eq_true q225
                                                                    have p226 : 0 ≤ (0 : Int) := (by omega)
                                                                    have q226 : 0 < ((rd_L1 l0 x30_3).length : Int) := of_decide_eq_true (by first | (with_reducible assumption) | assumption)
                                                                    obtain ⟨ad226, e226, hx226_0⟩ := Kd.at_int HR214_0.out 0 p226 q226
                                                                    obtain rfl : ad221 = ad226 := (by injection e226)
                                                                    have qi226 : (0 < (rd_L1 l0 x30_3).length) = True := eq_true (by omega)
                                                                    (try rw [show ((0 : Int)).toNat = 0 from rfl] at hx226_0)
                                                                    (try rw [Addr.add_zero'] at hx226_0)
                                                                    replace p226 := eq_true p226
                                                                    replace q226 := eq_true q226
                                                                    have p227 : 0 ≤ (2 : Int) := (by omega)
                                                                    have q227 : 2 < ((rd_L1 l0 x55_5).length : Int) := of_decide_eq_true (by first | (with_reducible assumption) | assumption)
                                                                    obtain ⟨ad227, e227, hx227_0⟩ := Kd.at_int HR219_0.out 2 p227 q227
                                                                    obtain rfl : ad222 = ad227 := (by injection e227)
                                                                    (try simp only [show (2 : Int).toNat = 2 from rfl, Nat.reduceMul, Nat.reduceEqDiff, Go.Addr.add, ↓reduceIte] at hx227_0)
                                                                    have qi227 : (2 < (rd_L1 l0 x55_5).length) = True := eq_true (by omega)
                                                                    (try rw [show ((2 : Int)).toNat = 2 from rfl] at hx227_0)
                                                                    replace p227 := eq_true p227
                                                                    replace q227 := eq_true q227
                                                                    have p228 : 0 ≤ (2 : Int) := (by omega)
                                                                    have q228 : 2 < ((rd_L1 l0 x30_3).length : Int) := of_decide_eq_true (by first | (with_reducible assumption) | assumption)
                                                                    obtain ⟨ad228, e228, hx228_0⟩ := Kd.at_int HR214_0.out 2 p228 q228
                                                                    obtain rfl : ad221 = ad228 := (by injection e228)
                                                                    (try simp only [show (2 : Int).toNat = 2 from rfl, Nat.reduceMul, Nat.reduceEqDiff, Go.Addr.add, ↓reduceIte] at hx228_0)
                                                                    have qi228 : (2 < (rd_L1 l0 x30_3).length) = True := eq_true (by omega)
                                                                    (try rw [show ((2 : Int)).toNat = 2 from rfl] at hx228_0)
                                                                    replace p228 := eq_true p228
                                                                    replace q228 := eq_true q228
                                                                    have p229 : 0 ≤ (0 : Int) := (by omega)
                                                                    have q229 : 0 < ((rd_L1 l0 x55_5).length : Int) := of_decide_eq_true (by first | (with_reducible assumption) | assumption)
                                                                    obtain ⟨ad229, e229, hx229_0⟩ := Kd.at_int HR219_0.out 0 p229 q229
                                                                    obtain rfl : ad222 = ad229 := (by injection e229)
                                                                    have qi229 : (0 < (rd_L1 l0 x55_5).length) = True := eq_true (by omega)
                                                                    (try rw [show ((0 : Int)).toNat = 0 from rfl] at hx229_0)
                                                                    (try rw [Addr.add_zero'] at hx229_0)
                                                                    replace p229 := eq_true p229
                                                                    replace q229 := eq_true q229
                                                                    have p230 : 0 ≤ (2 : Int) := (by omega)
                                                                    have q230 : 2 < ((rd_L1 l0 x16_1).length : Int) := of_decide_eq_true (by first | (with_reducible assumption) | assumption)
                                                                    obtain ⟨ad230, e230, hx230_0⟩ := Kd.at_int HR212_0.out 2 p230 q230
                                                                    obtain rfl : ad220 = ad230 := (by injection e230)
                                                                    (try simp only [show (2 : Int).toNat = 2 from rfl, Nat.reduceMul, Nat.reduceEqDiff, Go.Addr.add, ↓reduceIte] at hx230_0)
                                                                    have qi230 : (2 < (rd_L1 l0 x16_1).length) = True := eq_true (by omega)
                                                                    (try rw [show ((2 : Int)).toNat = 2 from rfl] at hx230_0)
                                                                    replace p230 := eq_true p230
                                                                    replace q230 := eq_true q230
                                                                    have p231 : 0 ≤ (0 : Int) := (by omega)
                                                                    have q231 : 0 < ((rd_L1 l0 x30_3).length : Int) := of_decide_eq_true (by first | (with_reducible assumption) | assumption)
                                                                    obtain ⟨ad231, e231, hx231_0⟩ := Kd.at_int HR214_0.out 0 p231 q231
                                                                    obtain rfl : ad221 = ad231 := (by injection e231)
                                                                    have qi231 : (0 < (rd_L1 l0 x30_3).length) = True := eq_true (by omega)
                                                                    (try rw [show ((0 : Int)).toNat = 0 from rfl] at hx231_0)
                                                                    (try rw [Addr.add_zero'] at hx231_0)
                                                                    replace p231 := eq_true p231
                                                                    replace q231 := eq_true q231
                                                                    have p232 : 0 ≤ (1 : Int) := (by omega)
                                                                    have q232 : 1 < ((rd_L1 l0 x55_5).length : Int) := of_decide_eq_true (by first | (with_reducible assumption) | assumption)
                                                                    obtain ⟨ad232, e232, hx232_0⟩ := Kd.at_int HR219_0.out 1 p232 q232
                                                                    obtain rfl : ad222 = ad232 := (by injection e232)
                                                                    (try simp only [show (1 : Int).toNat = 1 from rfl, Nat.reduceMul, Nat.reduceEqDiff, Go.Addr.add, ↓reduceIte] at hx232_0)
                                                                    have qi232 : (1 < (rd_L1 l0 x55_5).length) = True := eq_true (by omega)
                                                                    (try rw [show ((1 : Int)).toNat = 1 from rfl] at hx232_0)
                                                                    replace p232 := eq_true p232
                                                                    replace q232 := eq_true q232
                                                                    have p233 : 0 ≤ (1 : Int) := (by omega)
                                                                    have q233 : 1 < ((rd_L1 l0 x30_3).length : Int) := of_decide_eq_true (by first | (with_reducible assumption) | assumption)
                                                                    obtain ⟨ad233, e233, hx233_0⟩ := Kd.at_int HR214_0.out 1 p233 q233
                                                                    obtain rfl : ad221 = ad233 := (by injection e233)
                                                                    (try simp only [show (1 : Int).toNat = 1 from rfl, Nat.reduceMul, Nat.reduceEqDiff, Go.Addr.add, ↓reduceIte] at hx233_0)
                                                                    have qi233 : (1 < (rd_L1 l0 x30_3).length) = True := eq_true (by omega)
                                                                    (try rw [show ((1 : Int)).toNat = 1 from rfl] at hx233_0)
                                                                    replace p233 := eq_true p233
                                                                    replace q233 := eq_true q233
                                                                    have p234 : 0 ≤ (0 : Int) := (by omega)
                                                                    have q234 : 0 < ((rd_L1 l0 x55_5).length : Int) := of_decide_eq_true (by first | (with_reducible assumption) | assumption)
                                                                    obtain ⟨ad234, e234, hx234_0⟩ := Kd.at_int HR219_0.out 0 p234 q234
                                                                    obtain rfl : ad222 = ad234 := (by injection e234)
                                                                    have qi234 : (0 < (rd_L1 l0 x55_5).length) = True := eq_true (by omega)
                                                                    (try rw [show ((0 : Int)).toNat = 0 from rfl] at hx234_0)
                                                                    (try rw [Addr.add_zero'] at hx234_0)
                                                                    replace p234 := eq_true p234
                                                                    replace q234 := eq_true q234
                                                                    go_wp2
                                                                    repeat (go_quiet (fail); try go_wp2)
                                                                    go_roundg k5
                                                                    case measure => have := HK1.out; have := HJ5.out; have := HK3.out; have := HJ12.out; have := HK5.out; omega
                                                                    case rel => exact ⟨(wrap64 (x55_5 + 1)), (by first | rfl | (simp; done) | (simp [*]; done)), H', ⟨by have := HK1.out; have := HJ5.out; have := HK3.out; have := HJ12.out; have := HK5.out; omega⟩, by repeat (first | exact Drawn0.refl _ | apply Drawn0.step)⟩
                                                                  · rw [if_neg c33] at H
                                                                    have c33b0 : ((wrap64 ((wrap64 ((wrap64 ((rd (rd_L1 l0 x16_1) 0) * (wrap64 ((wrap64 ((rd (rd_L1 l0 x30_3) 1) * (rd (rd_L1 l0 x55_5) 2))) - (wrap64 ((rd (rd_L1 l0 x30_3) 2) * (rd (rd_L1 l0 x55_5) 1))))))) - (wrap64 ((rd (rd_L1 l0 x16_1) 1) * (wrap64 ((wrap64 ((rd (rd_L1 l0 x30_3) 0) * (rd (rd_L1 l0 x55_5) 2))) - (wrap64 ((rd (rd_L1 l0 x30_3) 2) * (rd (rd_L1 l0 x55_5) 0))))))))) + (wrap64 ((rd (rd_L1 l0 x16_1) 2) * (wrap64 ((wrap64 ((rd (rd_L1 l0 x30_3) 0) * (rd (rd_L1 l0 x55_5) 1))) - (wrap64 ((rd (rd_L1 l0 x30_3) 1) * (rd (rd_L1 l0 x55_5) 0))))))))) == 0) = false := beq_eq_false_iff_ne.mpr c33
                                                                    have c33b1 : ((wrap64 ((wrap64 ((wrap64 ((rd (rd_L1 l0 x16_1) 0) * (wrap64 ((wrap64 ((rd (rd_L1 l0 x30_3) 1) * (rd (rd_L1 l0 x55_5) 2))) - (wrap64 ((rd (rd_L1 l0 x30_3) 2) * (rd (rd_L1 l0 x55_5) 1))))))) - (wrap64 ((rd (rd_L1 l0 x16_1) 1) * (wrap64 ((wrap64 ((rd (rd_L1 l0 x30_3) 0) * (rd (rd_L1 l0 x55_5) 2))) - (wrap64 ((rd (rd_L1 l0 x30_3) 2) * (rd (rd_L1 l0 x55_5) 0))))))))) + (wrap64 ((rd (rd_L1 l0 x16_1) 2) * (wrap64 ((wrap64 ((rd (rd_L1 l0 x30_3) 0) * (rd (rd_L1 l0 x55_5) 1))) - (wrap64 ((rd (rd_L1 l0 x30_3) 1) * (rd (rd_L1 l0 x55_5) 0))))))))) != 0) = true := bne_iff_ne.mpr c33
                                                                    obtain rfl := Option.some.inj H
                                                                    simp only [Option.some.injEq, Prod.mk.injEq] at H
                                                                    obtain ⟨rfl⟩ := H
                                                                    have p219 : 0 ≤ (x55_5 : Int) := of_decide_eq_true (by first | (with_reducible assumption) | assumption)
                                                                    have q219 : x55_5 < (l0.length : Int) := of_decide_eq_true (by first | (with_reducible assumption) | assumption)
                                                                    obtain ⟨ad219, A219_0, c219_0, e219, hx219_0, hl219_0, hi219_0⟩ := at_L1 HR0.out x55_5 p219 q219
                                                                    obtain rfl : ad211 = ad219 := (by injection e219)
                                                                    have HR219_0 := Aside0.mk hi219_0
                                                                    have HC219_0 := Aside0.mk hl219_0
                                                                    clear hi219_0 hl219_0
                                                                    replace p219 := eq_true p219
                                                                    replace q219 := eq_true q219
                                                                    have p220 : 0 ≤ (0 : Int) := (by omega)
                                                                    have q220 : 0 < ((rd_L1 l0 x16_1).length : Int) := of_decide_eq_true (by first | (with_reducible assumption) | assumption)
                                                                    obtain ⟨ad220, e220, hx220_0⟩ := Kd.at_int HR212_0.out 0 p220 q220
                                                                    cases e220
                                                                    have qi220 : (0 < (rd_L1 l0 x16_1).length) = True := eq_true (by omega)
                                                                    (try rw [show ((0 : Int)).toNat = 0 from rfl] at hx220_0)
                                                                    (try rw [Addr.add_zero'] at hx220_0)
                                                                    replace p220 := eq_true p220
                                                                    replace q220 := eq_true q220
                                                                    have p221 : 0 ≤ (1 : Int) := (by omega)
                                                                    have q221 : 1 < ((rd_L1 l0 x30_3).length : Int) := of_decide_eq_true (by first | (with_reducible assumption) | assumption)
                                                                    obtain ⟨ad221, e221, hx221_0⟩ := Kd.at_int HR214_0.out 1 p221 q221
                                                                    cases e221
                                                                    (try simp only [show (1 : Int).toNat = 1 from rfl, Nat.reduceMul, Nat.reduceEqDiff, Go.Addr.add, ↓reduceIte] at hx221_0)
                                                                    have qi221 : (1 < (rd_L1 l0 x30_3).length) = True := eq_true (by omega)
                                                                    (try rw [show ((1 : Int)).toNat = 1 from rfl] at hx221_0)
                                                                    replace p221 := eq_true p221
                                                                    replace q221 := eq_true q221
                                                                    have p222 : 0 ≤ (2 : Int) := (by omega)
                                                                    have q222 : 2 < ((rd_L1 l0 x55_5).length : Int) := of_decide_eq_true (by first | (with_reducible assumption) | assumption)
                                                                    obtain ⟨ad222, e222, hx222_0⟩ := Kd.at_int HR219_0.out 2 p222 q222
                                                                    cases e222
                                                                    (try simp only [show (2 : Int).toNat = 2 from rfl, Nat.reduceMul, Nat.reduceEqDiff, Go.Addr.add, ↓reduceIte] at hx222_0)
                                                                    have qi222 : (2 < (rd_L1 l0 x55_5).length) = True := eq_true (by omega)
                                                                    (try rw [show ((2 : Int)).toNat = 2 from rfl] at hx222_0)
                                                                    replace p222 := eq_true p222
                                                                    replace q222 := eq_true q222
                                                                    have p223 : 0 ≤ (2 : Int) := (by omega)
                                                                    have q223 : 2 < ((rd_L1 l0 x30_3).length : Int) := of_decide_eq_true (by first | (with_reducible assumption) | assumption)
                                                                    obtain ⟨ad223, e223, hx223_0⟩ := Kd.at_int HR214_0.out 2 p223 q223
                                                                    obtain rfl : ad221 = ad223 := (by injection e223)
                                                                    (try simp only [show (2 : Int).toNat = 2 from rfl, Nat.reduceMul, Nat.reduceEqDiff, Go.Addr.add, ↓reduceIte] at hx223_0)
                                                                    have qi223 : (2 < (rd_L1 l0 x30_3).length) = True := eq_true (by omega)
                                                                    (try rw [show ((2 : Int)).toNat = 2 from rfl] at hx223_0)
                                                                    replace p223 := eq_true p223
                                                                    replace q223 := eq_true q223
                                                                    have p224 : 0 ≤ (1 : Int) := (by omega)
                                                                    have q224 : 1 < ((rd_L1 l0 x55_5).length : Int) := of_decide_eq_true (by first | (with_reducible assumption) | assumption)
                                                                    obtain ⟨ad224, e224, hx224_0⟩ := Kd.at_int HR219_0.out 1 p224 q224
                                                                    obtain rfl : ad222 = ad224 := (by injection e224)
                                                                    (try simp only [show (1 : Int).toNat = 1 from rfl, Nat.reduceMul, Nat.reduceEqDiff, Go.Addr.add, ↓reduceIte] at hx224_0)
                                                                    have qi224 : (1 < (rd_L1 l0 x55_5).length) = True := eq_true (by omega)
                                                                    (try rw [show ((1 : Int)).toNat = 1 from rfl] at hx224_0)
                                                                    replace p224 := eq_true p224
                                                                    replace q224 := eq_true q224
                                                                    have p225 : 0 ≤ (1 : Int) := (by omega)
                                                                    have q225 : 1 < ((rd_L1 l0 x16_1).length : Int) := of_decide_eq_true (by first | (with_reducible assumption) | assumption)
                                                                    obtain ⟨ad225, e225, hx225_0⟩ := Kd.at_int HR212_0.out 1 p225 q225
                                                                    obtain rfl : ad220 = ad225 := (by injection e225)
                                                                    (try simp only [show (1 : Int).toNat = 1 from rfl, Nat.reduceMul, Nat.reduceEqDiff, Go.Addr.add, ↓reduceIte] at hx225_0)
                                                                    have qi225 : (1 < (rd_L1 l0 x16_1).length) = True := eq_true (by omega)
                                                                    (try rw [show ((1 : Int)).toNat = 1 from rfl] at hx225_0)
                                                                    replace p225 := eq_true p225
                                                                    replace q225 := eq_true q225
                                                                    have p226 : 0 ≤ (0 : Int) := (by omega)
                                                                    have q226 : 0 < ((rd_L1 l0 x30_3).length : Int) := of_decide_eq_true (by first | (with_reducible assumption) | assumption)
                                                                    obtain ⟨ad226, e226, hx226_0⟩ := Kd.at_int HR214_0.out 0 p226 q226
                                                                    obtain rfl : ad221 = ad226 := (by injection e226)
                                                                    have qi226 : (0 < (rd_L1 l0 x30_3).length) = True := eq_true (by omega)
                                                                    (try rw [show ((0 : Int)).toNat = 0 from rfl] at hx226_0)
                                                                    (try rw [Addr.add_zero'] at hx226_0)
                                                                    replace p226 := eq_true p226
                                                                    replace q226 := eq_true q226
                                                                    have p227 : 0 ≤ (2 : Int) := (by omega)
                                                                    have q227 : 2 < ((rd_L1 l0 x55_5).length : Int) := of_decide_eq_true (by first | (with_reducible assumption) | assumption)
                                                                    obtain ⟨ad227, e227, hx227_0⟩ := Kd.at_int HR219_0.out 2 p227 q227
                                                                    obtain rfl : ad222 = ad227 := (by injection e227)
                                                                    (try simp only [show (2 : Int).toNat = 2 from rfl, Nat.reduceMul, Nat.reduceEqDiff, Go.Addr.add, ↓reduceIte] at hx227_0)
                                                                    have qi227 : (2 < (rd_L1 l0 x55_5).length) = True := eq_true (by omega)
                                                                    (try rw [show ((2 : Int)).toNat = 2 from rfl] at hx227_0)
                                                                    replace p227 := eq_true p227
                                                                    replace q227 := eq_true q227
                                                                    have p228 : 0 ≤ (2 : Int) := (by omega)
                                                                    have q228 : 2 < ((rd_L1 l0 x30_3).length : Int) := of_decide_eq_true (by first | (with_reducible assumption) | assumption)
                                                                    obtain ⟨ad228, e228, hx228_0⟩ := Kd.at_int HR214_0.out 2 p228 q228
                                                                    obtain rfl : ad221 = ad228 := (by injection e228)
                                                                    (try simp only [show (2 : Int).toNat = 2 from rfl, Nat.reduceMul, Nat.reduceEqDiff, Go.Addr.add, ↓reduceIte] at hx228_0)
                                                                    have qi228 : (2 < (rd_L1 l0 x30_3).length) = True := eq_true (by omega)
                                                                    (try rw [show ((2 : Int)).toNat = 2 from rfl] at hx228_0)
                                                                    replace p228 := eq_true p228
                                                                    replace q228 := eq_true q228
                                                                    have p229 : 0 ≤ (0 : Int) := (by omega)
                                                                    have q229 : 0 < ((rd_L1 l0 x55_5).length : Int) := of_decide_eq_true (by first | (with_reducible assumption) | assumption)
                                                                    obtain ⟨ad229, e229, hx229_0⟩ := Kd.at_int HR219_0.out 0 p229 q229
                                                                    obtain rfl : ad222 = ad229 := (by injection e229)
                                                                    have qi229 : (0 < (rd_L1 l0 x55_5).length) = True := eq_true (by omega)
                                                                    (try rw [show ((0 : Int)).toNat = 0 from rfl] at hx229_0)
                                                                    (try rw [Addr.add_zero'] at hx229_0)
                                                                    replace p229 := eq_true p229
                                                                    replace q229 := eq_true q229
                                                                    have p230 : 0 ≤ (2 : Int) := (by omega)
                                                                    have q230 : 2 < ((rd_L1 l0 x16_1).length : Int) := of_decide_eq_true (by first | (with_reducible assumption) | assumption)
                                                                    obtain ⟨ad230, e230, hx230_0⟩ := Kd.at_int HR212_0.out 2 p230 q230
                                                                    obtain rfl : ad220 = ad230 := (by injection e230)
                                                                    (try simp only [show (2 : Int).toNat = 2 from rfl, Nat.reduceMul, Nat.reduceEqDiff, Go.Addr.add, ↓reduceIte] at hx230_0)
                                                                    have qi230 : (2 < (rd_L1 l0 x16_1).length) = True := eq_true (by omega)
                                                                    (try rw [show ((2 : Int)).toNat = 2 from rfl] at hx230_0)
                                                                    replace p230 := eq_true p230
                                                                    replace q230 := eq_true q230
                                                                    have p231 : 0 ≤ (0 : Int) := (by omega)
                                                                    have q231 : 0 < ((rd_L1 l0 x30_3).length : Int) := of_decide_eq_true (by first | (with_reducible assumption) | assumption)
                                                                    obtain ⟨ad231, e231, hx231_0⟩ := Kd.at_int HR214_0.out 0 p231 q231
                                                                    obtain rfl : ad221 = ad231 := (by injection e231)
                                                                    have qi231 : (0 < (rd_L1 l0 x30_3).length) = True := eq_true (by omega)
                                                                    (try rw [show ((0 : Int)).toNat = 0 from rfl] at hx231_0)
                                                                    (try rw [Addr.add_zero'] at hx231_0)
                                                                    replace p231 := eq_true p231
                                                                    replace q231 := eq_true q231
                                                                    have p232 : 0 ≤ (1 : Int) := (by omega)
                                                                    have q232 : 1 < ((rd_L1 l0 x55_5).length : Int) := of_decide_eq_true (by first | (with_reducible assumption) | assumption)
                                                                    obtain ⟨ad232, e232, hx232_0⟩ := Kd.at_int HR219_0.out 1 p232 q232
                                                                    obtain rfl : ad222 = ad232 := (by injection e232)
                                                                    (try simp only [show (1 : Int).toNat = 1 from rfl, Nat.reduceMul, Nat.reduceEqDiff, Go.Addr.add, ↓reduceIte] at hx232_0)
                                                                    have qi232 : (1 < (rd_L1 l0 x55_5).length) = True := eq_true (by omega)
                                                                    (try rw [show ((1 : Int)).toNat = 1 from rfl] at hx232_0)
                                                                    replace p232 := eq_true p232
                                                                    replace q232 := eq_true q232
                                                                    have p233 : 0 ≤ (1 : Int) := (by omega)
                                                                    have q233 : 1 < ((rd_L1 l0 x30_3).length : Int) := of_decide_eq_true (by first | (with_reducible assumption) | assumption)
                                                                    obtain ⟨ad233, e233, hx233_0⟩ := Kd.at_int HR214_0.out 1 p233 q233
                                                                    obtain rfl : ad221 = ad233 := (by injection e233)
                                                                    (try simp only [show (1 : Int).toNat = 1 from rfl, Nat.reduceMul, Nat.reduceEqDiff, Go.Addr.add, ↓reduceIte] at hx233_0)
                                                                    have qi233 : (1 < (rd_L1 l0 x30_3).length) = True := eq_true (by omega)
                                                                    (try rw [show ((1 : Int)).toNat = 1 from rfl] at hx233_0)
                                                                    replace p233 := eq_true p233
                                                                    replace q233 := eq_true q233
                                                                    have p234 : 0 ≤ (0 : Int) := (by omega)
                                                                    have q234 : 0 < ((rd_L1 l0 x55_5).length : Int) := of_decide_eq_true (by first | (with_reducible assumption) | assumption)
                                                                    obtain ⟨ad234, e234, hx234_0⟩ := Kd.at_int HR219_0.out 0 p234 q234
                                                                    obtain rfl : ad222 = ad234 := (by injection e234)
                                                                    have qi234 : (0 < (rd_L1 l0 x55_5).length) = True := eq_true (by omega)
                                                                    (try rw [show ((0 : Int)).toNat = 0 from rfl] at hx234_0)
                                                                    (try rw [Addr.add_zero'] at hx234_0)
                                                                    replace p234 := eq_true p234
                                                                    replace q234 := eq_true q234
                                                                    go_wp2
                                                                    repeat (go_quiet (fail); try go_wp2)
                                                                    go_ret
                                                                    exact ⟨by first | rfl | (simp; done) | (simp [*]; done), by repeat (first | exact Drawn0.refl _ | apply Drawn0.step)⟩
                                                                · rw [if_neg c32] at H
                                                                  exact absurd H (by simp)
                                                              · rw [if_neg c31] at H
                                                                exact absurd H (by simp)
                                                            · rw [if_neg c30] at H
                                                              exact absurd H (by simp)
                                                          · rw [if_neg c29] at H
                                                            exact absurd H (by simp)
                                                        · rw [if_neg c28] at H
                                                          exact absurd H (by simp)
                                                      · rw [if_neg c27] at H
                                                        exact absurd H (by simp)
                                                    · rw [if_neg c26] at H
                                                      exact absurd H (by simp)
                                                  · rw [if_neg c25] at H
                                                    exact absurd H (by simp)
                                                · rw [if_neg c24] at H
                                                  exact absurd H (by simp)
                                              · rw [if_neg c23] at H
                                                have c23b0 : (((rd_L1 l0 0).length : Int) == 3) = false := beq_eq_false_iff_ne.mpr c23
                                                have c23b1 : (((rd_L1 l0 0).length : Int) != 3) = true := bne_iff_ne.mpr c23
                                                have H' := Aside0.mk H
                                                clear H
                                                have p219 : 0 ≤ (x55_5 : Int) := of_decide_eq_true (by first | (with_reducible assumption) | assumption)
                                                have q219 : x55_5 < (l0.length : Int) := of_decide_eq_true (by first | (with_reducible assumption) | assumption)
                                                obtain ⟨ad219, A219_0, c219_0, e219, hx219_0, hl219_0, hi219_0⟩ := at_L1 HR0.out x55_5 p219 q219
                                                obtain rfl : ad211 = ad219 := (by injection e219)
                                                have HR219_0 := Aside0.mk hi219_0
                                                have HC219_0 := Aside0.mk hl219_0
                                                clear hi219_0 hl219_0
                                                replace p219 := eq_true p219
                                                replace q219 := eq_true q219
                                                go_wp2
                                                repeat (go_quiet (fail); try go_wp2)
                                                go_roundg k5
                                                case measure => have := HK1.out; have := HJ5.out; have := HK3.out; have := HJ12.out; have := HK5.out; omega
                                                case rel => exact ⟨(wrap64 (x55_5 + 1)), (by first | rfl | (simp; done) | (simp [*]; done)), H', ⟨by have := HK1.out; have := HJ5.out; have := HK3.out; have := HJ12.out; have := HK5.out; omega⟩, by repeat (first | exact Drawn0.refl _ | apply Drawn0.step)⟩
                                            · rw [if_neg c22] at H
                                              exact absurd H (by simp)
                                          · rw [if_neg c21] at H
                                            exact absurd H (by simp)
                                        · rw [if_neg c20] at H
                                          have c20b0 : decide (x55_5 < (l0.length : Int)) = false := decide_eq_false c20
                                          clear c20
                                          have H' := Aside0.mk H
                                          clear H
                                          go_wp2
                                          repeat (go_quiet (fail); try go_wp2)
                                          go_roundg k5
                                          case measure => have := HK1.out; have := HJ5.out; have := HK3.out; have := HJ12.out; have := HK5.out; omega
                                          case rel => exact ⟨(wrap64 (x30_3 + 1)), (by first | rfl | (simp; done) | (simp [*]; done)), H', ⟨by have := HK1.out; have := HJ5.out; have := HK3.out; have := HJ12.out; have := HK5.out; omega⟩, by repeat (first | exact Drawn0.refl _ | apply Drawn0.step)⟩
                            · rw [if_neg c12] at H
                              exact absurd H (by simp)
                          · rw [if_neg c11] at H
                            exact absurd H (by simp)
                        · rw [if_neg c10] at H
                          have c10b0 : decide (x30_3 < (l0.length : Int)) = false := decide_eq_false c10
                          clear c10
                          have H' := Aside0.mk H
                          clear H
                          go_wp2
                          repeat (go_quiet (fail); try go_wp2)
                          go_roundg k3
                          case measure => have := HK1.out; have := HJ5.out; have := HK3.out; omega
                          case rel => exact ⟨(wrap64 (x16_1 + 1)), (by first | rfl | (simp; done) | (simp [*]; done)), H', ⟨by have := HK1.out; have := HJ5.out; have := HK3.out; omega⟩, by repeat (first | exact Drawn0.refl _ | apply Drawn0.step)⟩
            · rw [if_neg c5] at H
              exact absurd H (by simp)
          · rw [if_neg c4] at H
            exact absurd H (by simp)
        · rw [if_neg c3] at H
          have c3b0 : decide (x16_1 < (l0.length : Int)) = false := decide_eq_false c3
          clear c3
          obtain rfl := Option.some.inj H
          simp only [Option.some.injEq, Prod.mk.injEq] at H
          obtain ⟨rfl⟩ := H
          go_wp2
          repeat (go_quiet (fail); try go_wp2)
          go_ret
          exact ⟨by first | rfl | (simp; done) | (simp [*]; done), by repeat (first | exact Drawn0.refl _ | apply Drawn0.step)⟩
  · rw [if_neg c2] at H
    exact absurd H (by simp)
end Go.Proofs.Ytjbiebobhnbajaa.PAll
