/- Written by a program of this session out of the translation. -/
import Derived.Test.YtjbiebobhnbajaaGaugeFitsn3
import Derived.Test.YtjbiebobhnbajaaGaugeFitsn8
namespace Go.Proofs.Ytjbiebobhnbajaa.PAll
open Go.RowKit Go.Proofs.YtjbiebobhnbajaaW.PrintWords Go.Proofs.YtjbiebobhnbajaaW.PrintLast Go.Proofs.YtjbiebobhnbajaaW.PrintMore Go.Proofs.Ytjbiebobhnbajaa.More2
attribute [local go_sem] max2_int min2_int max_two min_two max_three min_three max_four min_four tdiv2e18_ tdiv1e18_ cellSS_  -- for this text's walks alone
set_option linter.unusedVariables false
set_option linter.unusedSimpArgs false
mutual
def ephemerislaw2_gaugeErr.j0 : Nat → List (List Int) → List Int → Bool → Option (Int)
  | 0, _, _, _ => none
  | k + 1, x0, x1, x35 => if x35 = true then (some 8) else (ephemerislaw2_gaugeErr.l0 k x0 x1 x0 (x0.length : Int) 0)
def ephemerislaw2_gaugeErr.l0 : Nat → List (List Int) → List Int → List (List Int) → Int → Int → Option (Int)
  | 0, _, _, _, _, _ => none
  | k + 1, x0, x1, x36, x37, x38 => if x38 < x37 then (if 0 ≤ x38 then (if x38 < (x36.length : Int) then (if 0 < (x0.length : Int) then (if ((rd_L1 x36 x38).length : Int) = ((rd_L1 x0 0).length : Int) then (ephemerislaw2_gaugeErr.l1 k x0 x1 x38 x36 x37 x38 (rd_L1 x36 x38) ((rd_L1 x36 x38).length : Int) 0) else (some 8)) else (none)) else (none)) else (none)) else (some 0)
def ephemerislaw2_gaugeErr.l1 : Nat → List (List Int) → List Int → Int → List (List Int) → Int → Int → List Int → Int → Int → Option (Int)
  | 0, _, _, _, _, _, _, _, _, _ => none
  | k + 1, x0, x1, x5, x36, x37, x38, x50, x51, x52 => if x52 < x51 then (if 0 ≤ x52 then (if x52 < (x50.length : Int) then ((ephemerislaw2_beyond.f (rd x50 x52) 10).bind fun t208 => (if t208 = true then (some 3) else (ephemerislaw2_gaugeErr.l1 k x0 x1 x5 x36 x37 x38 x50 x51 (wrap64 (x52 + 1))))) else (none)) else (none)) else (if 0 ≤ x5 then (if x5 < (x1.length : Int) then ((ephemerislaw2_beyond.f (rd x1 x5) 1000).bind fun t210 => (if t210 = true then (some 3) else (ephemerislaw2_gaugeErr.l0 k x0 x1 x36 x37 (wrap64 (x38 + 1))))) else (none)) else (none))
end
def ephemerislaw2_gaugeErr.f (k : Nat) (l0 : List (List Int)) (l1 : List Int) : Option (Int) := if (l0.length : Int) > 8 then (some 2) else (if (l0.length : Int) = 0 then (ephemerislaw2_gaugeErr.j0 k l0 l1 true) else (if (l1.length : Int) = (l0.length : Int) then (if 0 < (l0.length : Int) then (if ((rd_L1 l0 0).length : Int) = 0 then (ephemerislaw2_gaugeErr.j0 k l0 l1 true) else (ephemerislaw2_gaugeErr.j0 k l0 l1 (decide (((rd_L1 l0 0).length : Int) > 3)))) else (none)) else (ephemerislaw2_gaugeErr.j0 k l0 l1 true)))
set_option maxHeartbeats 8000000 in
set_option maxRecDepth 100000 in
theorem ephemerislaw2_gaugeErr.calls (k : Nat) (A0 : Option Addr) (c0 : Nat) (l0 : List (List Int)) (A1 : Option Addr) (c1 : Nat) (l1 : List Int) (r : Int) (w : World) (hr0 : Kd.C (Kd.slice 3 (Kd.int .i64)) w A0 l0.length l0) (hc0 : l0.length ≤ c0) (hr1 : Kd.C (Kd.int .i64) w A1 l1.length l1) (hc1 : l1.length ≤ c1) (h : ephemerislaw2_gaugeErr.f k l0 l1 = some r) :
    Calls Try.prog 18 #[.slice A0 l0.length c0, .slice A1 l1.length c1] w fun e w' => e = .returned (.int .i64 r) ∧ Drawn0 w w' := by
  have HR0 := Aside0.mk hr0
  have HC0 := Aside0.mk hc0
  clear hr0 hc0
  have HR1 := Aside0.mk hr1
  have HC1 := Aside0.mk hc1
  clear hr1 hc1
  have H : (if (l0.length : Int) > 8 then (some 2) else (if (l0.length : Int) = 0 then (ephemerislaw2_gaugeErr.j0 k l0 l1 true) else (if (l1.length : Int) = (l0.length : Int) then (if 0 < (l0.length : Int) then (if ((rd_L1 l0 0).length : Int) = 0 then (ephemerislaw2_gaugeErr.j0 k l0 l1 true) else (ephemerislaw2_gaugeErr.j0 k l0 l1 (decide (((rd_L1 l0 0).length : Int) > 3)))) else (none)) else (ephemerislaw2_gaugeErr.j0 k l0 l1 true)))) = some r := h
  clear h
  by_cases c3 : (l0.length : Int) > 8
  · rw [if_pos c3] at H
    have c3b0 : decide (8 < (l0.length : Int)) = true := decide_eq_true c3
    have c3b1 : decide (8 < l0.length) = true := decide_eq_true (by omega)
    clear c3
    obtain rfl := Option.some.inj H
    simp only [Option.some.injEq, Prod.mk.injEq] at H
    obtain ⟨rfl⟩ := H
    go_enter Try.func18, Try.ntmps18
    go_wp2
    go_ret
    exact ⟨by first | rfl | (simp; done) | (simp [*]; done), by repeat (first | exact Drawn0.refl _ | apply Drawn0.step)⟩
  · rw [if_neg c3] at H
    have c3b0 : decide (8 < (l0.length : Int)) = false := decide_eq_false c3
    have c3b1 : decide (8 < l0.length) = false := decide_eq_false (by omega)
    clear c3
    have HC4 := Aside0.mk H
    clear H
    go_enter Try.func18, Try.ntmps18
    go_upto_region 3 with (fail)
    go_cut [35] (fun v35 wc => ∃ (kq : Nat) (x35_3 : Bool), v35 = .bool x35_3 ∧ Aside0 (ephemerislaw2_gaugeErr.j0 kq l0 l1 x35_3 = some r) ∧ Aside0 (kq ≤ k) ∧ Drawn0 w wc)
    case first =>
      have H := HC4.out
      clear HC4
      by_cases c5 : (l0.length : Int) = 0
      · rw [if_pos c5] at H
        have c5b0 : ((l0.length : Int) == 0) = true := beq_iff_eq.mpr c5
        have c5b1 : ((l0.length : Int) != 0) = false := bne_eq_false_iff_eq.mpr c5
        clear c5
        (first | rw [c5b0] | (simp only [i64_w, i32_w]; rw [c5b0]) | skip)
        have H' := Aside0.mk H
        clear H
        go_wp2
        go_meet
        case rel => exact ⟨_, (true), (by first | rfl | (simp; done) | (simp [*]; done)), H', ⟨by first | omega | exact Nat.le_refl _⟩, by repeat (first | exact Drawn0.refl _ | apply Drawn0.step)⟩
      · rw [if_neg c5] at H
        have c5b0 : ((l0.length : Int) == 0) = false := beq_eq_false_iff_ne.mpr c5
        have c5b1 : ((l0.length : Int) != 0) = true := bne_iff_ne.mpr c5
        have c5b2 : ¬ (l0 = []) := fun h_ => c5 (by rw [h_]; rfl)
        (first | rw [c5b0] | (simp only [i64_w, i32_w]; rw [c5b0]) | skip)
        by_cases c6 : (l1.length : Int) = (l0.length : Int)
        · rw [if_pos c6] at H
          have c6b0 : ((l1.length : Int) == (l0.length : Int)) = true := beq_iff_eq.mpr c6
          have c6b1 : ((l1.length : Int) != (l0.length : Int)) = false := bne_eq_false_iff_eq.mpr c6
          have c6b2 : (l1.length == l0.length) = true := by first | simpa using c6 | (simp at c6 ⊢; omega)
          clear c6
          by_cases c7 : 0 < (l0.length : Int)
          · rw [if_pos c7] at H
            have c7b0 : decide (0 < (l0.length : Int)) = true := decide_eq_true c7
            have c7b1 : decide (0 < l0.length) = true := decide_eq_true (by omega)
            clear c7
            by_cases c8 : ((rd_L1 l0 0).length : Int) = 0
            · rw [if_pos c8] at H
              have c8b0 : (((rd_L1 l0 0).length : Int) == 0) = true := beq_iff_eq.mpr c8
              have c8b1 : (((rd_L1 l0 0).length : Int) != 0) = false := bne_eq_false_iff_eq.mpr c8
              clear c8
              have H' := Aside0.mk H
              clear H
              have p203 : 0 ≤ (0 : Int) := (by omega)
              have q203 : 0 < (l0.length : Int) := of_decide_eq_true (by first | (with_reducible assumption) | assumption)
              obtain ⟨ad203, A203_0, c203_0, e203, hx203_0, hl203_0, hi203_0⟩ := at_L1 HR0.out 0 p203 q203
              cases e203
              have qi203 : (0 < l0.length) = True := eq_true (by omega)
              (try rw [show ((0 : Int)).toNat = 0 from rfl] at hx203_0)
              (try rw [Addr.add_zero'] at hx203_0)
              have HR203_0 := Aside0.mk hi203_0
              have HC203_0 := Aside0.mk hl203_0
              clear hi203_0 hl203_0
              replace p203 := eq_true p203
              replace q203 := eq_true q203
              go_wp2
              go_meet
              case rel => exact ⟨_, (true), (by first | rfl | (simp; done) | (simp [*]; done)), H', ⟨by first | omega | exact Nat.le_refl _⟩, by repeat (first | exact Drawn0.refl _ | apply Drawn0.step)⟩
            · rw [if_neg c8] at H
              have c8b0 : (((rd_L1 l0 0).length : Int) == 0) = false := beq_eq_false_iff_ne.mpr c8
              have c8b1 : (((rd_L1 l0 0).length : Int) != 0) = true := bne_iff_ne.mpr c8
              have c8b2 : ¬ ((rd_L1 l0 0) = []) := fun h_ => c8 (by rw [h_]; rfl)
              have H' := Aside0.mk H
              clear H
              have p203 : 0 ≤ (0 : Int) := (by omega)
              have q203 : 0 < (l0.length : Int) := of_decide_eq_true (by first | (with_reducible assumption) | assumption)
              obtain ⟨ad203, A203_0, c203_0, e203, hx203_0, hl203_0, hi203_0⟩ := at_L1 HR0.out 0 p203 q203
              cases e203
              have qi203 : (0 < l0.length) = True := eq_true (by omega)
              (try rw [show ((0 : Int)).toNat = 0 from rfl] at hx203_0)
              (try rw [Addr.add_zero'] at hx203_0)
              have HR203_0 := Aside0.mk hi203_0
              have HC203_0 := Aside0.mk hl203_0
              clear hi203_0 hl203_0
              replace p203 := eq_true p203
              replace q203 := eq_true q203
              have p204 : 0 ≤ (0 : Int) := (by omega)
              have q204 : 0 < (l0.length : Int) := of_decide_eq_true (by first | (with_reducible assumption) | assumption)
              obtain ⟨ad204, A204_0, c204_0, e204, hx204_0, hl204_0, hi204_0⟩ := at_L1 HR0.out 0 p204 q204
              obtain rfl : ad203 = ad204 := (by injection e204)
              have qi204 : (0 < l0.length) = True := eq_true (by omega)
              (try rw [show ((0 : Int)).toNat = 0 from rfl] at hx204_0)
              (try rw [Addr.add_zero'] at hx204_0)
              have HR204_0 := Aside0.mk hi204_0
              have HC204_0 := Aside0.mk hl204_0
              clear hi204_0 hl204_0
              replace p204 := eq_true p204
              replace q204 := eq_true q204
              have ea_ := Option.some.inj (hx203_0.symm.trans hx204_0)
              injection ea_ with ea_ en_ ec_
              subst ea_
              subst ec_
              clear en_
              go_wp2
              go_meet
              case rel => exact ⟨_, (decide (((rd_L1 l0 0).length : Int) > 3)), (by first | rfl | (simp; done) | (simp [*]; done)), H', ⟨by first | omega | exact Nat.le_refl _⟩, by repeat (first | exact Drawn0.refl _ | apply Drawn0.step)⟩
          · rw [if_neg c7] at H
            exact absurd H (by simp)
        · rw [if_neg c6] at H
          have c6b0 : ((l1.length : Int) == (l0.length : Int)) = false := beq_eq_false_iff_ne.mpr c6
          have c6b1 : ((l1.length : Int) != (l0.length : Int)) = true := bne_iff_ne.mpr c6
          have c6b2 : (l1.length == l0.length) = false := by first | simpa using c6 | (simp at c6 ⊢; omega)
          have H' := Aside0.mk H
          clear H
          go_wp2
          go_meet
          case rel => exact ⟨_, (true), (by first | rfl | (simp; done) | (simp [*]; done)), H', ⟨by first | omega | exact Nat.le_refl _⟩, by repeat (first | exact Drawn0.refl _ | apply Drawn0.step)⟩
    case rest =>
      clear HC4
      try clear c1
      try clear c2
      try clear p2
      try clear q2
      try clear hx2
      try clear qi2
      try clear c3
      try clear c3b0
      try clear c3b1
      try clear c5
      try clear c5b0
      try clear c5b1
      try clear c5b2
      try clear c6
      try clear c6b0
      try clear c6b1
      try clear c6b2
      try clear c7
      try clear c7b0
      try clear c7b1
      try clear c8
      try clear c8b0
      try clear c8b1
      try clear c8b2
      try clear hx203_0
      try clear hx204_0
      try clear p203
      try clear p204
      try clear q203
      try clear q204
      obtain ⟨kq, x35_3, rfl, HA, HJ3, ⟨mc3, rfl⟩⟩ := hcut
      cases kq with
      | zero => exact absurd HA.out (by simp [ephemerislaw2_gaugeErr.j0])
      | succ kj3 =>
        have H := HA.out
        clear HA
        simp only [ephemerislaw2_gaugeErr.j0] at H
        by_cases c9 : x35_3 = true
        · subst c9
          have H1 : (some 8) = some r := by rw [if_pos rfl] at H; exact H
          clear H
          have H := H1
          clear H1
          obtain rfl := Option.some.inj H
          simp only [Option.some.injEq, Prod.mk.injEq] at H
          obtain ⟨rfl⟩ := H
          go_wp2
          go_ret
          exact ⟨by first | rfl | (simp; done) | (simp [*]; done), by repeat (first | exact Drawn0.refl _ | apply Drawn0.step)⟩
        · replace c9 := Bool.eq_false_iff.mpr c9
          subst c9
          have H1 : (ephemerislaw2_gaugeErr.l0 kj3 l0 l1 l0 (l0.length : Int) 0) = some r := by rw [if_neg (show ¬ (false = true) by decide)] at H; exact H
          clear H
          have H := H1
          clear H1
          have H' := Aside0.mk H
          clear H
          go_wp2
          go_loopg [38] kj3 (fun kq v38 w' => ∃ (x38_2 : Int), v38 = .int .i64 x38_2 ∧ Aside0 (ephemerislaw2_gaugeErr.l0 kq l0 l1 l0 (l0.length : Int) x38_2 = some r) ∧ Aside0 (kq ≤ kj3) ∧ Drawn0 w w')
          case atStart => exact ⟨(0), (by first | rfl | (simp; done) | (simp [*]; done)), H', ⟨Nat.le_refl _⟩, by repeat (first | exact Drawn0.refl _ | apply Drawn0.step)⟩
          case round =>
            clear H'
            try clear c1
            try clear c2
            try clear p2
            try clear q2
            try clear hx2
            try clear qi2
            try clear c3
            try clear c3b0
            try clear c3b1
            try clear c5
            try clear c5b0
            try clear c5b1
            try clear c5b2
            try clear c6
            try clear c6b0
            try clear c6b1
            try clear c6b2
            try clear c7
            try clear c7b0
            try clear c7b1
            try clear c8
            try clear c8b0
            try clear c8b1
            try clear c8b2
            try clear c9
            try clear hx203_0
            try clear hx204_0
            try clear p2
            try clear p203
            try clear p204
            try clear q2
            try clear q203
            try clear q204
            obtain ⟨x38_2, rfl, HA, HK2, ⟨m2, rfl⟩⟩ := hrel
            cases gk with
            | zero => exact absurd HA.out (by simp [ephemerislaw2_gaugeErr.l0])
            | succ k2 =>
              have H := HA.out
              clear HA
              simp only [ephemerislaw2_gaugeErr.l0] at H
              by_cases c10 : x38_2 < (l0.length : Int)
              · rw [if_pos c10] at H
                have c10b0 : decide (x38_2 < (l0.length : Int)) = true := decide_eq_true c10
                clear c10
                by_cases c11 : 0 ≤ x38_2
                · rw [if_pos c11] at H
                  have c11b0 : decide (0 ≤ x38_2) = true := decide_eq_true c11
                  clear c11
                  by_cases c12 : x38_2 < (l0.length : Int)
                  · rw [if_pos c12] at H
                    have c12b0 : decide (x38_2 < (l0.length : Int)) = true := decide_eq_true c12
                    clear c12
                    by_cases c13 : 0 < (l0.length : Int)
                    · rw [if_pos c13] at H
                      have c13b0 : decide (0 < (l0.length : Int)) = true := decide_eq_true c13
                      have c13b1 : decide (0 < l0.length) = true := decide_eq_true (by omega)
                      clear c13
                      by_cases c14 : ((rd_L1 l0 x38_2).length : Int) = ((rd_L1 l0 0).length : Int)
                      · rw [if_pos c14] at H
                        have c14b0 : (((rd_L1 l0 x38_2).length : Int) == ((rd_L1 l0 0).length : Int)) = true := beq_iff_eq.mpr c14
                        have c14b1 : (((rd_L1 l0 x38_2).length : Int) != ((rd_L1 l0 0).length : Int)) = false := bne_eq_false_iff_eq.mpr c14
                        have c14b2 : ((rd_L1 l0 x38_2).length == (rd_L1 l0 0).length) = true := by first | simpa using c14 | (simp at c14 ⊢; omega)
                        clear c14
                        have H' := Aside0.mk H
                        clear H
                        have p205 : 0 ≤ (x38_2 : Int) := of_decide_eq_true (by first | (with_reducible assumption) | assumption)
                        have q205 : x38_2 < (l0.length : Int) := of_decide_eq_true (by first | (with_reducible assumption) | assumption)
                        obtain ⟨ad205, A205_0, c205_0, e205, hx205_0, hl205_0, hi205_0⟩ := at_L1 HR0.out x38_2 p205 q205
                        cases e205
                        have HR205_0 := Aside0.mk hi205_0
                        have HC205_0 := Aside0.mk hl205_0
                        clear hi205_0 hl205_0
                        replace p205 := eq_true p205
                        replace q205 := eq_true q205
                        have p206 : 0 ≤ (0 : Int) := (by omega)
                        have q206 : 0 < (l0.length : Int) := of_decide_eq_true (by first | (with_reducible assumption) | assumption)
                        obtain ⟨ad206, A206_0, c206_0, e206, hx206_0, hl206_0, hi206_0⟩ := at_L1 HR0.out 0 p206 q206
                        obtain rfl : ad205 = ad206 := (by injection e206)
                        have qi206 : (0 < l0.length) = True := eq_true (by omega)
                        (try rw [show ((0 : Int)).toNat = 0 from rfl] at hx206_0)
                        (try rw [Addr.add_zero'] at hx206_0)
                        have HR206_0 := Aside0.mk hi206_0
                        have HC206_0 := Aside0.mk hl206_0
                        clear hi206_0 hl206_0
                        replace p206 := eq_true p206
                        replace q206 := eq_true q206
                        go_wp2
                        go_loopg [52] k2 (fun kq v52 w' => ∃ (x52_3 : Int), v52 = .int .i64 x52_3 ∧ Aside0 (ephemerislaw2_gaugeErr.l1 kq l0 l1 x38_2 l0 (l0.length : Int) x38_2 (rd_L1 l0 x38_2) ((rd_L1 l0 x38_2).length : Int) x52_3 = some r) ∧ Aside0 (kq ≤ k2) ∧ Drawn0 w w')
                        case atStart => exact ⟨(0), (by first | rfl | (simp; done) | (simp [*]; done)), H', ⟨Nat.le_refl _⟩, by repeat (first | exact Drawn0.refl _ | apply Drawn0.step)⟩
                        case round =>
                          clear H'
                          try clear c1
                          try clear c2
                          try clear p2
                          try clear q2
                          try clear hx2
                          try clear qi2
                          try clear c3
                          try clear c3b0
                          try clear c3b1
                          try clear c5
                          try clear c5b0
                          try clear c5b1
                          try clear c5b2
                          try clear c6
                          try clear c6b0
                          try clear c6b1
                          try clear c6b2
                          try clear c7
                          try clear c7b0
                          try clear c7b1
                          try clear c8
                          try clear c8b0
                          try clear c8b1
                          try clear c8b2
                          try clear c9
                          try clear c10
                          try clear c10b0
                          try clear c11
                          try clear c11b0
                          try clear c12
                          try clear c12b0
                          try clear c13
                          try clear c13b0
                          try clear c13b1
                          try clear c14
                          try clear c14b0
                          try clear c14b1
                          try clear c14b2
                          try clear hx203_0
                          try clear hx204_0
                          try clear hx205_0
                          try clear hx206_0
                          try clear p2
                          try clear p203
                          try clear p204
                          try clear p205
                          try clear p206
                          try clear q2
                          try clear q203
                          try clear q204
                          try clear q205
                          try clear q206
                          obtain ⟨x52_3, rfl, HA, HK3, ⟨m3, rfl⟩⟩ := hrel
                          cases gk with
                          | zero => exact absurd HA.out (by simp [ephemerislaw2_gaugeErr.l1])
                          | succ k3 =>
                            have H := HA.out
                            clear HA
                            simp only [ephemerislaw2_gaugeErr.l1] at H
                            by_cases c15 : x52_3 < ((rd_L1 l0 x38_2).length : Int)
                            · rw [if_pos c15] at H
                              have c15b0 : decide (x52_3 < ((rd_L1 l0 x38_2).length : Int)) = true := decide_eq_true c15
                              clear c15
                              by_cases c16 : 0 ≤ x52_3
                              · rw [if_pos c16] at H
                                have c16b0 : decide (0 ≤ x52_3) = true := decide_eq_true c16
                                clear c16
                                by_cases c17 : x52_3 < ((rd_L1 l0 x38_2).length : Int)
                                · rw [if_pos c17] at H
                                  have c17b0 : decide (x52_3 < ((rd_L1 l0 x38_2).length : Int)) = true := decide_eq_true c17
                                  clear c17
                                  replace H := Option.bind_eq_some_iff.mp H
                                  obtain ⟨t208, A180, H⟩ := H
                                  replace H : (if t208 = true then (some 3) else (ephemerislaw2_gaugeErr.l1 k3 l0 l1 x38_2 l0 (l0.length : Int) x38_2 (rd_L1 l0 x38_2) ((rd_L1 l0 x38_2).length : Int) (wrap64 (x52_3 + 1)))) = some r := H
                                  have A18 := Aside0.mk A180
                                  clear A180
                                  by_cases c19 : t208 = true
                                  · subst c19
                                    have H1 : (some 3) = some r := by rw [if_pos rfl] at H; exact H
                                    clear H
                                    have H := H1
                                    clear H1
                                    obtain rfl := Option.some.inj H
                                    simp only [Option.some.injEq, Prod.mk.injEq] at H
                                    obtain ⟨rfl⟩ := H
                                    have p207 : 0 ≤ (x52_3 : Int) := of_decide_eq_true (by first | (with_reducible assumption) | assumption)
                                    have q207 : x52_3 < ((rd_L1 l0 x38_2).length : Int) := of_decide_eq_true (by first | (with_reducible assumption) | assumption)
                                    obtain ⟨ad207, e207, hx207_0⟩ := Kd.at_int HR205_0.out x52_3 p207 q207
                                    cases e207
                                    replace p207 := eq_true p207
                                    replace q207 := eq_true q207
                                    go_wp2_with (first | ((with_reducible refine gate_callee (f := 48) rfl ?_); refine goesL_ (some 57) rfl rfl Try.func48 (by kernel_rfl) rfl #[.int .i64 (rd (rd_L1 l0 x38_2) x52_3), .int .i64 10] rfl (by (try simp only [List.map_toArray, List.map_cons, List.map_nil]); first | done | rfl | (simp only [List.length_drop, List.length_take]; rfl)) ?_; (with_reducible refine (ephemerislaw2_beyond.calls (rd (rd_L1 l0 x38_2) x52_3) 10 true _ A18.out).mono ?_); rintro e w' ⟨rfl, ⟨nd, rfl⟩⟩; refine ⟨_, rfl, ?_⟩))
                                    go_ret
                                    exact ⟨by first | rfl | (simp; done) | (simp [*]; done), by repeat (first | exact Drawn0.refl _ | apply Drawn0.step)⟩
                                  · replace c19 := Bool.eq_false_iff.mpr c19
                                    subst c19
                                    have H1 : (ephemerislaw2_gaugeErr.l1 k3 l0 l1 x38_2 l0 (l0.length : Int) x38_2 (rd_L1 l0 x38_2) ((rd_L1 l0 x38_2).length : Int) (wrap64 (x52_3 + 1))) = some r := by rw [if_neg (show ¬ (false = true) by decide)] at H; exact H
                                    clear H
                                    have H := H1
                                    clear H1
                                    have H' := Aside0.mk H
                                    clear H
                                    have p207 : 0 ≤ (x52_3 : Int) := of_decide_eq_true (by first | (with_reducible assumption) | assumption)
                                    have q207 : x52_3 < ((rd_L1 l0 x38_2).length : Int) := of_decide_eq_true (by first | (with_reducible assumption) | assumption)
                                    obtain ⟨ad207, e207, hx207_0⟩ := Kd.at_int HR205_0.out x52_3 p207 q207
                                    cases e207
                                    replace p207 := eq_true p207
                                    replace q207 := eq_true q207
                                    go_wp2_with (first | ((with_reducible refine gate_callee (f := 48) rfl ?_); refine goesL_ (some 57) rfl rfl Try.func48 (by kernel_rfl) rfl #[.int .i64 (rd (rd_L1 l0 x38_2) x52_3), .int .i64 10] rfl (by (try simp only [List.map_toArray, List.map_cons, List.map_nil]); first | done | rfl | (simp only [List.length_drop, List.length_take]; rfl)) ?_; (with_reducible refine (ephemerislaw2_beyond.calls (rd (rd_L1 l0 x38_2) x52_3) 10 false _ A18.out).mono ?_); rintro e w' ⟨rfl, ⟨nd, rfl⟩⟩; refine ⟨_, rfl, ?_⟩))
                                    go_roundg k3
                                    case measure => have := HJ3.out; have := HK2.out; have := HK3.out; omega
                                    case rel => exact ⟨(wrap64 (x52_3 + 1)), (by first | rfl | (simp; done) | (simp [*]; done)), H', ⟨by have := HJ3.out; have := HK2.out; have := HK3.out; omega⟩, by repeat (first | exact Drawn0.refl _ | apply Drawn0.step)⟩
                                · rw [if_neg c17] at H
                                  exact absurd H (by simp)
                              · rw [if_neg c16] at H
                                exact absurd H (by simp)
                            · rw [if_neg c15] at H
                              have c15b0 : decide (x52_3 < ((rd_L1 l0 x38_2).length : Int)) = false := decide_eq_false c15
                              clear c15
                              by_cases c20 : 0 ≤ x38_2
                              · rw [if_pos c20] at H
                                have c20b0 : decide (0 ≤ x38_2) = true := decide_eq_true c20
                                clear c20
                                by_cases c21 : x38_2 < (l1.length : Int)
                                · rw [if_pos c21] at H
                                  have c21b0 : decide (x38_2 < (l1.length : Int)) = true := decide_eq_true c21
                                  clear c21
                                  replace H := Option.bind_eq_some_iff.mp H
                                  obtain ⟨t210, A220, H⟩ := H
                                  replace H : (if t210 = true then (some 3) else (ephemerislaw2_gaugeErr.l0 k3 l0 l1 l0 (l0.length : Int) (wrap64 (x38_2 + 1)))) = some r := H
                                  have A22 := Aside0.mk A220
                                  clear A220
                                  by_cases c23 : t210 = true
                                  · subst c23
                                    have H1 : (some 3) = some r := by rw [if_pos rfl] at H; exact H
                                    clear H
                                    have H := H1
                                    clear H1
                                    obtain rfl := Option.some.inj H
                                    simp only [Option.some.injEq, Prod.mk.injEq] at H
                                    obtain ⟨rfl⟩ := H
                                    have p209 : 0 ≤ (x38_2 : Int) := of_decide_eq_true (by first | (with_reducible assumption) | assumption)
                                    have q209 : x38_2 < (l1.length : Int) := of_decide_eq_true (by first | (with_reducible assumption) | assumption)
                                    obtain ⟨ad209, e209, hx209_0⟩ := Kd.at_int HR1.out x38_2 p209 q209
                                    cases e209
                                    replace p209 := eq_true p209
                                    replace q209 := eq_true q209
                                    go_wp2_with (first | ((with_reducible refine gate_callee (f := 48) rfl ?_); refine goesL_ (some 63) rfl rfl Try.func48 (by kernel_rfl) rfl #[.int .i64 (rd l1 x38_2), .int .i64 1000] rfl (by (try simp only [List.map_toArray, List.map_cons, List.map_nil]); first | done | rfl | (simp only [List.length_drop, List.length_take]; rfl)) ?_; (with_reducible refine (ephemerislaw2_beyond.calls (rd l1 x38_2) 1000 true _ A22.out).mono ?_); rintro e w' ⟨rfl, ⟨nd, rfl⟩⟩; refine ⟨_, rfl, ?_⟩))
                                    go_ret
                                    exact ⟨by first | rfl | (simp; done) | (simp [*]; done), by repeat (first | exact Drawn0.refl _ | apply Drawn0.step)⟩
                                  · replace c23 := Bool.eq_false_iff.mpr c23
                                    subst c23
                                    have H1 : (ephemerislaw2_gaugeErr.l0 k3 l0 l1 l0 (l0.length : Int) (wrap64 (x38_2 + 1))) = some r := by rw [if_neg (show ¬ (false = true) by decide)] at H; exact H
                                    clear H
                                    have H := H1
                                    clear H1
                                    have H' := Aside0.mk H
                                    clear H
                                    have p209 : 0 ≤ (x38_2 : Int) := of_decide_eq_true (by first | (with_reducible assumption) | assumption)
                                    have q209 : x38_2 < (l1.length : Int) := of_decide_eq_true (by first | (with_reducible assumption) | assumption)
                                    obtain ⟨ad209, e209, hx209_0⟩ := Kd.at_int HR1.out x38_2 p209 q209
                                    cases e209
                                    replace p209 := eq_true p209
                                    replace q209 := eq_true q209
                                    go_wp2_with (first | ((with_reducible refine gate_callee (f := 48) rfl ?_); refine goesL_ (some 63) rfl rfl Try.func48 (by kernel_rfl) rfl #[.int .i64 (rd l1 x38_2), .int .i64 1000] rfl (by (try simp only [List.map_toArray, List.map_cons, List.map_nil]); first | done | rfl | (simp only [List.length_drop, List.length_take]; rfl)) ?_; (with_reducible refine (ephemerislaw2_beyond.calls (rd l1 x38_2) 1000 false _ A22.out).mono ?_); rintro e w' ⟨rfl, ⟨nd, rfl⟩⟩; refine ⟨_, rfl, ?_⟩))
                                    go_roundg k3
                                    case measure => have := HJ3.out; have := HK2.out; have := HK3.out; omega
                                    case rel => exact ⟨(wrap64 (x38_2 + 1)), (by first | rfl | (simp; done) | (simp [*]; done)), H', ⟨by have := HJ3.out; have := HK2.out; have := HK3.out; omega⟩, by repeat (first | exact Drawn0.refl _ | apply Drawn0.step)⟩
                                · rw [if_neg c21] at H
                                  exact absurd H (by simp)
                              · rw [if_neg c20] at H
                                exact absurd H (by simp)
                      · rw [if_neg c14] at H
                        have c14b0 : (((rd_L1 l0 x38_2).length : Int) == ((rd_L1 l0 0).length : Int)) = false := beq_eq_false_iff_ne.mpr c14
                        have c14b1 : (((rd_L1 l0 x38_2).length : Int) != ((rd_L1 l0 0).length : Int)) = true := bne_iff_ne.mpr c14
                        have c14b2 : ((rd_L1 l0 x38_2).length == (rd_L1 l0 0).length) = false := by first | simpa using c14 | (simp at c14 ⊢; omega)
                        obtain rfl := Option.some.inj H
                        simp only [Option.some.injEq, Prod.mk.injEq] at H
                        obtain ⟨rfl⟩ := H
                        have p205 : 0 ≤ (x38_2 : Int) := of_decide_eq_true (by first | (with_reducible assumption) | assumption)
                        have q205 : x38_2 < (l0.length : Int) := of_decide_eq_true (by first | (with_reducible assumption) | assumption)
                        obtain ⟨ad205, A205_0, c205_0, e205, hx205_0, hl205_0, hi205_0⟩ := at_L1 HR0.out x38_2 p205 q205
                        cases e205
                        have HR205_0 := Aside0.mk hi205_0
                        have HC205_0 := Aside0.mk hl205_0
                        clear hi205_0 hl205_0
                        replace p205 := eq_true p205
                        replace q205 := eq_true q205
                        have p206 : 0 ≤ (0 : Int) := (by omega)
                        have q206 : 0 < (l0.length : Int) := of_decide_eq_true (by first | (with_reducible assumption) | assumption)
                        obtain ⟨ad206, A206_0, c206_0, e206, hx206_0, hl206_0, hi206_0⟩ := at_L1 HR0.out 0 p206 q206
                        obtain rfl : ad205 = ad206 := (by injection e206)
                        have qi206 : (0 < l0.length) = True := eq_true (by omega)
                        (try rw [show ((0 : Int)).toNat = 0 from rfl] at hx206_0)
                        (try rw [Addr.add_zero'] at hx206_0)
                        have HR206_0 := Aside0.mk hi206_0
                        have HC206_0 := Aside0.mk hl206_0
                        clear hi206_0 hl206_0
                        replace p206 := eq_true p206
                        replace q206 := eq_true q206
                        go_wp2
                        go_ret
                        exact ⟨by first | rfl | (simp; done) | (simp [*]; done), by repeat (first | exact Drawn0.refl _ | apply Drawn0.step)⟩
                    · rw [if_neg c13] at H
                      exact absurd H (by simp)
                  · rw [if_neg c12] at H
                    exact absurd H (by simp)
                · rw [if_neg c11] at H
                  exact absurd H (by simp)
              · rw [if_neg c10] at H
                have c10b0 : decide (x38_2 < (l0.length : Int)) = false := decide_eq_false c10
                clear c10
                obtain rfl := Option.some.inj H
                simp only [Option.some.injEq, Prod.mk.injEq] at H
                obtain ⟨rfl⟩ := H
                go_wp2
                go_ret
                exact ⟨by first | rfl | (simp; done) | (simp [*]; done), by repeat (first | exact Drawn0.refl _ | apply Drawn0.step)⟩
end Go.Proofs.Ytjbiebobhnbajaa.PAll
